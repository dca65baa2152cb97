import PyProof.Rows.All
import Wide.All
import OpenK.AllK
import Wide.FinOn
import HandS.ForMost
import HandS.Deep
import KE.KDictKeyed
import KE.SortData
import HandS.Exc
import HandS.ExcOwn
import HandS.WordsExc
import HandS.Walk
import HandS.TupAny
import HandS.IsInst
import HandS.Style
import HandS.Zip
import KE.KDictWalk
import HandS.Dict
import HandS.SetKeys
import KE.KEqSeq
import KE.KDictCopyH
import KE.KDictSum
import HandS.Conv
import HandS.More
import KE.GoesEnum
import KE.KDictZip
import HandS.SetFor
import KE.DataFind
import KE.KDictDisplayH
import KE.KDictLaws
import HandS.ExcIs
import HandS.ExcValue
import PyProof.Rows.SetFrom
import HandS.SetIn
import HandS.Spec
import HandS.Defaults
import HandS.HeadHook1
import HandS.HeadHook2
import HandS.HeadEnd
import PyProof.ExcBaseAll.ValueError
import KE.KStateDown
import Lean
import HandS.Head0
import HandS.Head1
import HandS.Head2
import PySem.Challenge.RW_pocketpastes_k13_whole_desks
set_option Elab.async false
set_option linter.all false
set_option maxRecDepth 100000
/-! Z0: a small language of pure Python over data, its meaning. -/
namespace Z
open PySem

abbrev D := PyData
/-- a value: data, an object of the small heap, a caught exception -/
inductive Val where
  | d (x : D) | ref (n : Nat) | exc (c : Str) | scr (ns : List Int) | dic (kvs : List (Str × D))
/-- an object of the small heap -/
inductive Cell where
  | lst (vs : List Val) | fro (ds : List D) | tup (vs : List Val) | dict (lk : Bool) (kvs : List (D × Val)) | ins (c : Str) (fs : List (Str × Val))
abbrev MH := List Cell
inductive Res (α : Type) where
  | ok (a : α) (h : MH) | exc (c : Str) (h : MH) | bad
abbrev Env := List (Option Val)
inductive RS where
  | next (e : Env) (h : MH) | ret (v : Val) (h : MH) | brk (e : Env) (h : MH) | cont (e : Env) (h : MH) | exc (c : Str) (e : Env) (h : MH) | bad
abbrev FnS := List Val → MH → Res Val
structure Lib where
  fn : List FnS
  gl : List D
  fuel : Nat

def Res.bind {α β : Type} (r : Res α) (k : α → MH → Res β) : Res β := match r with
  | .ok a h => k a h
  | .exc c h => .exc c h
  | .bad => .bad
@[simp] theorem Res.bind_ok {α β : Type} (a : α) (h : MH) (k : α → MH → Res β) : (Res.ok a h).bind k = k a h := rfl
@[simp] theorem Res.bind_exc {α β : Type} (c : Str) (h : MH) (k : α → MH → Res β) : (Res.exc c h : Res α).bind k = .exc c h := rfl
@[simp] theorem Res.bind_bad {α β : Type} (k : α → MH → Res β) : (Res.bad : Res α).bind k = .bad := rfl

inductive Bop where | add | sub | mul | fdiv | mod | pow
inductive Cop where | eq | ne | lt | le | gt | ge | isin | notin | is_ | isnot
inductive Bfn where | len | list | tuple | all | any | sum | max | min | str | int | min2 | isInt | isBool | isStr | isTuple | isList | lenset | sorted | sortedset | dict | sumvals | sortedvals
inductive Mfn where | index | count | join | split | replace | get2 | values
inductive Mst where | append | pop | setdef

/-- what is bound -/
inductive Ct where
  | name (i : Nat) | pair (a b : Ct) | tri (a b c : Ct)
mutual
inductive Ce where
  | var (i : Nat) | none | bool (b : Bool) | int (i : Int) | str (s : Str) | glob (k : Nat)
  | tup (es : Ces) | lst (es : Ces)
  | alloc (e : Ce) | lstR (es : Ces) | dict (ks : List Str) (es : Ces)
  | bin (o : Bop) (a b : Ce) | neg (a : Ce)
  | cmp (o : Cop) (a b : Ce) | cmp2 (a b c : Ce)
  | and (es : Ces) | or (es : Ces) | not (a : Ce)
  | ite (c a b : Ce)
  | ix (a i : Ce) | sl (a lo hi : Ce) | no | rev (a : Ce)
  | call (f : Nat) (es : Ces)
  | blt (b : Bfn) (es : Ces)
  | mth (m : Mfn) (o : Ce) (es : Ces)
  | mst (m : Mst) (o : Ce) (es : Ces)
  | comp (tg : Ct) (src : Ci) (cond : Ces) (elt : Ce) (own : List Nat)
  | compR (tg : Ct) (src : Ci) (cond : Ces) (elt : Ce) (own : List Nat)
  | dictR (ks vs : Ces) | tupR (es : Ces)
  | isx (a : Ce) (cls : Str) (tab : List (Str × Bool))
  | fld (cs : List Str) (o : Ce) (f : Str)
  | lenc (c : Str) (k : Nat) (o : Ce)
  | mcall (c : Str) (m : Str) (k : Nat) (o : Ce) (es : Ces)
  | make (c : Str) (k : Nat) (es : Ces)
  | lock (a : Ce)
inductive Ces where
  | nil | cons (e : Ce) (es : Ces)
inductive Ci where
  | seq (e : Ce) | range1 (e : Ce) | range2 (a b : Ce) | enum (e : Ce) | zip (a b : Ce) | ezip (a b : Ce)
end
mutual
inductive Cs where
  | set (i : Nat) (e : Ce) | par (is : List Nat) (es : Ces) | asg (t : Ct) (e : Ce) | aug (i : Nat) (e : Ce)
  | sub (o i e : Ce) | expr (e : Ce) | ret (e : Ce) | ite (c : Ce) (a b : Css)
  | for_ (t : Ct) (src : Ci) (body : Css) | while_ (c : Ce) (body : Css) | raise (c : Str) | pass
  | setf (cs : List Str) (o : Ce) (f : Str) (e : Ce)
  | asgs (ts : List Ct) (es : Ces)
  | tryx (body : Css) (i : Nat) (j : Nat) (c : Str) (subs : List Str)
inductive Css where
  | nil | cons (s : Cs) (ss : Css)
end

def Ces.len : Ces → Nat
  | .nil => 0
  | .cons _ es => es.len + 1
/-! ### data -/
def sh (d : D) : Bool := SeqAt.shaped d
def lOk (n : Nat) : Bool := decide (n ≤ sizeLine)
def wOk (i : Int) : Bool := decide (-(2 ^ 64) < i) && decide (i < 2 ^ 64)
def binD : Bop → D → D → Option D
  | .add, .int i, .int j => some (.int (i + j))
  | .add, .str x, .str y => if lOk (x.length + y.length) then some (.str (x ++ y)) else none
  | .add, .tuple xs, .tuple ys => if lOk (xs.length + ys.length) then some (.tuple (xs ++ ys)) else none
  | .add, .list xs, .list ys => if lOk (xs.length + ys.length) then some (.list (xs ++ ys)) else none
  | .sub, .int i, .int j => some (.int (i - j))
  | .mul, .int i, .int j => if wOk i || wOk j then some (.int (i * j)) else none
  | .mul, .list xs, .int k => if decide (-(2 ^ 63) ≤ k) && decide (k < 2 ^ 63) && lOk (xs.length * k.toNat) then some (.list (List.replicate k.toNat xs).flatten) else none
  | .fdiv, .int i, .int j => if j != 0 && decide (j.natAbs < 1073741824) then some (.int (i.fdiv j)) else none
  | .mod, .int i, .int j => if j != 0 then some (.int (i.fmod j)) else none
  | .pow, .int i, .int j => if decide (0 ≤ j) && decide (j ≤ 1000000) && decide (i.natAbs < 2 ^ 64) then some (.int (i ^ j.toNat)) else none
  | _, _, _ => none
def inD (x : D) (ds : List D) : Bool := ds.any fun z => PyData.eqv z x
/-! ### dicts -/
mutual
/-- data as a dict's key -/
def keyN : D → Option NestedKey
  | .none => some .none
  | .int i => some (.num i)
  | .str x => some (.text x)
  | .tuple ds => (keysN ds).map .tup
  | .bool _ => none
  | .list _ => none
  | .dict _ => none
def keysN : List D → Option (List NestedKey)
  | [] => some []
  | d :: ds => (keyN d).bind fun k => (keysN ds).map (k :: ·)
end
/-- a key's kind: an int or a text, a tuple -/
def kindK : D → Option Bool
  | .int _ => some false
  | .str _ => some false
  | .tuple ds => match keyN (.tuple ds) with
    | some k => if decide (k.depth ≤ 8) then some true else none
    | none => none
  | _ => none
def kOk {α : Type} (kvs : List (D × α)) (k : D) : Bool := match kindK k with
  | some b => kvs.all fun q => kindK q.1 == some b
  | none => false
def dget {α : Type} (kvs : List (D × α)) (k : D) : Option α := (kvs.find? fun q => PyData.eqv q.1 k).map (·.2)
def dhas {α : Type} (kvs : List (D × α)) (k : D) : Bool := kvs.any fun q => PyData.eqv q.1 k
def dput {α : Type} (kvs : List (D × α)) (k : D) (v : α) : List (D × α) := if dhas kvs k then kvs.map (fun q => if PyData.eqv q.1 k then (q.1, v) else q) else kvs ++ [(k, v)]
/-- a dict of pairs -/
def dputs (kvs : List (D × D)) : List D → Option (List (D × D))
  | [] => some kvs
  | .tuple [k, v] :: r => if kOk kvs k then dputs (dput kvs k v) r else none
  | _ :: _ => none
/-- may be sorted -/
def srtOk (ds : List D) : Bool := (ds.all fun a => ds.all fun b => PySem.W.alike a b) && ((ds.all fun d => match d with
  | .tuple (_ :: _) => true
  | _ => false) || (ds.all fun d => match d with
  | .none => false
  | .tuple _ => false
  | _ => true)) && ds.all sh && lOk ds.length
def srt (ds : List D) : List D := ds.mergeSort (PySem.W.dataLe false id)
def cmpD : Cop → D → D → Option Bool
  | .eq, a, b => if sh a && sh b then some (PyData.eqv a b) else none
  | .ne, a, b => if sh a && sh b then some (!PyData.eqv a b) else none
  | .lt, .int i, .int j => some (decide (i < j))
  | .le, .int i, .int j => some (decide (i ≤ j))
  | .gt, .int i, .int j => some (decide (j < i))
  | .ge, .int i, .int j => some (decide (j ≤ i))
  | .isin, x, .list ds => if sh x && sh (.list ds) then some (inD x ds) else none
  | .notin, x, .list ds => if sh x && sh (.list ds) then some (!inD x ds) else none
  | .isin, x, .tuple ds => if sh x && sh (.tuple ds) then some (inD x ds) else none
  | .notin, x, .tuple ds => if sh x && sh (.tuple ds) then some (!inD x ds) else none
  | .isin, x, .dict kvs => if kOk kvs x then some (dhas kvs x) else none
  | .notin, x, .dict kvs => if kOk kvs x then some (!dhas kvs x) else none
  | .is_, .none, .none => some true
  | .is_, .bool a, .bool b => some (decide (a = b))
  | .is_, .bool _, .none => some false
  | .is_, .int _, .none => some false
  | .is_, .str _, .none => some false
  | .is_, .list _, .none => some false
  | .is_, .tuple _, .none => some false
  | .is_, .dict _, .none => some false
  | .isnot, .none, .none => some false
  | .isnot, .bool a, .bool b => some (!decide (a = b))
  | .isnot, .bool _, .none => some true
  | .isnot, .int _, .none => some true
  | .isnot, .str _, .none => some true
  | .isnot, .list _, .none => some true
  | .isnot, .tuple _, .none => some true
  | .isnot, .dict _, .none => some true
  | _, _, _ => none
def cutD (xs : List D) (lo hi : Option Int) : List D := (xs.drop (HT.sIx xs.length 0 lo)).take (HT.sIx xs.length xs.length hi - HT.sIx xs.length 0 lo)
def slD : D → Option Int → Option Int → Option D
  | .list xs, lo, hi => some (.list (cutD xs lo hi))
  | .tuple xs, lo, hi => some (.tuple (cutD xs lo hi))
  | _, _, _ => none
def ixD : D → D → Option D
  | .list xs, .int i => L2.atI xs i
  | .tuple xs, .int i => L2.atI xs i
  | .dict kvs, k => if kOk kvs k then dget kvs k else none
  | _, _ => none
def boolsOf : List D → Option (List Bool)
  | [] => some []
  | .bool b :: r => (boolsOf r).map (b :: ·)
  | _ :: _ => none
def intsOf : List D → Option (List Int)
  | [] => some []
  | .int b :: r => (intsOf r).map (b :: ·)
  | _ :: _ => none
def strsOf : List D → Option (List Str)
  | [] => some []
  | .str b :: r => (strsOf r).map (b :: ·)
  | _ :: _ => none
/-- a greatest, a least one -/
def maxI : List Int → Int
  | [] => 0
  | [x] => x
  | x :: xs => if maxI xs > x then maxI xs else x
def minI : List Int → Int
  | [] => 0
  | [x] => x
  | x :: xs => if minI xs < x then minI xs else x
def isT : Bfn → D → Bool
  | .isInt, .int _ => true
  | .isInt, .bool _ => true
  | .isBool, .bool _ => true
  | .isStr, .str _ => true
  | .isTuple, .tuple _ => true
  | .isList, .list _ => true
  | _, _ => false
/-- one more, if it is new -/
def ins1 {K : Type} [DecidableEq K] (l : List K) (k : K) : List K := if k ∈ l then l else l ++ [k]
def dedup {K : Type} [DecidableEq K] (l : List K) : List K := l.foldl ins1 []
/-- len(set(xs)) of numbers or of texts -/
def lensetD (xs : List D) : Option D := if xs.length < 3999 then (match intsOf xs with
  | some ns => some (.int (dedup ns).length)
  | none => match strsOf xs with
    | some ws => some (.int (dedup ws).length)
    | none => none) else none
def bltD : Bfn → List D → Option D
  | .len, [.list xs] => some (.int xs.length)
  | .len, [.tuple xs] => some (.int xs.length)
  | .len, [.str x] => if lOk x.length then some (.int x.length) else none
  | .len, [.dict kvs] => some (.int kvs.length)
  | .list, [.list xs] => some (.list xs)
  | .list, [.tuple xs] => some (.list xs)
  | .list, [.dict kvs] => some (.list (kvs.map (·.1)))
  | .sorted, [.list xs] => if srtOk xs then some (.list (srt xs)) else none
  | .sorted, [.dict kvs] => if srtOk (kvs.map (·.1)) then some (.list (srt (kvs.map (·.1)))) else none
  | .dict, [.list xs] => (dputs [] xs).map .dict
  | .sumvals, [.dict kvs] => (intsOf (kvs.map (·.2))).map fun ns => .int ns.sum
  | .sortedvals, [.dict kvs] => if srtOk (kvs.map (·.2)) then some (.list (srt (kvs.map (·.2)))) else none
  | .tuple, [.list xs] => some (.tuple xs)
  | .tuple, [.tuple xs] => some (.tuple xs)
  | .all, [.list xs] => (boolsOf xs).map fun bs => .bool (bs.all id)
  | .any, [.list xs] => (boolsOf xs).map fun bs => .bool (bs.any id)
  | .sum, [.list xs] => (intsOf xs).map fun ns => .int ns.sum
  | .max, [.list xs] => (intsOf xs).bind fun ns => if ns.isEmpty then none else some (.int (maxI ns))
  | .min, [.list xs] => (intsOf xs).bind fun ns => if ns.isEmpty then none else some (.int (minI ns))
  | .min2, [.int i, .int j] => some (.int (if j < i then j else i))
  | .lenset, [.list xs] => lensetD xs
  | .isInt, [x] => some (.bool (isT .isInt x))
  | .isBool, [x] => some (.bool (isT .isBool x))
  | .isStr, [x] => some (.bool (isT .isStr x))
  | .isTuple, [x] => some (.bool (isT .isTuple x))
  | .isList, [x] => some (.bool (isT .isList x))
  | _, _ => none

/-! ### values -/
def dat : Val → Option D
  | .d x => some x
  | _ => none
def dats : List Val → Option (List D)
  | [] => some []
  | v :: vs => (dat v).bind fun x => (dats vs).map (x :: ·)
/-- a value as data: a list of the small heap is read -/
def asD (h : MH) : Val → Option D
  | .d x => some x
  | .ref n => match h[n]? with
    | some (.lst vs) => (dats vs).map .list
    | some (.fro ds) => some (.list ds)
    | some (.dict _ kvs) => (dats (kvs.map (·.2))).map fun ds => .dict ((kvs.map (·.1)).zip ds)
    | _ => none
  | .exc _ => none
  | .scr _ => none
  | .dic _ => none
/-- a tracked dict -/
def dicR (h : MH) : Val → Option (List (D × Val))
  | .ref n => match h[n]? with
    | some (.dict _ kvs) => some kvs
    | _ => none
  | _ => none
/-- a dict's entries -/
def dicOf (h : MH) : Val → Option (List (D × Val))
  | .d (.dict kvs) => some (kvs.map fun q => (q.1, .d q.2))
  | v => dicR h v
def lift {α : Type} (h : MH) : Option α → Res α
  | some x => .ok x h
  | none => .bad
@[simp] theorem lift_some {α : Type} (h : MH) (x : α) : lift h (some x) = .ok x h := rfl
@[simp] theorem lift_none {α : Type} (h : MH) : lift h (none : Option α) = .bad := rfl
def setE (e : Env) (i : Nat) (v : Val) : Option Env := if i < e.length then some (e.set i (some v)) else none
def bindT : Ct → Val → Env → Option Env
  | .name i, v, e => setE e i v
  | .pair a b, .d (.tuple [x, y]), e => (bindT a (.d x) e).bind (bindT b (.d y))
  | .tri a b c, .d (.tuple [x, y, z]), e => ((bindT a (.d x) e).bind (bindT b (.d y))).bind (bindT c (.d z))
  | _, _, _ => none
def wipeE (e : Env) : List Nat → Env
  | [] => e
  | v :: vs => (wipeE e vs).set v none
def compRun (step : D → MH → Res (Option D)) : List D → MH → List D → Res (List D)
  | [], h, acc => .ok acc h
  | x :: xs, h, acc => match step x h with
    | .ok (some y) h1 => if acc.length < sizeLine then compRun step xs h1 (acc ++ [y]) else .bad
    | .ok none h1 => compRun step xs h1 acc
    | _ => .bad
/-- where a comprehension's result stands as data alone -/
def nox {α : Type} : Res α → Res α
  | .ok a h => .ok a h
  | _ => .bad
def forRun (t : Ct) (body : Env → MH → RS) : List D → Env → MH → RS
  | [], e, h => .next e h
  | x :: xs, e, h => match bindT t (.d x) e with
    | none => .bad
    | some e1 => match body e1 h with
      | .next e2 h2 => forRun t body xs e2 h2
      | .cont e2 h2 => forRun t body xs e2 h2
      | .brk e2 h2 => .next e2 h2
      | r => r
/-- a list of the small heap walked as it stands at each turn -/
def forLive (t : Ct) (n len : Nat) (body : Env → MH → RS) : Nat → Env → MH → RS
  | 0, e, h => match h[n]? with
    | some (.lst vs) => if vs.length = len then .next e h else .bad
    | _ => .bad
  | k + 1, e, h => match h[n]? with
    | some (.lst vs) => if vs.length = len then (match vs[len - (k + 1)]? with
      | some x => match bindT t x e with
        | none => .bad
        | some e1 => match body e1 h with
          | .next e2 h2 => forLive t n len body k e2 h2
          | .cont e2 h2 => forLive t n len body k e2 h2
          | .brk e2 h2 => .next e2 h2
          | r => r
      | none => .bad) else .bad
    | _ => .bad
def whileRun (c : Env → MH → Res Val) (body : Env → MH → RS) : Nat → Env → MH → RS
  | 0, _, _ => .bad
  | k + 1, e, h => match c e h with
    | .ok (.d (.bool true)) h1 => (match body e h1 with
      | .next e2 h2 => whileRun c body k e2 h2
      | .cont e2 h2 => whileRun c body k e2 h2
      | .brk e2 h2 => .next e2 h2
      | r => r)
    | .ok (.d (.bool false)) h1 => .next e h1
    | .ok _ _ => .bad
    | .exc c h1 => .exc c e h1
    | .bad => .bad
def rangeD (a b : Int) : List D := (List.range (b - a).toNat).map fun (i : Nat) => PyData.int (a + i)
def rgOk (i : Int) : Bool := decide (-(2 ^ 62) ≤ i) && decide (i < 2 ^ 62)
def seqOf : D → Option (List D)
  | .list xs => some xs
  | .tuple xs => some xs
  | .dict kvs => some (kvs.map (·.1))
  | _ => none
def pairD (i : Nat) (x : D) : D := .tuple [.int i, x]
def enumD (xs : List D) : List D := (List.range xs.length).zipWith pairD xs
def zipD (xs ys : List D) : List D := xs.zipWith (fun x y => PyData.tuple [x, y]) ys
/-- what is walked: data items, or a list of the small heap -/
inductive Src where
  | items (ds : List D) | live (n len : Nat)
def seqV (h : MH) : Val → Option Src
  | .dic _ => none
  | .d x => (seqOf x).map .items
  | .ref n => match h[n]? with
    | some (.lst vs) => some (.live n vs.length)
    | some (.dict _ kvs) => some (.items (kvs.map (·.1)))
    | _ => none
  | .exc _ => none
  | .scr _ => none
/-- a tracked dict that is walked stays as it is -/
def lockV (h : MH) : Val → MH
  | .ref n => match h[n]? with
    | some (.dict _ kvs) => h.set n (.dict true kvs)
    | _ => h
  | _ => h
def truth : Val → Option Bool
  | .d (.bool b) => some b
  | _ => none
/-- changes of the small heap -/
def mstV (h : MH) : Mst → Val → List Val → Option (Val × MH)
  | .append, .ref n, [v] => match h[n]? with
    | some (.lst vs) => if vs.length < sizeLine then some (.d .none, h.set n (.lst (vs ++ [v]))) else none
    | _ => none
  | .pop, .ref n, [] => match h[n]? with
    | some (.lst vs) => match vs[vs.length - 1]? with
      | some v => some (v, h.set n (.lst vs.dropLast))
      | none => none
    | _ => none
  | .setdef, .ref n, [.d k, v] => match h[n]? with
    | some (.dict false kvs) => if kOk kvs k && decide (kvs.length < sizeLine) then (match dget kvs k with
      | some w => some (w, h)
      | none => some (v, h.set n (.dict false (dput kvs k v)))) else none
    | _ => none
  | _, _, _ => none
def lstAt (h : MH) : Val → Bool
  | .ref n => match h[n]? with
    | some (.lst _) => true
    | _ => false
  | _ => false
def dicAt (h : MH) : Val → Bool
  | .ref n => match h[n]? with
    | some (.dict _ _) => true
    | _ => false
  | _ => false
def mstAt (h : MH) : Mst → Val → Bool
  | .setdef, v => dicAt h v
  | _, v => lstAt h v
def subV (h : MH) : Val → Val → Val → Option MH
  | .ref n, .d k, v => match h[n]? with
    | some (.lst vs) => (match k with
      | .int i => (L2.ixN vs.length i).map fun j => h.set n (.lst (vs.set j v))
      | _ => none)
    | some (.dict false kvs) => if kOk kvs k && decide (kvs.length < sizeLine) then some (h.set n (.dict false (dput kvs k v))) else none
    | _ => none
  | _, _, _ => none
def ixV (h : MH) : Val → Val → Option Val
  | .d a, .d i => (ixD a i).map .d
  | .ref n, .d k => match h[n]? with
    | some (.lst vs) => (match k with
      | .int i => L2.atI vs i
      | _ => none)
    | some (.tup vs) => (match k with
      | .int i => L2.atI vs i
      | _ => none)
    | some (.dict _ kvs) => if kOk kvs k then dget kvs k else none
    | _ => none
  | .dic kvs, .d (.str k) => (kvs.find? fun q => decide (q.1 = k)).map fun q => .d q.2
  | _, _ => none
def dicOk (ks : List Str) (n : Nat) : Bool := decide (ks.length = n) && decide (ks.length ≤ 15) && !ks.isEmpty && decide ks.Nodup
def lenV (h : MH) : Val → Option D
  | .dic _ => none
  | .d x => bltD .len [x]
  | .ref n => match h[n]? with
    | some (.lst vs) => some (.int vs.length)
    | some (.dict _ kvs) => some (.int kvs.length)
    | _ => none
  | .exc _ => none
  | .scr _ => none
/-- an instance's field -/
def fldV (h : MH) (cs : List Str) (f : Str) : Val → Option Val
  | .ref n => match h[n]? with
    | some (.ins c fs) => if cs.contains c then fs.lookup f else none
    | _ => none
  | _ => none
def putF (f : Str) (v : Val) : List (Str × Val) → List (Str × Val)
  | [] => [(f, v)]
  | (g, x) :: r => if g = f then (g, v) :: r else (g, x) :: putF f v r
def setfV (h : MH) (cs : List Str) (x : Val) (f : Str) (v : Val) : Option MH := match x with
  | .ref n => match h[n]? with
    | some (.ins c fs) => if cs.contains c && decide (fs.length < 900) then some (h.set n (.ins c (putF f v fs))) else none
    | _ => none
  | _ => none
/-- an instance of the class that has no field of the name -/
def methAt (h : MH) (c m : Str) : Val → Bool
  | .ref n => match h[n]? with
    | some (.ins c' fs) => decide (c' = c) && (fs.lookup m).isNone
    | _ => false
  | _ => false
/-- what __len__ may answer -/
def lenR : Val → Bool
  | .d (.int i) => decide (0 ≤ i) && decide (i < 2 ^ 63)
  | _ => false
def isxV (tab : List (Str × Bool)) : Val → Option Bool
  | .exc c => tab.lookup c
  | _ => none
def augV (h : MH) : Val → Val → Option (Val × MH)
  | .d (.int i), .d (.int j) => some (.d (.int (i + j)), h)
  | .ref n, v => match h[n]?, asD h v with
    | some (.lst vs), some (.list ys) => if lOk (vs.length + ys.length) then some (.ref n, h.set n (.lst (vs ++ ys.map .d))) else none
    | _, _ => none
  | _, _ => none
/-- a list that is changed no more: data from here on -/
def lockL (h : MH) : Val → Option (D × MH)
  | .d x => some (x, h)
  | .ref n => match h[n]? with
    | some (.lst vs) => (dats vs).map fun ds => (.list ds, h.set n (.fro ds))
    | some (.fro ds) => some (.list ds, h)
    | _ => none
  | _ => none
def allocV (h : MH) : Val → Option (Val × MH)
  | .d (.list xs) => some (.ref h.length, h ++ [.lst (xs.map .d)])
  | _ => none
def noneD : Val → Bool
  | .d .none => true
  | _ => false
def mapO (f : Val → Option D) : List Val → Option (List D)
  | [] => some []
  | v :: vs => (f v).bind fun x => (mapO f vs).map (x :: ·)
/-- a value as data, the objects from the place b on read -/
def frz (b : Nat) (h : MH) : Nat → Val → Option D
  | 0, v => (match v with
    | .d x => some x
    | _ => none)
  | k + 1, v => (match v with
    | .d x => some x
    | .ref n => if b ≤ n then (match h[n]? with
      | some (.lst vs) => (mapO (frz b h k) vs).map .list
      | some (.fro ds) => some (.list ds)
      | some (.tup vs) => (mapO (frz b h k) vs).map .tuple
      | some (.dict _ kvs) => (mapO (frz b h k) (kvs.map (·.2))).map fun ds => .dict ((kvs.map (·.1)).zip ds)
      | _ => none) else none
    | _ => none)
/-- a value as data, read through -/
def asX (h : MH) (v : Val) : Option D := (asD h v).or (frz 0 h 6 v)
def eqO : Cop → Bool
  | .eq => true
  | .ne => true
  | _ => false
def cmpV0 (h : MH) (o : Cop) (a b : Val) : Option Bool := match o, noneD b, a with
  | .is_, true, .ref _ => some false
  | .is_, true, .exc _ => some false
  | .ne, _, .scr ns => match b with
    | .d (.list []) => some (!ns.isEmpty)
    | _ => none
  | .isnot, true, .ref _ => some true
  | .isnot, true, .exc _ => some true
  | _, _, _ => if eqO o then (asX h a).bind fun x => (asX h b).bind fun y => cmpD o x y else (asD h a).bind fun x => (asD h b).bind fun y => cmpD o x y
def cmpV (h : MH) (o : Cop) (a b : Val) : Option Bool := match o, dicR h b with
  | .isin, some kvs => (asD h a).bind fun k => if kOk kvs k then some (dhas kvs k) else none
  | .notin, some kvs => (asD h a).bind fun k => if kOk kvs k then some (!dhas kvs k) else none
  | _, _ => cmpV0 h o a b

def partI (v : Val) (h : MH) : Res (Option Int) := match v with
  | .d (.int i) => .ok (some i) h
  | _ => .bad
def asDs (h : MH) : List Val → Option (List D)
  | [] => some []
  | v :: vs => (asD h v).bind fun x => (asDs h vs).map (x :: ·)
/-- a built-in function of values -/
def bltV (h : MH) : Bfn → List Val → Option Val
  | .len, [v] => (lenV h v).map .d
  | .list, [.scr ns] => some (.d (.list (ns.map .int)))
  | b, vs => (asDs h vs).bind fun ds => (bltD b ds).map .d
/-- a method of values -/
def idxD (x : D) : List D → Option Nat
  | [] => none
  | y :: ys => if PyData.eqv y x then some 0 else (idxD x ys).map (· + 1)
def mthV (h : MH) : Mfn → Val → List Val → Option Val
  | .get2, o, [.d k, v] => (dicOf h o).bind fun kvs => if kOk kvs k then some ((dget kvs k).getD v) else none
  | .count, o, [x] => (asD h o).bind fun l => (asD h x).bind fun y => match l with
    | .list ds => if sh (.list ds) && sh y then some (.d (.int (ds.countP fun z => PyData.eqv z y))) else none
    | _ => none
  | .index, o, [x] => (asD h o).bind fun l => (asD h x).bind fun y => match l with
    | .list ds => if sh (.list ds) && sh y then (idxD y ds).map fun (i : Nat) => .d (.int i) else none
    | _ => none
  | _, _, _ => none
/-- what a method is asked of -/
def mthAt (h : MH) : Mfn → Val → Bool
  | .get2, x => (dicOf h x).isSome
  | .count, x => (match asD h x with
    | some (.list _) => true
    | _ => false)
  | .index, x => (match asD h x with
    | some (.list _) => true
    | _ => false)
  | _, x => (match x with
    | .d (.str _) => true
    | _ => false)
/-- what a walk gives at its place -/
def srcAt (h : MH) : Src → Nat → Option Val
  | .items ds, i => (ds[i]?).map .d
  | .live n len, i => match h[n]? with
    | some (.lst vs) => if vs.length = len then vs[i]? else none
    | _ => none
def Src.len : Src → Nat
  | .items ds => ds.length
  | .live _ len => len
def srcEnd (h : MH) : Src → Bool
  | .items _ => true
  | .live n len => match h[n]? with
    | some (.lst vs) => decide (vs.length = len)
    | _ => false
/-- a comprehension over any walk: k turns are left -/
def compGo (step : Val → MH → Res (Option Val)) (s : Src) : Nat → MH → List Val → Res (List Val)
  | 0, h, acc => if srcEnd h s then .ok acc h else .bad
  | k + 1, h, acc => match srcAt h s (s.len - (k + 1)) with
    | none => .bad
    | some x => match step x h with
      | .ok (some y) h1 => if acc.length < sizeLine then compGo step s k h1 (acc ++ [y]) else .bad
      | .ok none h1 => compGo step s k h1 acc
      | _ => .bad
/-- a slice's part, by its reading -/
def partO (c : Ce) (r : Res Val) (h : MH) : Res (Option Int) := match c with
  | .no => .ok none h
  | _ => r.bind partI
mutual
def den (L : Lib) : Ce → Env → MH → Res Val
  | .var i, e, h => match e[i]? with
    | some (some v) => .ok v h
    | _ => .bad
  | .none, _, h => .ok (.d .none) h
  | .bool b, _, h => .ok (.d (.bool b)) h
  | .int i, _, h => .ok (.d (.int i)) h
  | .str s, _, h => .ok (.d (.str s)) h
  | .glob k, _, h => lift h (L.gl[k]?.map .d)
  | .tup es, e, h => (dens L es e h).bind fun vs h => lift h ((dats vs).bind fun ds => if lOk ds.length then some (.d (.tuple ds)) else none)
  | .lst es, e, h => (dens L es e h).bind fun vs h => lift h ((dats vs).bind fun ds => if lOk ds.length then some (.d (.list ds)) else none)
  | .alloc a, e, h => (denF L a e h).bind fun v h => match allocV h v with
    | some (r, h1) => .ok r h1
    | none => .bad
  | .lstR es, e, h => (dens L es e h).bind fun vs h => if lOk vs.length then .ok (.ref h.length) (h ++ [.lst vs]) else .bad
  | .dict ks es, e, h => (dens L es e h).bind fun vs h => lift h ((dats vs).bind fun ds => if dicOk ks ds.length then some (.dic (ks.zip ds)) else none)
  | .dictR ks vs, e, h => (dens L ks e h).bind fun us h => (dens L vs e h).bind fun ws h => match us, ws with
    | [], [] => .ok (.ref h.length) (h ++ [.dict false []])
    | [.d k], [w] => if (kindK k).isSome then .ok (.ref h.length) (h ++ [.dict false [(k, w)]]) else .bad
    | _, _ => .bad
  | .tupR es, e, h => (dens L es e h).bind fun vs h => if lOk vs.length then .ok (.ref h.length) (h ++ [.tup vs]) else .bad
  | .isx a _ tab, e, h => (den L a e h).bind fun v h => lift h ((isxV tab v).map fun b => .d (.bool b))
  | .fld cs o f, e, h => (den L o e h).bind fun v h => lift h (fldV h cs f v)
  | .lenc c k o, e, h => (den L o e h).bind fun x h => if methAt h c "__len__" x then (match L.fn[k]? with
      | some g => (match g [x] h with
        | .ok v h1 => if lenR v then .ok v h1 else .bad
        | _ => .bad)
      | none => .bad) else .bad
  | .mcall c m k o es, e, h => (den L o e h).bind fun x h => if methAt h c m x then (dens L es e h).bind fun vs h => (match L.fn[k]? with
      | some g => g (x :: vs) h
      | none => .bad) else .bad
  | .make c k es, e, h => (dens L es e h).bind fun vs h => match L.fn[k]? with
    | some g => (g (.ref h.length :: vs) (h ++ [.ins c []])).bind fun v h1 => if noneD v then .ok (.ref h.length) h1 else .bad
    | none => .bad
  | .lock a, e, h => (den L a e h).bind fun v h => match lockL h v with
    | some (d, h1) => .ok (.d d) h1
    | none => .bad
  | .bin o a b, e, h => (den L a e h).bind fun x h => (den L b e h).bind fun y h => lift h ((asD h x).bind fun x => (asD h y).bind fun y => (binD o x y).map .d)
  | .neg a, e, h => (den L a e h).bind fun x h => match x with
    | .d (.int i) => .ok (.d (.int (-i))) h
    | _ => .bad
  | .cmp o a b, e, h => (den L a e h).bind fun x h => (den L b e h).bind fun y h => lift h ((cmpV h o x y).map fun b => .d (.bool b))
  | .cmp2 a b c, e, h => (den L a e h).bind fun x h => (den L b e h).bind fun y h => match x, y with
    | .d (.int i), .d (.int j) => if i ≤ j then (den L c e h).bind fun z h => match z with
        | .d (.int k) => .ok (.d (.bool (decide (j ≤ k)))) h
        | _ => .bad
      else .ok (.d (.bool false)) h
    | _, _ => .bad
  | .and es, e, h => denAnd L es e h
  | .or es, e, h => denOr L es e h
  | .not a, e, h => (den L a e h).bind fun x h => lift h ((truth x).map fun b => .d (.bool (!b)))
  | .ite c a b, e, h => (den L c e h).bind fun x h => match truth x with
    | some true => den L a e h
    | some false => den L b e h
    | none => .bad
  | .ix a i, e, h => (den L a e h).bind fun x h => (den L i e h).bind fun y h => lift h (ixV h x y)
  | .sl a lo hi, e, h => (den L a e h).bind fun x h => (partO lo (den L lo e h) h).bind fun l h => (partO hi (den L hi e h) h).bind fun u h => lift h ((asD h x).bind fun x => (slD x l u).map .d)
  | .no, _, _ => .bad
  | .rev a, e, h => (den L a e h).bind fun x h => lift h ((asD h x).bind fun x => match x with
    | .list xs => some (.d (.list xs.reverse))
    | _ => none)
  | .call f es, e, h => (dens L es e h).bind fun vs h => match L.fn[f]? with
    | some g => g vs h
    | none => .bad
  | .blt b es, e, h => (dens L es e h).bind fun vs h => lift h (bltV h b vs)
  | .mth m o es, e, h => (den L o e h).bind fun x h => if mthAt h m x then (dens L es e h).bind fun vs h => lift h (mthV h m x vs) else .bad
  | .mst m o es, e, h => (den L o e h).bind fun x h => if mstAt h m x then (dens L es e h).bind fun vs h => match mstV h m x vs with
      | some (r, h1) => .ok r h1
      | none => .bad
    else .bad
  | .comp tg src cond elt own, e, h => (denI L src e h).bind fun s h => match s with
    | .items ds => (compRun (fun x h => match bindT tg (.d x) (wipeE e own) with
        | none => .bad
        | some e1 => (denC L cond e1 h).bind fun b h => if b then (den L elt e1 h).bind fun v h => lift h ((dat v).map some) else .ok none h) ds h []).bind fun ds h => .ok (.d (.list ds)) h
    | .live n len => (compGo (fun x h => match bindT tg x (wipeE e own) with
        | none => .bad
        | some e1 => (denC L cond e1 h).bind fun b h => if b then (den L elt e1 h).bind fun v h => .ok (some v) h else .ok none h) (.live n len) len h []).bind fun vs h => lift h ((dats vs).map fun ds => .d (.list ds))
  | .compR tg src cond elt own, e, h => (denI L src e h).bind fun s h => (compGo (fun x h => match bindT tg x (wipeE e own) with
        | none => .bad
        | some e1 => (denC L cond e1 h).bind fun b h => if b then (den L elt e1 h).bind fun v h => .ok (some v) h else .ok none h) s s.len h []).bind fun vs h => .ok (.ref h.length) (h ++ [.lst vs])
termination_by structural x => x
/-- a new list -/
def denF (L : Lib) : Ce → Env → MH → Res Val
  | .lst es, e, h => (dens L es e h).bind fun vs h => lift h ((dats vs).bind fun ds => if lOk ds.length then some (.d (.list ds)) else none)
  | .comp tg src cond elt own, e, h => (denI L src e h).bind fun s h => match s with
    | .items ds => (compRun (fun x h => match bindT tg (.d x) (wipeE e own) with
        | none => .bad
        | some e1 => (denC L cond e1 h).bind fun b h => if b then (den L elt e1 h).bind fun v h => lift h ((dat v).map some) else .ok none h) ds h []).bind fun ds h => .ok (.d (.list ds)) h
    | .live n len => (compGo (fun x h => match bindT tg x (wipeE e own) with
        | none => .bad
        | some e1 => (denC L cond e1 h).bind fun b h => if b then (den L elt e1 h).bind fun v h => .ok (some v) h else .ok none h) (.live n len) len h []).bind fun vs h => lift h ((dats vs).map fun ds => .d (.list ds))
  | .bin .add a b, e, h => (den L a e h).bind fun x h => (den L b e h).bind fun y h => lift h ((asD h x).bind fun x => (asD h y).bind fun y => match x, y with
    | .list xs, .list ys => (binD .add (.list xs) (.list ys)).map .d
    | _, _ => none)
  | .blt .list es, e, h => (dens L es e h).bind fun vs h => lift h (bltV h .list vs)
  | _, _, _ => .bad
termination_by structural x => x
def dens (L : Lib) : Ces → Env → MH → Res (List Val)
  | .nil, _, h => .ok [] h
  | .cons a as, e, h => (den L a e h).bind fun v h => (dens L as e h).bind fun vs h => .ok (v :: vs) h
termination_by structural x => x
def denAnd (L : Lib) : Ces → Env → MH → Res Val
  | .nil, _, _ => .bad
  | .cons a .nil, e, h => (den L a e h).bind fun v h => lift h ((truth v).map fun b => .d (.bool b))
  | .cons a as, e, h => (den L a e h).bind fun v h => match truth v with
    | some true => denAnd L as e h
    | some false => .ok (.d (.bool false)) h
    | none => .bad
termination_by structural x => x
def denOr (L : Lib) : Ces → Env → MH → Res Val
  | .nil, _, _ => .bad
  | .cons a .nil, e, h => (den L a e h).bind fun v h => lift h ((truth v).map fun b => .d (.bool b))
  | .cons a as, e, h => (den L a e h).bind fun v h => match truth v with
    | some true => .ok (.d (.bool true)) h
    | some false => denOr L as e h
    | none => .bad
termination_by structural x => x
/-- a clause's test -/
def denC (L : Lib) : Ces → Env → MH → Res Bool
  | .nil, _, h => .ok true h
  | .cons a .nil, e, h => (den L a e h).bind fun v h => lift h (truth v)
  | .cons _ _, _, _ => .bad
termination_by structural x => x
def denI (L : Lib) : Ci → Env → MH → Res Src
  | .seq a, e, h => (den L a e h).bind fun v h => lift (lockV h v) (seqV h v)
  | .range1 a, e, h => (den L a e h).bind fun v h => match v with
    | .d (.int i) => if rgOk i then .ok (.items (rangeD 0 i)) h else .bad
    | _ => .bad
  | .range2 a b, e, h => (den L a e h).bind fun v h => (den L b e h).bind fun w h => match v, w with
    | .d (.int i), .d (.int j) => if rgOk i && rgOk j then .ok (.items (rangeD i j)) h else .bad
    | _, _ => .bad
  | .enum a, e, h => (den L a e h).bind fun v h => match v with
    | .d (.list xs) => .ok (.items (enumD xs)) h
    | .d (.tuple xs) => .ok (.items (enumD xs)) h
    | _ => .bad
  | .zip a b, e, h => (den L a e h).bind fun v h => (den L b e h).bind fun w h => match v, w with
    | .d (.list xs), .d (.list ys) => .ok (.items (zipD xs ys)) h
    | .d (.tuple xs), .d (.tuple ys) => .ok (.items (zipD xs ys)) h
    | _, _ => .bad
  | .ezip a b, e, h => (den L a e h).bind fun v h => (den L b e h).bind fun w h => match v, w with
    | .d (.list xs), .d (.list ys) => .ok (.items (enumD (zipD xs ys))) h
    | _, _ => .bad
termination_by structural x => x
end

def denO (L : Lib) (c : Ce) (e : Env) (h : MH) : Res (Option Int) := partO c (den L c e h) h
/-! ### statements -/
def ofR {α : Type} (e : Env) (r : Res α) (k : α → MH → RS) : RS := match r with
  | .ok v h => k v h
  | .exc c h => .exc c e h
  | .bad => .bad
@[simp] theorem ofR_ok {α : Type} (e : Env) (v : α) (h : MH) (k : α → MH → RS) : ofR e (.ok v h) k = k v h := rfl
@[simp] theorem ofR_exc {α : Type} (e : Env) (c : Str) (h : MH) (k : α → MH → RS) : ofR e (.exc c h : Res α) k = .exc c e h := rfl
@[simp] theorem ofR_bad {α : Type} (e : Env) (k : α → MH → RS) : ofR e (.bad : Res α) k = .bad := rfl
def toE (o : Option Env) (h : MH) : RS := match o with
  | some e => .next e h
  | none => .bad
@[simp] theorem toE_some (e : Env) (h : MH) : toE (some e) h = .next e h := rfl
@[simp] theorem toE_none (h : MH) : toE none h = .bad := rfl
def RS.andThen (r : RS) (k : Env → MH → RS) : RS := match r with
  | .next e h => k e h
  | r => r
@[simp] theorem RS.andThen_next (e : Env) (h : MH) (k : Env → MH → RS) : (RS.next e h).andThen k = k e h := rfl
@[simp] theorem RS.andThen_ret (v : Val) (h : MH) (k : Env → MH → RS) : (RS.ret v h).andThen k = .ret v h := rfl
@[simp] theorem RS.andThen_brk (e : Env) (h : MH) (k : Env → MH → RS) : (RS.brk e h).andThen k = .brk e h := rfl
@[simp] theorem RS.andThen_cont (e : Env) (h : MH) (k : Env → MH → RS) : (RS.cont e h).andThen k = .cont e h := rfl
@[simp] theorem RS.andThen_exc (c : Str) (e : Env) (h : MH) (k : Env → MH → RS) : (RS.exc c e h).andThen k = .exc c e h := rfl
@[simp] theorem RS.andThen_bad (k : Env → MH → RS) : RS.bad.andThen k = .bad := rfl
def setAll (e : Env) : List Nat → List Val → Option Env
  | [], [] => some e
  | i :: is, v :: vs => (setE e i v).bind fun e => setAll e is vs
  | _, _ => none
def bindAllV : List Ct → List Val → Env → Option Env
  | [], [], e => some e
  | t :: ts, v :: vs, e => (bindT t v e).bind (bindAllV ts vs)
  | _, _, _ => none
mutual
def exec (L : Lib) : Cs → Env → MH → RS
  | .set i a, e, h => ofR e (den L a e h) fun v h => toE (setE e i v) h
  | .par is es, e, h => ofR e (dens L es e h) fun vs h => toE (setAll e is vs) h
  | .asg t a, e, h => ofR e (den L a e h) fun v h => toE (bindT t v e) h
  | .asgs ts es, e, h => ofR e (dens L es e h) fun vs h => toE (bindAllV ts vs e) h
  | .aug i a, e, h => match e[i]? with
    | some (some x) => ofR e (den L a e h) fun v h => match augV h x v with
      | some (r, h1) => toE (setE e i r) h1
      | none => .bad
    | _ => .bad
  | .sub o i a, e, h => ofR e (den L a e h) fun v h => ofR e (den L o e h) fun x h => ofR e (den L i e h) fun y h => match subV h x y v with
    | some h1 => .next e h1
    | none => .bad
  | .expr a, e, h => ofR e (den L a e h) fun _ h => .next e h
  | .ret a, e, h => ofR e (den L a e h) fun v h => .ret v h
  | .ite c a b, e, h => ofR e (den L c e h) fun v h => match truth v with
    | some true => execs L a e h
    | some false => execs L b e h
    | none => .bad
  | .for_ t src body, e, h => ofR e (denI L src e h) fun s h => match s with
    | .items ds => forRun t (execs L body) ds e h
    | .live n len => forLive t n len (execs L body) len e h
  | .while_ c body, e, h => whileRun (den L c) (execs L body) L.fuel e h
  | .raise c, e, h => .exc c e h
  | .pass, e, h => .next e h
  | .setf cs o f a, e, h => ofR e (den L a e h) fun v h => ofR e (den L o e h) fun x h => match setfV h cs x f v with
    | some h1 => .next e h1
    | none => .bad
  | .tryx body i j _ subs, e, h => match execs L body e h with
    | .exc c e1 h1 => if subs.contains c then (match setE e1 j (.exc c) with
      | some e2 => if i < e2.length then .next (e2.set i none) h1 else .bad
      | none => .bad) else .bad
    | r => r
def execs (L : Lib) : Css → Env → MH → RS
  | .nil, e, h => .next e h
  | .cons s ss, e, h => (exec L s e h).andThen (execs L ss)
end
end Z
namespace Z
open PySem
/-! ### defs -/
/-- a def by its body: n slots -/
def runF (L : Lib) (body : Css) (n : Nat) : FnS := fun args h => match execs L body (args.map some ++ List.replicate (n - args.length) none) h with
  | .ret v h => .ok v h
  | .next _ h => .ok (.d .none) h
  | .exc c _ h => .exc c h
  | _ => .bad
/-- a def of data alone: the small heap is its own, and gone behind it -/
def pureF (g : FnS) : FnS := fun args h => match dats args with
  | none => .bad
  | some _ => match g args [] with
    | .ok v h1 => (match frz 0 h1 6 v with
      | some d => .ok (.d d) h
      | none => .bad)
    | .exc c _ => .exc c h
    | .bad => .bad
def valBelow (n : Nat) : Val → Bool
  | .ref m => decide (m < n)
  | _ => true
def cellBelow (n : Nat) : Cell → Bool
  | .lst vs => vs.all (valBelow n)
  | .fro _ => true
  | .tup vs => vs.all (valBelow n)
  | .dict _ kvs => kvs.all fun kv => valBelow n kv.2
  | .ins _ fs => fs.all fun kv => valBelow n kv.2
/-- a def that may change the small heap; what it has made there is gone behind it -/
def cutF (g : FnS) : FnS := fun args h => match g args h with
  | .ok v h1 => (match frz h.length h1 6 v with
    | some d => if (h1.take h.length).all (cellBelow h.length) && decide (h.length ≤ h1.length) then .ok (.d d) (h1.take h.length) else .bad
    | none => .bad)
  | .exc c h1 => .exc c h1
  | .bad => .bad
/-- a def that answers with a new list, the caller's from here on -/
def newF (g : FnS) : FnS := fun args h => match g args h with
  | .ok (.ref n) h1 => if h.length ≤ n then (match h1[n]? with
    | some (.lst vs) => (match dats vs with
      | some _ => if (h1.take h.length).all (cellBelow h.length) && decide (h.length ≤ h1.length) then .ok (.ref h.length) (h1.take h.length ++ [.lst vs]) else .bad
      | none => .bad)
    | _ => .bad) else .bad
  | .ok _ _ => .bad
  | .exc c h1 => .exc c h1
  | .bad => .bad
end Z

set_option Elab.async false
set_option linter.all false
set_option autoImplicit false
set_option maxRecDepth 100000
set_option maxHeartbeats 4000000
/-! Z1: how data and the small heap stand in the layer's heap; what a piece's meaning promises. -/
namespace L2
open PySem PySem.Spec PyProof.Rows Z

/-- what all pieces of one text know: the written part, where the classes stand -/
structure Gx where
  K : PySem.W.Frag
  cx : Str → Addr
  w : World
/-- a tuple of the written part -/
def KT_ (K : PySem.W.Frag) (a : Addr) (xs : List V) : Prop :=
  ∃ (o : Obj) (its : Array Value) (n : Nat), K.lookup a = some o ∧ o.cls = .type "tuple" ∧ o.data = .seq its n ∧ its.size ≤ sizeLine ∧ Vals xs its.toList
/-- a dict's entries: the key, its value, what stands there -/
abbrev DE := NestedKey × V × V
def entN (w : World) (y : NestedKey × Value × Value) : DictEntry := ⟨y.1.hash w, y.2.1, y.2.2⟩
def DRel (x : DE) (y : NestedKey × Value × Value) : Prop := x.1 = y.1 ∧ RelV x.2.1 y.2.1 ∧ RelV x.2.2 y.2.2
def dxP (w : World) (a : Addr) (xs : List DE) (h : Heap) : Prop := xs.length ≤ sizeLine ∧ (a == sysModules) = false ∧ (xs.map (·.1)).Nodup ∧
  ∃ ys, Paired DRel xs ys ∧ ∃ o es ep, h.get? a = some o ∧ o.ExactDict ∧ o.data = .dict es ep ∧ es.toList = ys.map (entN w)
/-- a dict -/
def DX (w : World) (a : Addr) (xs : List DE) : HO := .ext (dxP w a xs)
/-- a caught exception's object -/
def ExH (cls : Value) (a : Addr) : HO := .ext fun h => ∃ (oe : Obj) (vs : Array Value), h.get? a = some oe ∧ Zc cls none oe ∧ oe.data = .fields vs
/-- what a piece of code does to an object that is not the small heap's: it stays; a dict may be locked -/
def Ks (A : Addr → Prop) (H' : Hp) (a : Addr) (o : HO) : Prop := H' a = some o ∨ (¬ A a ∧ (∃ φ, o = .ext φ) ∧ ∃ ob, H' a = some (.frz ob o))
structure Kp (A A' : Addr → Prop) (H H' : Hp) : Prop where
  kp : ∀ a o, H a = some o → ¬ A a → Ks A H' a o ∧ ¬ A' a
  fz : ∀ a ob u, H a = some (.frz ob u) → H' a = some (.frz ob u)
mutual
inductive Rp (G : Gx) (A : Addr → Prop) (H : Hp) : V → PyData → Prop
  | non : Rp G A H .non .none
  | bl (b : Bool) : Rp G A H (.bl b) (.bool b)
  | int (i : Int) : Rp G A H (.int i) (.int i)
  | str (x : Str) : Rp G A H (.str x) (.str x)
  | lst {a : Addr} {xs : List V} {ds : List PyData} : H a = some (.lst xs) → ¬ A a → RpAll G A H xs ds → Rp G A H (.ref a) (.list ds)
  | lstF {a : Addr} {xs : List V} {ds : List PyData} : (∃ ob, H a = some (.frz ob (.lst xs))) → RpAll G A H xs ds → Rp G A H (.ref a) (.list ds)
  | tup {a : Addr} {xs : List V} {ds : List PyData} : H a = some (.tup xs) → ¬ A a → RpAll G A H xs ds → Rp G A H (.ref a) (.tuple ds)
  | tupK {a : Addr} {xs : List V} {ds : List PyData} : KT_ G.K a xs → RpAll G A H xs ds → Rp G A H (.ref a) (.tuple ds)
  | dct {a : Addr} {xs : List DE} {kvs : List (PyData × PyData)} : Rd H a (DX G.w a xs) → ¬ A a → RpD G A H xs kvs → Rp G A H (.ref a) (.dict kvs)
inductive RpAll (G : Gx) (A : Addr → Prop) (H : Hp) : List V → List PyData → Prop
  | nil : RpAll G A H [] []
  | cons {v : V} {vs : List V} {d : PyData} {ds : List PyData} : Rp G A H v d → RpAll G A H vs ds → RpAll G A H (v :: vs) (d :: ds)
inductive RpD (G : Gx) (A : Addr → Prop) (H : Hp) : List DE → List (PyData × PyData) → Prop
  | nil : RpD G A H [] []
  | cons {x : NestedKey} {k v : V} {xs : List DE} {kd vd : PyData} {kvs : List (PyData × PyData)} : keyN kd = some x → Rp G A H k kd → Rp G A H v vd → RpD G A H xs kvs → RpD G A H ((x, k, v) :: xs) ((kd, vd) :: kvs)
end
section
variable {A A' : Addr → Prop} {H H' : Hp}
theorem Kp.at_ (k : Kp A A' H H') {a : Addr} {o : HO} (r : H a = some o) (n : ¬ A a) (ne : ∀ φ, o ≠ .ext φ) : H' a = some o ∧ ¬ A' a := by
  obtain ⟨h1, h2⟩ := k.kp a o r n
  refine ⟨?_, h2⟩
  rcases h1 with z | ⟨_, ⟨φ, e⟩, _⟩
  · exact z
  · exact absurd e (ne φ)
theorem Kp.rd (k : Kp A A' H H') {a : Addr} {φ : Heap → Prop} (r : Rd H a (.ext φ)) (n : ¬ A a) : Rd H' a (.ext φ) ∧ ¬ A' a := by
  rcases r with r | ⟨ob, r⟩
  · obtain ⟨h1, h2⟩ := k.kp a _ r n
    refine ⟨?_, h2⟩
    rcases h1 with z | ⟨_, _, ob, z⟩
    · exact .inl z
    · exact .inr ⟨ob, z⟩
  · obtain ⟨h1, h2⟩ := k.at_ r n (by intro φ e; cases e)
    exact ⟨.inr ⟨ob, h1⟩, h2⟩
theorem Kp.of (k : ∀ a o, H a = some o → ¬ A a → H' a = some o ∧ ¬ A' a) (f : ∀ a ob u, H a = some (.frz ob u) → H' a = some (.frz ob u)) : Kp A A' H H' := ⟨fun a o e n => ⟨.inl (k a o e n).1, (k a o e n).2⟩, f⟩
theorem Kp.up {a : Addr} {o : HO} (nf : ∀ ob u, H a ≠ some (.frz ob u)) : ∀ b ob u, H b = some (.frz ob u) → upd H a o b = some (.frz ob u) := fun b ob u e => by
  by_cases hb : b = a
  · rw [hb] at e; exact absurd e (nf ob u)
  · rw [upd_ne hb]; exact e
theorem nf_none {a : Addr} (h : H a = none) : ∀ ob u, H a ≠ some (.frz ob u) := fun ob u e => by rw [h] at e; cases e
end
mutual
theorem Rp.keep {G : Gx} {A A' : Addr → Prop} {H H' : Hp} (k : Kp A A' H H') : ∀ {v : V} {d : PyData}, Rp G A H v d → Rp G A' H' v d
  | _, _, .non => .non
  | _, _, .bl b => .bl b
  | _, _, .int i => .int i
  | _, _, .str x => .str x
  | _, _, .lst r n t => .lst (k.at_ r n (by intro φ e; cases e)).1 (k.at_ r n (by intro φ e; cases e)).2 (RpAll.keep k t)
  | _, _, .lstF r t => .lstF (let ⟨ob, q⟩ := r; ⟨ob, k.fz _ _ _ q⟩) (RpAll.keep k t)
  | _, _, .tup r n t => .tup (k.at_ r n (by intro φ e; cases e)).1 (k.at_ r n (by intro φ e; cases e)).2 (RpAll.keep k t)
  | _, _, .tupK r t => .tupK r (RpAll.keep k t)
  | _, _, .dct r n t => .dct (k.rd r n).1 (k.rd r n).2 (RpD.keep k t)
theorem RpAll.keep {G : Gx} {A A' : Addr → Prop} {H H' : Hp} (k : Kp A A' H H') : ∀ {vs : List V} {ds : List PyData}, RpAll G A H vs ds → RpAll G A' H' vs ds
  | _, _, .nil => .nil
  | _, _, .cons r t => .cons (Rp.keep k r) (RpAll.keep k t)
theorem RpD.keep {G : Gx} {A A' : Addr → Prop} {H H' : Hp} (k : Kp A A' H H') : ∀ {xs : List DE} {kvs : List (PyData × PyData)}, RpD G A H xs kvs → RpD G A' H' xs kvs
  | _, _, .nil => .nil
  | _, _, .cons e r s t => .cons e (Rp.keep k r) (Rp.keep k s) (RpD.keep k t)
end
theorem RpAll.length {G : Gx} {A : Addr → Prop} {H : Hp} : ∀ {vs : List V} {ds : List PyData}, RpAll G A H vs ds → vs.length = ds.length
  | _, _, .nil => rfl
  | _, _, .cons _ t => by simp [RpAll.length t]
theorem RpAll.append {G : Gx} {A : Addr → Prop} {H : Hp} : ∀ {vs ws : List V} {ds es : List PyData}, RpAll G A H vs ds → RpAll G A H ws es → RpAll G A H (vs ++ ws) (ds ++ es)
  | _, _, _, _, .nil, s => s
  | _, _, _, _, .cons r t, s => .cons r (RpAll.append t s)
theorem RpAll.take {G : Gx} {A : Addr → Prop} {H : Hp} : ∀ {vs : List V} {ds : List PyData} (n : Nat), RpAll G A H vs ds → RpAll G A H (vs.take n) (ds.take n)
  | _, _, 0, _ => .nil
  | _, _, _ + 1, .nil => .nil
  | _, _, n + 1, .cons r t => .cons r (RpAll.take n t)
theorem RpAll.drop {G : Gx} {A : Addr → Prop} {H : Hp} : ∀ {vs : List V} {ds : List PyData} (n : Nat), RpAll G A H vs ds → RpAll G A H (vs.drop n) (ds.drop n)
  | _, _, 0, r => r
  | _, _, _ + 1, .nil => .nil
  | _, _, n + 1, .cons _ t => RpAll.drop n t
theorem RpAll.get {G : Gx} {A : Addr → Prop} {H : Hp} : ∀ {vs : List V} {ds : List PyData} {i : Nat} {d : PyData}, RpAll G A H vs ds → ds[i]? = some d → ∃ v, vs[i]? = some v ∧ Rp G A H v d
  | _, _, _, _, .nil, e => by simp at e
  | _, _, 0, _, .cons r _, e => by simp at e; subst e; exact ⟨_, rfl, r⟩
  | _, _, i + 1, d, .cons _ t, e => by
    obtain ⟨v, h1, h2⟩ := RpAll.get (i := i) (d := d) t (by simpa using e)
    exact ⟨v, by simpa using h1, h2⟩
theorem RpAll.get' {G : Gx} {A : Addr → Prop} {H : Hp} : ∀ {vs : List V} {ds : List PyData} {i : Nat} {v : V}, RpAll G A H vs ds → vs[i]? = some v → ∃ d, ds[i]? = some d ∧ Rp G A H v d
  | _, _, _, _, .nil, e => by simp at e
  | _, _, 0, _, .cons r _, e => by simp at e; subst e; exact ⟨_, rfl, r⟩
  | _, _, i + 1, d, .cons _ t, e => by
    obtain ⟨v, h1, h2⟩ := RpAll.get' (i := i) (v := d) t (by simpa using e)
    exact ⟨v, by simpa using h1, h2⟩
theorem RpAll.reverse {G : Gx} {A : Addr → Prop} {H : Hp} : ∀ {vs : List V} {ds : List PyData}, RpAll G A H vs ds → RpAll G A H vs.reverse ds.reverse
  | _, _, .nil => .nil
  | _, _, .cons r t => by
    rw [List.reverse_cons, List.reverse_cons]
    exact (RpAll.reverse t).append (.cons r .nil)
theorem RpAll.repl {G : Gx} {A : Addr → Prop} {H : Hp} {vs : List V} {ds : List PyData} (r : RpAll G A H vs ds) : ∀ n : Nat, RpAll G A H (List.replicate n vs).flatten (List.replicate n ds).flatten
  | 0 => .nil
  | n + 1 => by
    rw [List.replicate_succ, List.replicate_succ, List.flatten_cons, List.flatten_cons]
    exact r.append (RpAll.repl r n)
theorem Rp.scal_int {G : Gx} {A : Addr → Prop} {H : Hp} {v : V} {i : Int} (r : Rp G A H v (.int i)) : v = .int i := by cases r; rfl
theorem Rp.scal_str {G : Gx} {A : Addr → Prop} {H : Hp} {v : V} {i : Str} (r : Rp G A H v (.str i)) : v = .str i := by cases r; rfl
theorem Rp.scal_bl {G : Gx} {A : Addr → Prop} {H : Hp} {v : V} {i : Bool} (r : Rp G A H v (.bool i)) : v = .bl i := by cases r; rfl
theorem Rp.scal_non {G : Gx} {A : Addr → Prop} {H : Hp} {v : V} (r : Rp G A H v .none) : v = .non := by cases r; rfl

/-- as Rp, but its own list may be one of the small heap -/
inductive RpT (G : Gx) (A : Addr → Prop) (H : Hp) : V → PyData → Prop
  | of {v : V} {d : PyData} : Rp G A H v d → RpT G A H v d
  | lst {a : Addr} {xs : List V} {ds : List PyData} : H a = some (.lst xs) → RpAll G A H xs ds → RpT G A H (.ref a) (.list ds)
  | dct {a : Addr} {xs : List DE} {kvs : List (PyData × PyData)} : Rd H a (DX G.w a xs) → RpD G A H xs kvs → RpT G A H (.ref a) (.dict kvs)
def ldB : PyData → Bool
  | .list _ => true
  | .dict _ => true
  | _ => false
theorem RpT.dict {G : Gx} {A : Addr → Prop} {H : Hp} {v : V} {kvs : List (PyData × PyData)} (r : RpT G A H v (.dict kvs)) : ∃ a xs, v = .ref a ∧ Rd H a (DX G.w a xs) ∧ RpD G A H xs kvs := by
  cases r with
  | of r => cases r with
    | dct r n t => exact ⟨_, _, rfl, r, t⟩
  | dct r t => exact ⟨_, _, rfl, r, t⟩
theorem RpT.list {G : Gx} {A : Addr → Prop} {H : Hp} {v : V} {ds : List PyData} (r : RpT G A H v (.list ds)) : ∃ a xs, v = .ref a ∧ Rd H a (.lst xs) ∧ RpAll G A H xs ds := by
  cases r with
  | of r => cases r with
    | lst r n t => exact ⟨_, _, rfl, .inl r, t⟩
    | lstF r t => exact ⟨_, _, rfl, .inr r, t⟩
  | lst r t => exact ⟨_, _, rfl, .inl r, t⟩
theorem RpT.sql {G : Gx} {A : Addr → Prop} {H : Hp} {v : V} {ds : List PyData} (r : RpT G A H v (.list ds)) : ∃ a xs, v = .ref a ∧ SqL G.K H a xs ∧ RpAll G A H xs ds := by
  obtain ⟨a, xs, e, r, t⟩ := r.list
  exact ⟨a, xs, e, .inl r, t⟩
theorem Rp.tuple {G : Gx} {A : Addr → Prop} {H : Hp} {v : V} {ds : List PyData} (r : Rp G A H v (.tuple ds)) : ∃ a xs, v = .ref a ∧ SqT G.K H a xs ∧ RpAll G A H xs ds := by
  cases r with
  | tup r n t => exact ⟨_, _, rfl, .inl (.inl r), t⟩
  | tupK r t => exact ⟨_, _, rfl, .inr r, t⟩
theorem RpT.rp {G : Gx} {A : Addr → Prop} {H : Hp} {v : V} {d : PyData} (r : RpT G A H v d) (n : ldB d = false) : Rp G A H v d := by
  cases r with
  | of r => exact r
  | lst _ _ => cases n
  | dct _ _ => cases n
theorem RpT.tuple {G : Gx} {A : Addr → Prop} {H : Hp} {v : V} {ds : List PyData} (r : RpT G A H v (.tuple ds)) : ∃ a xs, v = .ref a ∧ SqT G.K H a xs ∧ RpAll G A H xs ds := (r.rp rfl).tuple
theorem RpT.int {G : Gx} {A : Addr → Prop} {H : Hp} {v : V} {i : Int} (r : RpT G A H v (.int i)) : v = .int i := (r.rp rfl).scal_int
theorem RpT.str {G : Gx} {A : Addr → Prop} {H : Hp} {v : V} {i : Str} (r : RpT G A H v (.str i)) : v = .str i := (r.rp rfl).scal_str
theorem RpT.bl {G : Gx} {A : Addr → Prop} {H : Hp} {v : V} {i : Bool} (r : RpT G A H v (.bool i)) : v = .bl i := (r.rp rfl).scal_bl
theorem RpT.non {G : Gx} {A : Addr → Prop} {H : Hp} {v : V} (r : RpT G A H v .none) : v = .non := (r.rp rfl).scal_non
mutual
theorem Rp.dp {G : Gx} {A : Addr → Prop} {H : Hp} : ∀ {v : V} {d : PyData}, Rp G A H v d → d.canLay0 = true → Dp G.K H v d
  | _, _, .non, _ => .non
  | _, _, .bl b, _ => .bl b
  | _, _, .int i, _ => .int i
  | _, _, .str x, _ => .str x
  | _, _, .lst r n t, h => .lst (.inl (.inl r)) (RpAll.dp t (by simpa [PyData.canLay0] using h))
  | _, _, .lstF r t, h => .lst (.inl (.inr r)) (RpAll.dp t (by simpa [PyData.canLay0] using h))
  | _, _, .tup r n t, h => .tup (.inl (.inl r)) (RpAll.dp t (by simpa [PyData.canLay0] using h))
  | _, _, .tupK r t, h => .tup (.inr r) (RpAll.dp t (by simpa [PyData.canLay0] using h))
  | _, _, .dct _ _ _, h => by simp [PyData.canLay0] at h
theorem RpAll.dp {G : Gx} {A : Addr → Prop} {H : Hp} : ∀ {vs : List V} {ds : List PyData}, RpAll G A H vs ds → PyData.canLayAll0 ds = true → DpAll G.K H vs ds
  | _, _, .nil, _ => .nil
  | _, _, .cons r t, h => by
    simp only [PyData.canLayAll0, Bool.and_eq_true] at h
    exact .cons (Rp.dp r h.1) (RpAll.dp t h.2)
end
theorem RpT.dp {G : Gx} {A : Addr → Prop} {H : Hp} {v : V} {d : PyData} (r : RpT G A H v d) (h : sh d = true) : Dp G.K H v d := by
  have hc := SeqAt.canLay_of_shaped h
  cases r with
  | of r => exact r.dp hc
  | lst r t => exact .lst (.inl (.inl r)) (t.dp (by simpa [PyData.canLay0] using hc))
  | dct _ _ => simp [PyData.canLay0] at hc
/-- data that hold no list and no dict: keys -/
theorem Rp.key {G : Gx} {A A' : Addr → Prop} {H : Hp} {v : V} {d : PyData} (r : Rp G A H v d) (n : ldB d = false) : RpT G A H v d := .of r

/-! ### values, the small heap -/
abbrev Av (A : Addr → Prop) (ρ : List Addr) : Addr → Prop := fun a => A a ∨ a ∈ ρ
/-- a list of the written part -/
def KL_ (K : PySem.W.Frag) (a : Addr) (xs : List V) : Prop :=
  ∃ (o : Obj) (its : Array Value) (n : Nat), K.lookup a = some o ∧ o.cls = .type "list" ∧ o.dict = none ∧ o.data = .seq its n ∧ its.size ≤ sizeLine ∧ Vals xs its.toList
/-- the script's list -/
def ScrR (K : PySem.W.Frag) (B : Addr → Prop) (H : Hp) (a : Addr) (ns : List Int) : Prop := (Rd H a (.lst (ns.map V.int)) ∧ ¬ B a) ∨ KL_ K a (ns.map V.int)
theorem ScrR.sq {K : PySem.W.Frag} {B : Addr → Prop} {H : Hp} {a : Addr} {ns : List Int} (h : ScrR K B H a ns) : SqL K H a (ns.map V.int) := h.imp (fun z => z.1) id
theorem ScrR.re {K : PySem.W.Frag} {B B' : Addr → Prop} {H H' : Hp} {a : Addr} {ns : List Int} (h : ScrR K B H a ns) (k : Kp B B' H H') : ScrR K B' H' a ns := by
  rcases h with ⟨r | ⟨o, r⟩, n⟩ | h
  · have q := k.at_ r n (by intro φ e; cases e)
    exact .inl ⟨.inl q.1, q.2⟩
  · have q := k.at_ r n (by intro φ e; cases e)
    exact .inl ⟨.inr ⟨o, q.1⟩, q.2⟩
  · exact .inr h
inductive RepV (G : Gx) (A : Addr → Prop) (ρ : List Addr) (H : Hp) : V → Val → Prop
  | d {v : V} {x : PyData} : Rp G (Av A ρ) H v x → RepV G A ρ H v (.d x)
  | ref {n : Nat} {a : Addr} : ρ[n]? = some a → RepV G A ρ H (.ref a) (.ref n)
  | exc {a : Addr} {c : Str} : Rd H a (ExH (.ref (G.cx c)) a) → ¬ Av A ρ a → RepV G A ρ H (.ref a) (.exc c)
  | scr {a : Addr} {ns : List Int} : ScrR G.K (Av A ρ) H a ns → RepV G A ρ H (.ref a) (.scr ns)
  | dic {a : Addr} {ks : List Str} {vs : List V} {ds : List PyData} : H a = some (.dK ((ks.zip vs).map fun q => (.inr q.1, q.2))) → ¬ Av A ρ a → ks.length = ds.length → RpAll G (Av A ρ) H vs ds → RepV G A ρ H (.ref a) (.dic (ks.zip ds))
abbrev RepVs (G : Gx) (A : Addr → Prop) (ρ : List Addr) (H : Hp) : List V → List Val → Prop := Paired (RepV G A ρ H)
/-- it is u, locked or not -/
def Lk (H : Hp) (a : Addr) : Bool → HO → Prop
  | false, u => H a = some u
  | true, u => ∃ ob, H a = some (.frz ob u)
theorem Lk.rd {H : Hp} {a : Addr} {lk : Bool} {u : HO} (h : Lk H a lk u) : Rd H a u := by
  cases lk with
  | false => exact .inl h
  | true => exact .inr h
theorem Lk.live {H : Hp} {a : Addr} {lk : Bool} {u : HO} (h : Lk H a lk u) : H a ≠ none := by
  cases lk with
  | false => intro e; rw [show H a = some u from h] at e; cases e
  | true => obtain ⟨ob, q⟩ := h; intro e; rw [q] at e; cases e
theorem Lk.to {H H' : Hp} {a : Addr} {lk : Bool} {u : HO} (h : Lk H a lk u) (k : ∀ o, H a = some o → H' a = some o) : Lk H' a lk u := by
  cases lk with
  | false => exact k _ h
  | true => obtain ⟨ob, q⟩ := h; exact ⟨ob, k _ q⟩
def DVal (G : Gx) (A : Addr → Prop) (ρ : List Addr) (H : Hp) (x : DE) (q : PyData × Val) : Prop := keyN q.1 = some x.1 ∧ Rp G (Av A ρ) H x.2.1 q.1 ∧ RepV G A ρ H x.2.2 q.2
def FVal (G : Gx) (A : Addr → Prop) (ρ : List Addr) (H : Hp) (x : Str × V) (q : Str × Val) : Prop := x.1 = q.1 ∧ RepV G A ρ H x.2 q.2
inductive CellR (G : Gx) (A : Addr → Prop) (ρ : List Addr) (H : Hp) (a : Addr) : Cell → Prop
  | lst {xs : List V} {vs : List Val} : H a = some (.lst xs) → RepVs G A ρ H xs vs → CellR G A ρ H a (.lst vs)
  | fro {xs : List V} {ds : List PyData} : (∃ ob, H a = some (.frz ob (.lst xs))) → RpAll G (Av A ρ) H xs ds → CellR G A ρ H a (.fro ds)
  | tup {xs : List V} {vs : List Val} : H a = some (.tup xs) → RepVs G A ρ H xs vs → CellR G A ρ H a (.tup vs)
  | dict {lk : Bool} {xs : List DE} {kvs : List (PyData × Val)} : Lk H a lk (DX G.w a xs) → Paired (DVal G A ρ H) xs kvs → CellR G A ρ H a (.dict lk kvs)
  | ins {c : Str} {dx : Addr} {fs : List (Str × V)} {gs : List (Str × Val)} : H a = some (.ins (G.cx c) dx fs) → Paired (FVal G A ρ H) fs gs → CellR G A ρ H a (.ins c gs)
theorem CellR.live {G : Gx} {A : Addr → Prop} {ρ : List Addr} {H : Hp} {a : Addr} {c : Cell} (r : CellR G A ρ H a c) : H a ≠ none := by
  cases r with
  | lst q _ => rw [q]; simp
  | fro q _ => obtain ⟨ob, q⟩ := q; rw [q]; simp
  | tup q _ => rw [q]; simp
  | dict q _ => exact q.live
  | ins q _ => rw [q]; simp
theorem rpAll_map {G : Gx} {A A' : Addr → Prop} {H H' : Hp} (k : ∀ {x d}, Rp G A H x d → Rp G A' H' x d) : ∀ {xs : List V} {ds : List PyData}, RpAll G A H xs ds → RpAll G A' H' xs ds
  | _, _, .nil => .nil
  | _, _, .cons r t => .cons (k r) (rpAll_map k t)
theorem CellR.mv {G : Gx} {A A' : Addr → Prop} {ρ ρ' : List Addr} {H H' : Hp} {a : Addr} {c : Cell} (r : CellR G A ρ H a c) (own : ∀ o, H a = some o → H' a = some o) (kd : ∀ {x d}, Rp G (Av A ρ) H x d → Rp G (Av A' ρ') H' x d) (kv : ∀ {x v}, RepV G A ρ H x v → RepV G A' ρ' H' x v) : CellR G A' ρ' H' a c := by
  cases r with
  | lst q r => exact .lst (own _ q) (Paired.mapP r fun _ _ z => kv z)
  | fro q r => exact .fro (let ⟨ob, q⟩ := q; ⟨ob, own _ q⟩) (rpAll_map kd r)
  | tup q r => exact .tup (own _ q) (Paired.mapP r fun _ _ z => kv z)
  | dict q r => exact .dict (q.to own) (Paired.mapP r fun _ _ z => ⟨z.1, kd z.2.1, kv z.2.2⟩)
  | ins q r => exact .ins (own _ q) (Paired.mapP r fun _ _ z => ⟨z.1, kv z.2⟩)
structure Sim (G : Gx) (A : Addr → Prop) (ρ : List Addr) (h : MH) (H : Hp) : Prop where
  len : ρ.length = h.length
  nd : ρ.Nodup
  far : ∀ a, A a → H a ≠ none ∧ a ∉ ρ
  cell : ∀ (n : Nat) c a, h[n]? = some c → ρ[n]? = some a → CellR G A ρ H a c
/-- what a piece of code does to the heap -/
structure Ext (A : Addr → Prop) (ρ : List Addr) (H : Hp) (ρ' : List Addr) (H' : Hp) : Prop where
  pre : ∀ (n : Nat) a, ρ[n]? = some a → ρ'[n]? = some a
  new : ∀ a, a ∈ ρ' → a ∈ ρ ∨ H a = none
  keep : ∀ a o, H a = some o → a ∉ ρ → Ks A H' a o
  live : ∀ a, H a ≠ none → H' a ≠ none
  frzs : ∀ a ob u, H a = some (.frz ob u) → H' a = some (.frz ob u)
section
variable {G : Gx} {A : Addr → Prop} {ρ ρ1 ρ2 : List Addr} {H H1 H2 : Hp}
theorem Ext.refl : Ext A ρ H ρ H := ⟨fun _ _ h => h, fun _ h => .inl h, fun _ _ h _ => .inl h, fun _ h => h, fun _ _ _ h => h⟩
theorem Ext.notin (e : Ext A ρ H ρ1 H1) {a : Addr} {o : HO} (h : H a = some o) (n : a ∉ ρ) : a ∉ ρ1 := fun m => by
  rcases e.new a m with z | z
  · exact n z
  · rw [h] at z; cases z
theorem Ext.trans (e : Ext A ρ H ρ1 H1) (f : Ext A ρ1 H1 ρ2 H2) : Ext A ρ H ρ2 H2 where
  pre := fun n a h => f.pre n a (e.pre n a h)
  new := fun a m => by
    rcases f.new a m with z | z
    · exact e.new a z
    · right
      cases q : H a with
      | none => rfl
      | some o => exact absurd z (e.live a (by rw [q]; simp))
  keep := fun a o h n => by
    rcases e.keep a o h n with z | ⟨na, ho, ob, z⟩
    · exact f.keep a o z (e.notin h n)
    · exact .inr ⟨na, ho, ob, f.frzs _ _ _ z⟩
  live := fun a h => f.live a (e.live a h)
  frzs := fun a ob u h => f.frzs a ob u (e.frzs a ob u h)
theorem Ext.av (e : Ext A ρ H ρ1 H1) : Kp (Av A ρ) (Av A ρ1) H H1 := ⟨fun a o h n =>
  ⟨by
    rcases e.keep a o h (fun m => n (.inr m)) with z | ⟨na, ho, ob, z⟩
    · exact .inl z
    · exact .inr ⟨n, ho, ob, z⟩, fun z => by
    rcases z with z | z
    · exact n (.inl z)
    · exact e.notin h (fun m => n (.inr m)) z⟩, e.frzs⟩
theorem RepV.re {A' : Addr → Prop} (k : Kp (Av A ρ) (Av A' ρ1) H H1) (pre : ∀ (n : Nat) a, ρ[n]? = some a → ρ1[n]? = some a) {v : V} {x : Val} (r : RepV G A ρ H v x) : RepV G A' ρ1 H1 v x := by
  cases r with
  | d r => exact .d (r.keep k)
  | ref r => exact .ref (pre _ _ r)
  | exc r n => exact .exc (k.rd r n).1 (k.rd r n).2
  | scr r => exact .scr (r.re k)
  | dic r n l t => exact .dic (k.at_ r n (by intro φ e; cases e)).1 (k.at_ r n (by intro φ e; cases e)).2 l (t.keep k)
theorem RepV.ext (e : Ext A ρ H ρ1 H1) {v : V} {x : Val} (r : RepV G A ρ H v x) : RepV G A ρ1 H1 v x := r.re e.av e.pre
theorem RepVs.ext (e : Ext A ρ H ρ1 H1) {vs : List V} {xs : List Val} (r : RepVs G A ρ H vs xs) : RepVs G A ρ1 H1 vs xs := Paired.mapP r fun _ _ q => q.ext e
/-- a new object that is no one of the small heap -/
theorem Ext.laid {p : Addr} {o : HO} (hp : H p = none) : Ext A ρ H ρ (upd H p o) :=
  ⟨fun _ _ h => h, fun _ h => .inl h, fun a u h _ => .inl (by rw [upd_ne (ne_of_none h hp)]; exact h), fun a h => by
    unfold upd; split
    · simp
    · exact h, fun a ob u h => by rw [upd_ne (ne_of_none h hp)]; exact h⟩
theorem Sim.laid {h : MH} {p : Addr} {o : HO} (S : Sim G A ρ h H) (hp : H p = none) : Sim G A ρ h (upd H p o) := by
  have E : Ext A ρ H ρ (upd H p o) := Ext.laid hp
  exact ⟨S.len, S.nd, fun a z => ⟨E.live a (S.far a z).1, (S.far a z).2⟩, fun n c a hc ha =>
    (S.cell n c a hc ha).mv (fun o q => by rw [upd_ne (ne_of_none q hp)]; exact q) (fun r => r.keep E.av) fun r => r.ext E⟩
theorem Sim.tracked {h : MH} (S : Sim G A ρ h H) {a : Addr} (m : a ∈ ρ) : H a ≠ none := by
  obtain ⟨n, hn⟩ := List.getElem?_of_mem m
  have hl : n < h.length := by rw [← S.len]; exact (List.getElem?_eq_some_iff.mp hn).1
  exact (S.cell n h[n] a (List.getElem?_eq_getElem hl) hn).live
theorem Sim.notAv {h : MH} (S : Sim G A ρ h H) {p : Addr} (hp : H p = none) : ¬ Av A ρ p := fun z => by
  rcases z with z | z
  · exact (S.far p z).1 hp
  · exact S.tracked z hp
theorem Kp.put {a : Addr} {o : HO} (m : a ∈ ρ) (nf : ∀ ob u, H a ≠ some (.frz ob u)) : Kp (Av A ρ) (Av A ρ) H (upd H a o) := Kp.of (fun b u e z => ⟨by rw [upd_ne (fun (q : b = a) => z (.inr (by rw [q]; exact m)))]; exact e, z⟩) (Kp.up nf)
/-- one cell is changed -/
theorem Sim.putC {h : MH} {n : Nat} {a : Addr} {c : Cell} {o : HO} (S : Sim G A ρ h H) (hr : ρ[n]? = some a) (nf : ∀ ob u, H a ≠ some (.frz ob u)) (new : CellR G A ρ (upd H a o) a c) : Sim G A ρ (h.set n c) (upd H a o) := by
  have mem := List.mem_of_getElem? hr
  have k : Kp (Av A ρ) (Av A ρ) H (upd H a o) := Kp.put mem nf
  refine ⟨by simp [S.len], S.nd, fun b z => ⟨?_, (S.far b z).2⟩, fun m c' b hc hb => ?_⟩
  · by_cases hb : b = a
    · rw [hb, upd_same]; simp
    · rw [upd_ne hb]; exact (S.far b z).1
  · by_cases hm : n = m
    · subst hm
      have hlt : n < h.length := by rw [← S.len]; exact (List.getElem?_eq_some_iff.mp hr).1
      rw [List.getElem?_set_self hlt] at hc
      cases hc
      rw [hr] at hb; cases hb
      exact new
    · rw [List.getElem?_set_ne hm] at hc
      have hne : b ≠ a := fun e => by
        subst e
        obtain ⟨l1, e1⟩ := List.getElem?_eq_some_iff.mp hr
        obtain ⟨l2, e2⟩ := List.getElem?_eq_some_iff.mp hb
        exact hm ((List.getElem_inj S.nd).mp (e1.trans e2.symm))
      exact (S.cell m c' b hc hb).mv (fun o q => by rw [upd_ne hne]; exact q) (fun r => r.keep k) fun r => r.re k fun _ _ z => z
theorem Ext.put {a : Addr} {o : HO} (m : a ∈ ρ) (nf : ∀ ob u, H a ≠ some (.frz ob u)) : Ext A ρ H ρ (upd H a o) :=
  ⟨fun _ _ h => h, fun _ h => .inl h, fun b u e n => .inl (by rw [upd_ne (fun (q : b = a) => n (by rw [q]; exact m))]; exact e), fun b e => by
    by_cases hb : b = a
    · rw [hb, upd_same]; simp
    · rw [upd_ne hb]; exact e, fun b ob u e => by
    by_cases hb : b = a
    · rw [hb] at e; exact absurd e (nf ob u)
    · rw [upd_ne hb]; exact e⟩
theorem Ext.push {q : Addr} {o : HO} (hq : H q = none) : Ext A ρ H (ρ ++ [q]) (upd H q o) :=
  ⟨fun n b hb => by rw [List.getElem?_append_left (List.getElem?_eq_some_iff.mp hb).1]; exact hb, fun b hb => by
    rcases List.mem_append.mp hb with hb | hb
    · exact .inl hb
    · rw [List.mem_singleton.mp hb]; exact .inr hq, fun a u h _ => .inl (by rw [upd_ne (ne_of_none h hq)]; exact h), fun a h => by
    unfold upd; split
    · simp
    · exact h, fun a ob u h => by rw [upd_ne (ne_of_none h hq)]; exact h⟩
theorem getElem?_snoc {α : Type} {l : List α} {x y : α} {n : Nat} (h : (l ++ [x])[n]? = some y) : l[n]? = some y ∨ (n = l.length ∧ y = x) := by
  by_cases hn : n < l.length
  · rw [List.getElem?_append_left hn] at h; exact .inl h
  · by_cases he : n = l.length
    · subst he; rw [List.getElem?_append_right (Nat.le_refl _)] at h; simp at h; exact .inr ⟨rfl, h.symm⟩
    · rw [List.getElem?_eq_none (by simp; omega)] at h; cases h
/-- a new cell -/
theorem Sim.pushC {h : MH} {q : Addr} {o : HO} {c : Cell} (S : Sim G A ρ h H) (hq : H q = none) (new : CellR G A (ρ ++ [q]) (upd H q o) q c) : Sim G A (ρ ++ [q]) (h ++ [c]) (upd H q o) := by
  have nin : q ∉ ρ := fun m => S.tracked m hq
  have E : Ext A ρ H (ρ ++ [q]) (upd H q o) := Ext.push hq
  refine ⟨by simp [S.len], ?_, fun b z => ⟨E.live b (S.far b z).1, fun m => ?_⟩, fun n c' b hc hb => ?_⟩
  · rw [List.nodup_append]
    refine ⟨S.nd, by simp, fun b hb c hc => ?_⟩
    rw [List.mem_singleton.mp hc]
    exact fun e => nin (e ▸ hb)
  · rcases List.mem_append.mp m with m | m
    · exact (S.far b z).2 m
    · rw [List.mem_singleton.mp m] at z; exact (S.far q z).1 hq
  · rcases getElem?_snoc hc with hc | ⟨e1, e2⟩
    · have hlt : n < ρ.length := by rw [S.len]; exact (List.getElem?_eq_some_iff.mp hc).1
      rw [List.getElem?_append_left hlt] at hb
      have hbm := List.mem_of_getElem? hb
      have hbq : b ≠ q := fun e => nin (e ▸ hbm)
      exact (S.cell n c' b hc hb).mv (fun o z => by rw [upd_ne hbq]; exact z) (fun r => r.keep E.av) fun r => r.ext E
    · subst e1 e2
      rw [← S.len] at hb
      rw [List.getElem?_append_right (Nat.le_refl _)] at hb
      simp at hb
      subst hb
      exact new
end
/-- the slots -/
structure EnvR (G : Gx) (A : Addr → Prop) (ρ : List Addr) (H : Hp) (σ : St) (e : Z.Env) : Prop where
  len : σ.length = e.length
  at_ : ∀ (i : Nat) (v : Val), e[i]? = some (some v) → ∃ x, σ[i]? = some (some x) ∧ RepV G A ρ H x v
theorem EnvR.ext {G : Gx} {A : Addr → Prop} {ρ ρ1 : List Addr} {H H1 : Hp} {σ : St} {e : Z.Env} (r : EnvR G A ρ H σ e) (x : Ext A ρ H ρ1 H1) : EnvR G A ρ1 H1 σ e :=
  ⟨r.len, fun i v h => let ⟨y, h1, h2⟩ := r.at_ i v h; ⟨y, h1, h2.ext x⟩⟩

/-- what is behind a piece: R relates its result -/
def Post {α β : Type} (G : Gx) (A : Addr → Prop) (W : WX) (σ : St) (R : List Addr → Hp → β → α → Prop) (ρ : List Addr) (H : Hp) (r : Res α) (Q : β → Hp → Prop) : Prop := match r with
  | .ok v h' => ∀ ρ' H' x, Ext A ρ H ρ' H' → Sim G A ρ' h' H' → R ρ' H' x v → Q x H'
  | .exc c h' => ∀ ρ' H', Ext A ρ H ρ' H' → Sim G A ρ' h' H' → W (.ref (G.cx c)) none σ H'
  | .bad => False
section
variable {α β γ δ : Type} {G : Gx} {A : Addr → Prop} {W : WX} {σ : St} {R : List Addr → Hp → β → α → Prop} {R' : List Addr → Hp → δ → γ → Prop} {ρ ρ1 : List Addr} {H H1 : Hp}
theorem Post.ext {r : Res α} {Q : β → Hp → Prop} (p : Post G A W σ R ρ H r Q) (e : Ext A ρ H ρ1 H1) : Post G A W σ R ρ1 H1 r Q := by
  cases r with
  | ok v h => exact fun ρ' H' x e' => p ρ' H' x (e.trans e')
  | exc c h => exact fun ρ' H' e' => p ρ' H' (e.trans e')
  | bad => exact p
theorem Post.mono {r : Res α} {Q Q' : β → Hp → Prop} (p : Post G A W σ R ρ H r Q) (q : ∀ x H, Q x H → Q' x H) : Post G A W σ R ρ H r Q' := by
  cases r with
  | ok v h => exact fun ρ' H' x e s rr => q _ _ (p ρ' H' x e s rr)
  | exc c h => exact p
  | bad => exact p
theorem Post.bind {r : Res α} {k : α → MH → Res γ} {Q : δ → Hp → Prop} (p : Post G A W σ R' ρ H (r.bind k) Q) :
    Post G A W σ R ρ H r (fun x H1 => ∃ v h1 ρ1, Ext A ρ H ρ1 H1 ∧ Sim G A ρ1 h1 H1 ∧ R ρ1 H1 x v ∧ Post G A W σ R' ρ1 H1 (k v h1) Q) := by
  cases r with
  | ok v h => exact fun ρ' H' x e s rr => ⟨v, h, ρ', e, s, rr, Post.ext (G := G) (A := A) (W := W) (σ := σ) (R := R') (r := k v h) p e⟩
  | exc c h => exact p
  | bad => exact p
theorem Post.lift {o : Option α} {h : MH} {Q : β → Hp → Prop} (p : Post G A W σ R ρ H (Z.lift h o) Q) : ∃ v, o = some v ∧ Post G A W σ R ρ H (.ok v h) Q := by
  cases o with
  | none => exact False.elim p
  | some v => exact ⟨v, rfl, p⟩
theorem Post.here {v : α} {h : MH} {Q : β → Hp → Prop} (p : Post G A W σ R ρ H (.ok v h) Q) (S : Sim G A ρ h H) {x : β} (r : R ρ H x v) : Q x H := p ρ H x Ext.refl S r
theorem Post.new {v : α} {h : MH} {Q : β → Hp → Prop} (p : Post G A W σ R ρ H (.ok v h) Q) (S : Sim G A ρ h H) {x : β} {a : Addr} {o : HO} (ha : H a = none) (r : R ρ (upd H a o) x v) : Q x (upd H a o) := p ρ _ x (Ext.laid ha) (S.laid ha) r
end
/-- an expression's promise, from its meaning -/
def tE (G : Gx) (W : WX) (d : Z.Env → MH → Res Val) : TE := fun σ H Q => ∃ A ρ e h, Sim G A ρ h H ∧ EnvR G A ρ H σ e ∧ Post G A W σ (RepV G A) ρ H (d e h) Q
def tT (G : Gx) (W : WX) (d : Z.Env → MH → Res Bool) : TT := fun σ H Q => ∃ A ρ e h, Sim G A ρ h H ∧ EnvR G A ρ H σ e ∧ Post G A W σ (fun _ _ x v => x = v) ρ H (d e h) Q
def tAs (G : Gx) (W : WX) (d : Z.Env → MH → Res (List Val)) : TA := fun σ H Q => ∃ A ρ e h, Sim G A ρ h H ∧ EnvR G A ρ H σ e ∧ Post G A W σ (RepVs G A) ρ H (d e h) Q
def tOs (G : Gx) (W : WX) (d : Z.Env → MH → Res (Option Int)) : TO := fun σ H Q => ∃ A ρ e h, Sim G A ρ h H ∧ EnvR G A ρ H σ e ∧ Post G A W σ (fun _ _ x v => x = v) ρ H (d e h) Q
def PostS (G : Gx) (A : Addr → Prop) (W : WX) (ρ : List Addr) (H : Hp) (r : RS) (D : Ends) : Prop := match r with
  | .next e h => ∀ ρ' H' σ', Ext A ρ H ρ' H' → Sim G A ρ' h H' → EnvR G A ρ' H' σ' e → D.nx σ' H'
  | .ret v h => ∀ ρ' H' x, Ext A ρ H ρ' H' → Sim G A ρ' h H' → RepV G A ρ' H' x v → D.rt x H'
  | .brk e h => ∀ ρ' H' σ', Ext A ρ H ρ' H' → Sim G A ρ' h H' → EnvR G A ρ' H' σ' e → D.bk σ' H'
  | .cont e h => ∀ ρ' H' σ', Ext A ρ H ρ' H' → Sim G A ρ' h H' → EnvR G A ρ' H' σ' e → D.ct σ' H'
  | .exc c e h => ∀ ρ' H' σ', Ext A ρ H ρ' H' → Sim G A ρ' h H' → EnvR G A ρ' H' σ' e → W (.ref (G.cx c)) none σ' H'
  | .bad => False
def tS (G : Gx) (W : WX) (d : Z.Env → MH → RS) : TS := fun D σ H => ∃ A ρ e h, Sim G A ρ h H ∧ EnvR G A ρ H σ e ∧ PostS G A W ρ H (d e h) D
theorem PE.imp {X : Cx} {e : Expr} {t t' : TE} (h : PE X e t) (q : ∀ σ H Q, t' σ H Q → t σ H Q) : PE X e t' := ⟨fun pins s σ H Q I r => h.run pins s σ H Q I (q _ _ _ r)⟩
theorem PT.imp {X : Cx} {e : Expr} {t t' : TT} (h : PT X e t) (q : ∀ σ H Q, t' σ H Q → t σ H Q) : PT X e t' := ⟨fun pins s σ H Q I r => h.run pins s σ H Q I (q _ _ _ r)⟩
theorem PW.imp {X : Cx} {e : Expr} {t t' : TT} (h : PW X e t) (q : ∀ σ H Q, t' σ H Q → t σ H Q) : PW X e t' := ⟨fun w pins s σ H Q I r => h.run w pins s σ H Q I (q _ _ _ r)⟩
theorem PA.imp {X : Cx} {e : List Expr} {t t' : TA} (h : PA X e t) (q : ∀ σ H Q, t' σ H Q → t σ H Q) : PA X e t' := ⟨fun pos pins s σ H Q I r => h.run pos pins s σ H Q I (q _ _ _ r)⟩
theorem PS.imp {X : Cx} {e : Stmt} {t t' : TS} (h : PS X e t) (q : ∀ D σ H, t' D σ H → t D σ H) : PS X e t' := ⟨fun pins s σ H D I r => h.run pins s σ H D I (q _ _ _ r)⟩
theorem PSs.imp {X : Cx} {e : List Stmt} {t t' : TS} (h : PSs X e t) (q : ∀ D σ H, t' D σ H → t D σ H) : PSs X e t' := ⟨fun pins s σ H D I r => h.run pins s σ H D I (q _ _ _ r)⟩
section
variable {G : Gx} {A : Addr → Prop} {W : WX} {ρ ρ1 : List Addr} {H H1 : Hp} {D D' : Ends}
theorem PostS.ext {r : RS} (p : PostS G A W ρ H r D) (e : Ext A ρ H ρ1 H1) : PostS G A W ρ1 H1 r D := by
  cases r with
  | next v h => exact fun ρ' H' x e' => p ρ' H' x (e.trans e')
  | ret v h => exact fun ρ' H' x e' => p ρ' H' x (e.trans e')
  | brk v h => exact fun ρ' H' x e' => p ρ' H' x (e.trans e')
  | cont v h => exact fun ρ' H' x e' => p ρ' H' x (e.trans e')
  | exc c v h => exact fun ρ' H' x e' => p ρ' H' x (e.trans e')
  | bad => exact p
end
end L2

set_option Elab.async false
set_option linter.all false
set_option autoImplicit false
set_option maxRecDepth 100000
set_option maxHeartbeats 4000000
/-! Z2: operators by their meaning. -/
namespace L2
open PySem PySem.Spec PyProof.Rows Z

/-- what is behind an operation that has come to v -/
def Fin_ (G : Gx) (A : Addr → Prop) (ρ : List Addr) (h : MH) (H : Hp) (v : Val) (Q : VK) : Prop := ∀ ρ' H' x, Ext A ρ H ρ' H' → Sim G A ρ' h H' → RepV G A ρ' H' x v → Q x H'
section
variable {G : Gx} {A : Addr → Prop} {ρ : List Addr} {h : MH} {H : Hp} {v : Val} {Q : VK}
theorem Fin_.here (f : Fin_ G A ρ h H v Q) (S : Sim G A ρ h H) {x : V} (r : RepV G A ρ H x v) : Q x H := f ρ H x Ext.refl S r
theorem Fin_.new (f : Fin_ G A ρ h H v Q) (S : Sim G A ρ h H) {x : V} {a : Addr} {o : HO} (ha : H a = none) (r : RepV G A ρ (upd H a o) x v) : Q x (upd H a o) := f ρ _ x (Ext.laid ha) (S.laid ha) r
theorem Fin_.lst {xs : List V} {ds : List PyData} (f : Fin_ G A ρ h H (.d (.list ds)) Q) (S : Sim G A ρ h H) (r : RpAll G (Av A ρ) H xs ds) : ∀ p, H p = none → Q (.ref p) (upd H p (.lst xs)) := fun p hp =>
  f.new S hp (.d (.lst upd_same (S.notAv hp) (r.keep (Ext.laid hp).av)))
theorem Fin_.tup {xs : List V} {ds : List PyData} (f : Fin_ G A ρ h H (.d (.tuple ds)) Q) (S : Sim G A ρ h H) (r : RpAll G (Av A ρ) H xs ds) : ∀ p, H p = none → Q (.ref p) (upd H p (.tup xs)) := fun p hp =>
  f.new S hp (.d (.tup upd_same (S.notAv hp) (r.keep (Ext.laid hp).av)))
end
/-! ### list + list, list * int, of lists that may be locked -/
section
variable {X : Cx} {pins : List (Addr × Obj)} {σ : St} {H : Hp} {s : Shared}
theorem lstR {l : Addr} {xs : List V} (I : Inv X pins σ H s) (r : Rd H l (.lst xs)) : xs.length ≤ sizeLine ∧ ∃ (its : List Value) (n : Nat), Vals xs its ∧ xs.length = its.length ∧ s.heap.get? l = some { cls := .type "list", data := .seq its.toArray n } := by
  obtain ⟨z, its, n, r, e⟩ := r.ok I.hok
  exact ⟨z, its, n, r, r.length, e⟩
def rCatR : R2 := fun x y H Q => ∃ l b xs zs, x = .ref l ∧ y = .ref b ∧ Rd H l (.lst xs) ∧ Rd H b (.lst zs) ∧ xs.length + zs.length ≤ sizeLine ∧ ∀ p, H p = none → Q (.ref p) (upd H p (.lst (xs ++ zs)))
theorem op_catR : OpR X (binaryOp .Add) rCatR := by
  intro pins s σ H x y v u Q I rx ry h
  obtain ⟨l, b, xs, zs, rfl, rfl, hH, hB, hz, q⟩ := h
  cases rx
  cases ry
  obtain ⟨z, its, n, r, hl, e⟩ := lstR I hH
  obtain ⟨z2, its2, n2, r2, hl2, e2⟩ := lstR I hB
  refine PySem.P.add_list e e2 ?_ (by rw [List.size_toArray, List.size_toArray]; omega)
  have ea : its.toArray ++ its2.toArray = (its ++ its2).toArray := by simp
  rw [ea]
  exact ⟨.ref _, _, I.lnew (t' := s.toks) (r.append r2) (by rw [List.length_append]; omega), rfl, q _ I.fresh⟩
def rRepR : R2 := fun x y H Q => ∃ l k xs, x = .ref l ∧ y = .int k ∧ Rd H l (.lst xs) ∧ -(2 ^ 63) ≤ k ∧ k < 2 ^ 63 ∧ xs.length * k.toNat ≤ sizeLine ∧
  ∀ p, H p = none → Q (.ref p) (upd H p (.lst (List.replicate k.toNat xs).flatten))
theorem op_repR : OpR X (binaryOp .Mult) rRepR := by
  intro pins s σ H x y v u Q I rx ry h
  obtain ⟨l, k, xs, rfl, rfl, hH, h1, h2, hz, q⟩ := h
  cases rx
  obtain ⟨t, rfl⟩ := ry
  obtain ⟨z, its, n, r, hl, e⟩ := lstR I hH
  have hlen : its.toArray.size * k.toNat ≤ sizeLine := by rw [List.size_toArray, ← hl]; exact hz
  have hcap : ¬ its.toArray.size * k.toNat > (2 ^ 63 - 1) / 8 := by
    have : (sizeLine : Nat) ≤ (2 ^ 63 - 1) / 8 := by decide
    omega
  have hfit : ¬ (!Builtin.List.listFitsIndex k) = true := by
    rw [fitsIndex_both h1 h2]
    exact Bool.false_ne_true
  have hlong : ¬ Builtin.List.listTooLong (its.toArray.size * k.toNat) = true := by
    rw [notLongL hlen]
    exact Bool.false_ne_true
  have hnew : List.foldl (fun x1 x2 => x1 ++ x2) #[] (List.replicate (if its.toArray.isEmpty = true then 0 else k.toNat) its.toArray) = (List.replicate k.toNat its).flatten.toArray := by
    have f0 : ∀ m : Nat, List.foldl (fun x1 x2 => x1 ++ x2) #[] (List.replicate m its.toArray) = (List.replicate m its).flatten.toArray := fun m => by
      have := foldl_rep its m []
      rw [List.nil_append] at this
      exact this
    rw [f0]
    cases its with
    | nil => simp
    | cons a r' => rw [if_neg (by simp)]
  refine wpAny_binaryOp_repeat_ref (T := "list") (U := "int") (by decide) ⟨_, e, rfl⟩ (fun s' => typeIs_int s' k t) noFill_list_mul F.fills_int_mul F.slot_int_rmul repeat_list F.slot_int_index.lookup
    (call_meets F.slot_int_rmul (typeIs_int s k t) F.entry_int_rmul (F.args_int_rmul_2 _ _) (int___rmul___int_list k t l its.toArray n)
      ⟨e, rfl, ⟨_, e, rfl⟩, call_meets F.slot_list_mul ⟨_, e, rfl⟩ F.entry_list_mul (F.args_list_mul_2 _ _) (AutoListH.list___mul___list_int_3 l its.toArray n k t hfit hcap hlong) ⟨e, ?_⟩⟩)
  rw [hnew]
  exact ⟨.ref _, _, I.lnew (t' := s.toks) (r.rep k.toNat) (by rw [PyProof.Rows.lm_len_rep_flat, Nat.mul_comm]; exact hz), rfl, q _ I.fresh⟩
end
def opOf : Bop → Operator
  | .add => .Add | .sub => .Sub | .mul => .Mult | .fdiv => .FloorDiv | .mod => .Mod | .pow => .Pow
/-- a binary operator's reading by its meaning -/
def rBin (G : Gx) (o : Bop) : R2 := fun x y H Q => ∃ A ρ h a b z, Sim G A ρ h H ∧ RpT G (Av A ρ) H x a ∧ RpT G (Av A ρ) H y b ∧ binD o a b = some z ∧ Fin_ G A ρ h H (.d z) Q
theorem op_bin {X : Cx} {G : Gx} (hK : X.K = G.K) (o : Bop) : OpR X (binaryOp (opOf o)) (rBin G o) := by
  intro pins s σ H x y v u Q I rx ry hh
  obtain ⟨A, ρ, h, a, b, z, S, ra, rb, e, f⟩ := hh
  cases o with
  | add =>
    cases a <;> cases b <;> first | (simp [binD] at e; done) | skip
    · have e1 := ra.int; have e2 := rb.int; subst e1 e2
      simp only [binD, Option.some.injEq] at e; subst e
      exact op_add pins s σ H _ _ v u Q I rx ry ⟨_, _, rfl, rfl, f.here S (.d (.int _))⟩
    · have e1 := ra.str; have e2 := rb.str; subst e1 e2
      simp only [binD] at e
      split at e
      · rename_i hz; cases e
        exact op_add_str pins s σ H _ _ v u Q I rx ry ⟨_, _, rfl, rfl, by simpa [lOk] using hz, f.here S (.d (.str _))⟩
      · cases e
    · obtain ⟨p, xs, rfl, hp, tp⟩ := ra.list
      obtain ⟨q, ys, rfl, hq, tq⟩ := rb.list
      simp only [binD] at e
      split at e
      · rename_i hz; cases e
        exact op_catR pins s σ H _ _ v u Q I rx ry ⟨p, q, xs, ys, rfl, rfl, hp, hq, by rw [tp.length, tq.length]; simpa [lOk] using hz, f.lst S (tp.append tq)⟩
      · cases e
    · simp only [binD] at e
      split at e
      · rename_i hz; cases e
        obtain ⟨p, xs, ep, hp, tp⟩ := ra.tuple
        obtain ⟨q, ys, eq, hq, tq⟩ := rb.tuple
        have ra' := ra.rp rfl
        have rb' := rb.rp rfl
        subst ep eq
        refine op_catA pins s σ H _ _ v u Q I rx ry ⟨p, q, xs, ys, rfl, rfl, hK ▸ hp, hK ▸ hq, by rw [tp.length, tq.length]; simpa [lOk] using hz, fun ex => ?_, fun _ ey => ?_, fun _ _ => f.tup S (tp.append tq)⟩
        · subst ex; cases tp
          exact f.here S (.d rb')
        · subst ey; cases tq
          rw [List.append_nil] at f
          exact f.here S (.d ra')
      · cases e
  | sub =>
    cases a <;> cases b <;> first | (simp [binD] at e; done) | skip
    have e1 := ra.int; have e2 := rb.int; subst e1 e2
    simp only [binD, Option.some.injEq] at e; subst e
    exact op_sub pins s σ H _ _ v u Q I rx ry ⟨_, _, rfl, rfl, f.here S (.d (.int _))⟩
  | mul =>
    cases a <;> cases b <;> first | (simp [binD] at e; done) | skip
    · have e1 := ra.int; have e2 := rb.int; subst e1 e2
      simp only [binD] at e
      split at e
      · rename_i hz; cases e
        refine op_mul pins s σ H _ _ v u Q I rx ry ⟨_, _, rfl, rfl, ?_, f.here S (.d (.int _))⟩
        simp only [wOk, Bool.or_eq_true, Bool.and_eq_true, decide_eq_true_eq] at hz
        exact hz
      · cases e
    · obtain ⟨p, xs, rfl, hp, tp⟩ := ra.list
      have e2 := rb.int; subst e2
      simp only [binD] at e
      split at e
      · rename_i hz; cases e
        simp only [lOk, Bool.and_eq_true, decide_eq_true_eq] at hz
        exact op_repR pins s σ H _ _ v u Q I rx ry ⟨p, _, xs, rfl, rfl, hp, hz.1.1, hz.1.2, by rw [tp.length]; exact hz.2, f.lst S (tp.repl _)⟩
      · cases e
  | fdiv =>
    cases a <;> cases b <;> first | (simp [binD] at e; done) | skip
    have e1 := ra.int; have e2 := rb.int; subst e1 e2
    simp only [binD] at e
    split at e
    · rename_i hz; cases e
      simp only [bne_iff_ne, ne_eq, Bool.and_eq_true, decide_eq_true_eq] at hz
      exact op_fdivN pins s σ H _ _ v u Q I rx ry ⟨_, _, rfl, rfl, hz, f.here S (.d (.int _))⟩
    · cases e
  | mod =>
    cases a <;> cases b <;> first | (simp [binD] at e; done) | skip
    have e1 := ra.int; have e2 := rb.int; subst e1 e2
    simp only [binD] at e
    split at e
    · rename_i hz; cases e
      simp only [bne_iff_ne, ne_eq] at hz
      exact op_modN pins s σ H _ _ v u Q I rx ry ⟨_, _, rfl, rfl, hz, f.here S (.d (.int _))⟩
    · cases e
  | pow =>
    cases a <;> cases b <;> first | (simp [binD] at e; done) | skip
    have e1 := ra.int; have e2 := rb.int; subst e1 e2
    simp only [binD] at e
    split at e
    · rename_i hz; cases e
      simp only [Bool.and_eq_true, decide_eq_true_eq] at hz
      exact op_pow pins s σ H _ _ v u Q I rx ry ⟨_, _, rfl, rfl, ⟨hz.1.1, hz.1.2, hz.2⟩, f.here S (.d (.int _))⟩
    · cases e

def copOf : Cop → CmpOp
  | .eq => .Eq | .ne => .NotEq | .lt => .Lt | .le => .LtE | .gt => .Gt | .ge => .GtE | .isin => .In | .notin => .NotIn | .is_ => .Is | .isnot => .IsNot
def rCmp (G : Gx) (o : Cop) : R2 := fun x y H Q => ∃ A ρ h v w b, Sim G A ρ h H ∧ RepV G A ρ H x v ∧ RepV G A ρ H y w ∧ cmpV h o v w = some b ∧ Q (.bl b) H
theorem dats_rep {G : Gx} {A : Addr → Prop} {ρ : List Addr} {H : Hp} {xs : List V} {vs : List Val} (rv : RepVs G A ρ H xs vs) : ∀ {ds : List PyData}, dats vs = some ds → RpAll G (Av A ρ) H xs ds := by
  induction rv with
  | nil => intro ds e1; simp only [dats, Option.some.injEq] at e1; subst e1; exact .nil
  | cons r t ih =>
    intro ds e1
    cases r with
    | d r =>
      simp only [dats, dat, Option.bind_some, Option.map_eq_some_iff] at e1
      obtain ⟨ds', h1, h2⟩ := e1
      subst h2
      exact .cons r (ih h1)
    | ref r => simp [dats, dat] at e1
    | scr r => simp [dats, dat] at e1
    | exc _ _ => simp [dats, dat] at e1
    | dic _ _ _ _ => simp [dats, dat] at e1
/-- a dict's entries, all data -/
theorem dval_rpd {G : Gx} {A : Addr → Prop} {ρ : List Addr} {H : Hp} {xs : List DE} {kvs : List (PyData × Val)} (r : Paired (DVal G A ρ H) xs kvs) : ∀ {ds : List PyData}, dats (kvs.map (·.2)) = some ds → RpD G (Av A ρ) H xs ((kvs.map (·.1)).zip ds) := by
  induction r with
  | nil => intro ds e1; simp only [List.map_nil, dats, Option.some.injEq] at e1; subst e1; exact .nil
  | @cons x q xs kvs r t ih =>
    intro ds e1
    obtain ⟨k, kv, vv⟩ := x
    obtain ⟨kd, v⟩ := q
    obtain ⟨r1, r2, r3⟩ := r
    simp only at r1 r2 r3
    cases r3 with
    | d r3 =>
      simp only [List.map_cons, dats, dat, Option.bind_some, Option.map_eq_some_iff] at e1
      obtain ⟨ds', h1, h2⟩ := e1
      subst h2
      exact .cons r1 r2 r3 (ih h1)
    | ref _ => simp [dats, dat] at e1
    | exc _ _ => simp [dats, dat] at e1
    | scr _ => simp [dats, dat] at e1
    | dic _ _ _ _ => simp [dats, dat] at e1
theorem asD_rep {G : Gx} {A : Addr → Prop} {ρ : List Addr} {h : MH} {H : Hp} (S : Sim G A ρ h H) {v : Val} {x : V} {d : PyData} (r : RepV G A ρ H x v) (e : asD h v = some d) : RpT G (Av A ρ) H x d := by
  cases r with
  | d r =>
    simp only [asD, Option.some.injEq] at e
    subst e
    exact .of r
  | scr r => simp [asD] at e
  | exc _ _ => simp [asD] at e
  | dic _ _ _ _ => simp [asD] at e
  | ref r =>
    unfold asD at e
    simp only at e
    split at e
    · rename_i vs hc
      cases S.cell _ _ _ hc r with
      | lst q rv =>
        rw [Option.map_eq_some_iff] at e
        obtain ⟨ds, e1, e2⟩ := e
        subst e2
        exact .lst q (dats_rep rv e1)
    · rename_i ds hc
      cases S.cell _ _ _ hc r with
      | fro q rv =>
        cases e
        exact .of (.lstF q rv)
    · rename_i lk kvs hc
      cases S.cell _ _ _ hc r with
      | dict q rv =>
        rw [Option.map_eq_some_iff] at e
        obtain ⟨ds, e1, e2⟩ := e
        subst e2
        exact .dct q.rd (dval_rpd rv e1)
    · cases e
/-- a value read through as data -/
theorem frz_dp {G : Gx} {A : Addr → Prop} {ρ : List Addr} {h : MH} {H : Hp} (S : Sim G A ρ h H) : ∀ (k : Nat) {v : Val} {x : V} {d : PyData}, RepV G A ρ H x v → frz 0 h k v = some d → d.canLay0 = true → Dp G.K H x d := by
  have seq : ∀ (k : Nat), (∀ {v : Val} {x : V} {d : PyData}, RepV G A ρ H x v → frz 0 h k v = some d → d.canLay0 = true → Dp G.K H x d) → ∀ {xs : List V} {vs : List Val} {ds : List PyData}, RepVs G A ρ H xs vs → mapO (frz 0 h k) vs = some ds → PyData.canLayAll0 ds = true → DpAll G.K H xs ds := by
    intro k ih xs vs ds r
    induction r generalizing ds with
    | nil => intro e _; simp only [mapO, Option.some.injEq] at e; subst e; exact .nil
    | cons r t ih2 =>
      intro e hc
      simp only [mapO] at e
      rw [Option.bind_eq_some_iff] at e
      obtain ⟨d, e1, e2⟩ := e
      rw [Option.map_eq_some_iff] at e2
      obtain ⟨ds', e3, e4⟩ := e2
      subst e4
      simp only [PyData.canLayAll0, Bool.and_eq_true] at hc
      exact .cons (ih r e1 hc.1) (ih2 e3 hc.2)
  intro k
  induction k with
  | zero =>
    intro v x d r e hc
    cases r with
    | d r => simp only [frz, Option.some.injEq] at e; subst e; exact r.dp hc
    | _ => simp [frz] at e
  | succ k ih =>
    intro v x d r e hc
    cases r with
    | d r => simp only [frz, Option.some.injEq] at e; subst e; exact r.dp hc
    | scr _ => simp [frz] at e
    | exc _ _ => simp [frz] at e
    | dic _ _ _ _ => simp [frz] at e
    | @ref n a r =>
      simp only [frz, Nat.zero_le, if_true] at e
      split at e
      · rename_i vs hq
        cases S.cell _ _ _ hq r with
        | lst q rv =>
          rw [Option.map_eq_some_iff] at e
          obtain ⟨ds, e1, e2⟩ := e
          subst e2
          exact .lst (.inl (.inl q)) (seq k ih rv e1 (by simpa [PyData.canLay0] using hc))
      · rename_i ds hq
        cases S.cell _ _ _ hq r with
        | fro q rv =>
          cases e
          exact .lst (.inl (.inr q)) (rv.dp (by simpa [PyData.canLay0] using hc))
      · rename_i vs hq
        cases S.cell _ _ _ hq r with
        | tup q rv =>
          rw [Option.map_eq_some_iff] at e
          obtain ⟨ds, e1, e2⟩ := e
          subst e2
          exact .tup (.inl (.inl q)) (seq k ih rv e1 (by simpa [PyData.canLay0] using hc))
      · rw [Option.map_eq_some_iff] at e
        obtain ⟨ds, e1, e2⟩ := e
        subst e2
        simp [PyData.canLay0] at hc
      · cases e
theorem asX_dp {G : Gx} {A : Addr → Prop} {ρ : List Addr} {h : MH} {H : Hp} (S : Sim G A ρ h H) {v : Val} {x : V} {d : PyData} (r : RepV G A ρ H x v) (e : asX h v = some d) (hs : sh d = true) : Dp G.K H x d := by
  unfold asX at e
  cases hq : asD h v with
  | some d' =>
    rw [hq] at e
    simp only [Option.some_or, Option.some.injEq] at e
    subst e
    exact (asD_rep S r hq).dp hs
  | none =>
    rw [hq] at e
    exact frz_dp S 6 r (by simpa using e) (SeqAt.canLay_of_shaped hs)
end L2

set_option Elab.async false
set_option linter.all false
set_option autoImplicit false
set_option maxRecDepth 100000
set_option maxHeartbeats 4000000
/-! Z2d: dicts, whatever their keys are. -/
namespace L2
open PySem PySem.Spec PyProof.Rows Z
/-! ### keys -/
mutual
theorem eqv_beq : ∀ (a b : PyData) (x y : NestedKey), keyN a = some x → keyN b = some y → PyData.eqv a b = NestedKey.beq x y
  | .none, .none, x, y, h, k => by simp only [keyN, Option.some.injEq] at h k; subst h k; simp [PyData.eqv, NestedKey.beq]
  | .none, .int _, x, y, h, k => by simp only [keyN, Option.some.injEq] at h k; subst h k; simp [PyData.eqv, NestedKey.beq]
  | .none, .str _, x, y, h, k => by simp only [keyN, Option.some.injEq] at h k; subst h k; simp [PyData.eqv, NestedKey.beq]
  | .none, .tuple _, x, y, h, k => by
    simp only [keyN, Option.some.injEq, Option.map_eq_some_iff] at h k
    obtain ⟨_, _, k⟩ := k; subst h k; simp [PyData.eqv, NestedKey.beq]
  | .int _, .none, x, y, h, k => by simp only [keyN, Option.some.injEq] at h k; subst h k; simp [PyData.eqv, NestedKey.beq]
  | .int i, .int j, x, y, h, k => by
    simp only [keyN, Option.some.injEq] at h k; subst h k
    rw [PyData.eqv, NestedKey.beq]
    by_cases e : i = j <;> simp [e]
  | .int _, .str _, x, y, h, k => by simp only [keyN, Option.some.injEq] at h k; subst h k; simp [PyData.eqv, NestedKey.beq]
  | .int _, .tuple _, x, y, h, k => by
    simp only [keyN, Option.some.injEq, Option.map_eq_some_iff] at h k
    obtain ⟨_, _, k⟩ := k; subst h k; simp [PyData.eqv, NestedKey.beq]
  | .str _, .none, x, y, h, k => by simp only [keyN, Option.some.injEq] at h k; subst h k; simp [PyData.eqv, NestedKey.beq]
  | .str _, .int _, x, y, h, k => by simp only [keyN, Option.some.injEq] at h k; subst h k; simp [PyData.eqv, NestedKey.beq]
  | .str i, .str j, x, y, h, k => by
    simp only [keyN, Option.some.injEq] at h k; subst h k
    rw [PyData.eqv, NestedKey.beq]
    by_cases e : i = j <;> simp [e]
  | .str _, .tuple _, x, y, h, k => by
    simp only [keyN, Option.some.injEq, Option.map_eq_some_iff] at h k
    obtain ⟨_, _, k⟩ := k; subst h k; simp [PyData.eqv, NestedKey.beq]
  | .tuple _, .none, x, y, h, k => by
    simp only [keyN, Option.some.injEq, Option.map_eq_some_iff] at h k
    obtain ⟨_, _, h⟩ := h; subst h k; simp [PyData.eqv, NestedKey.beq]
  | .tuple _, .int _, x, y, h, k => by
    simp only [keyN, Option.some.injEq, Option.map_eq_some_iff] at h k
    obtain ⟨_, _, h⟩ := h; subst h k; simp [PyData.eqv, NestedKey.beq]
  | .tuple _, .str _, x, y, h, k => by
    simp only [keyN, Option.some.injEq, Option.map_eq_some_iff] at h k
    obtain ⟨_, _, h⟩ := h; subst h k; simp [PyData.eqv, NestedKey.beq]
  | .tuple as, .tuple bs, x, y, h, k => by
    simp only [keyN, Option.map_eq_some_iff] at h k
    obtain ⟨xs, h1, h⟩ := h
    obtain ⟨ys, k1, k⟩ := k
    subst h k
    rw [PyData.eqv, NestedKey.beq]
    exact eqv_beqs as bs xs ys h1 k1
  | .bool _, _, _, _, h, _ => by simp [keyN] at h
  | .list _, _, _, _, h, _ => by simp [keyN] at h
  | .dict _, _, _, _, h, _ => by simp [keyN] at h
  | _, .bool _, _, _, _, k => by simp [keyN] at k
  | _, .list _, _, _, _, k => by simp [keyN] at k
  | _, .dict _, _, _, _, k => by simp [keyN] at k
theorem eqv_beqs : ∀ (as bs : List PyData) (xs ys : List NestedKey), keysN as = some xs → keysN bs = some ys → PyData.eqvAll as bs = NestedKey.beqAll xs ys
  | [], [], xs, ys, h, k => by simp only [keysN, Option.some.injEq] at h k; subst h k; simp [PyData.eqvAll, NestedKey.beqAll]
  | [], b :: bs, xs, ys, h, k => by
    simp only [keysN, Option.some.injEq, Option.bind_eq_some_iff, Option.map_eq_some_iff] at h k
    obtain ⟨_, _, _, _, k⟩ := k; subst h k; simp [PyData.eqvAll, NestedKey.beqAll]
  | a :: as, [], xs, ys, h, k => by
    simp only [keysN, Option.some.injEq, Option.bind_eq_some_iff, Option.map_eq_some_iff] at h k
    obtain ⟨_, _, _, _, h⟩ := h; subst h k; simp [PyData.eqvAll, NestedKey.beqAll]
  | a :: as, b :: bs, xs, ys, h, k => by
    simp only [keysN, Option.bind_eq_some_iff, Option.map_eq_some_iff] at h k
    obtain ⟨x, h1, xs', h2, h⟩ := h
    obtain ⟨y, k1, ys', k2, k⟩ := k
    subst h k
    rw [PyData.eqvAll, NestedKey.beqAll, eqv_beq a b x y h1 k1, eqv_beqs as bs xs' ys' h2 k2]
end
theorem eqv_key {a b : PyData} {x y : NestedKey} (h : keyN a = some x) (k : keyN b = some y) : PyData.eqv a b = decide (x = y) := by
  rw [NestedKey.decide_eq, eqv_beq a b x y h k]
mutual
theorem reads_nested {h : Heap} : ∀ (d : PyData) (u : Value) (as : List Addr) (k : NestedKey), Reads h u d as → keyN d = some k → NestedIs h k u
  | .none, _, _, k, r, e => by cases r; simp only [keyN, Option.some.injEq] at e; subst e; exact .none
  | .int i, _, _, k, r, e => by cases r; simp only [keyN, Option.some.injEq] at e; subst e; exact .int _ _
  | .str i, _, _, k, r, e => by cases r; simp only [keyN, Option.some.injEq] at e; subst e; exact .text _ _
  | .tuple ds, _, _, k, r, e => by
    simp only [keyN, Option.map_eq_some_iff] at e
    obtain ⟨ks, e1, e2⟩ := e
    subst e2
    cases r with
    | tuple h1 h2 h3 h4 => exact .tup h1 h2 h3 (reads_nesteds ds _ _ ks h4 e1)
  | .bool _, _, _, _, _, e => by simp [keyN] at e
  | .list _, _, _, _, _, e => by simp [keyN] at e
  | .dict _, _, _, _, _, e => by simp [keyN] at e
theorem reads_nesteds {h : Heap} : ∀ (ds : List PyData) (us : List Value) (as : List Addr) (ks : List NestedKey), ReadsAll h us ds as → keysN ds = some ks → NestedAll h ks us
  | [], _, _, ks, r, e => by cases r; simp only [keysN, Option.some.injEq] at e; subst e; exact .nil
  | d :: ds, _, _, ks, r, e => by
    simp only [keysN, Option.bind_eq_some_iff, Option.map_eq_some_iff] at e
    obtain ⟨x, h1, xs, h2, e⟩ := e
    subst e
    cases r with
    | cons r t => exact .cons (reads_nested d _ _ x r h1) (reads_nesteds ds _ _ xs t h2)
end
mutual
theorem Rp.keyDp {G : Gx} {A : Addr → Prop} {H : Hp} : ∀ {v : V} {d : PyData} {k : NestedKey}, Rp G A H v d → keyN d = some k → Dp G.K H v d
  | _, _, _, .non, _ => .non
  | _, _, _, .bl b, _ => .bl b
  | _, _, _, .int i, _ => .int i
  | _, _, _, .str x, _ => .str x
  | _, _, _, .lst _ _ _, h => by simp [keyN] at h
  | _, _, _, .lstF _ _, h => by simp [keyN] at h
  | _, _, _, .tup r n t, h => by
    simp only [keyN, Option.map_eq_some_iff] at h
    obtain ⟨ks, e, _⟩ := h
    exact .tup (.inl (.inl r)) (RpAll.keyDp t e)
  | _, _, _, .tupK r t, h => by
    simp only [keyN, Option.map_eq_some_iff] at h
    obtain ⟨ks, e, _⟩ := h
    exact .tup (.inr r) (RpAll.keyDp t e)
  | _, _, _, .dct _ _ _, h => by simp [keyN] at h
theorem RpAll.keyDp {G : Gx} {A : Addr → Prop} {H : Hp} : ∀ {vs : List V} {ds : List PyData} {ks : List NestedKey}, RpAll G A H vs ds → keysN ds = some ks → DpAll G.K H vs ds
  | _, _, _, .nil, _ => .nil
  | _, _, _, .cons r t, h => by
    simp only [keysN, Option.bind_eq_some_iff, Option.map_eq_some_iff] at h
    obtain ⟨x, h1, xs, h2, _⟩ := h
    exact .cons (Rp.keyDp r h1) (RpAll.keyDp t h2)
end
theorem kindK_tup {d : PyData} (h : kindK d = some true) : ∃ ds k, d = .tuple ds ∧ keyN d = some k ∧ k.depth ≤ 8 := by
  cases d <;> simp only [kindK] at h <;> try (cases h; done)
  rename_i ds
  split at h
  · rename_i k hk
    split at h
    · rename_i hd
      exact ⟨ds, k, rfl, hk, of_decide_eq_true hd⟩
    · cases h
  · cases h
theorem kindK_sc {d : PyData} (h : kindK d = some false) : (∃ i, d = .int i) ∨ ∃ x, d = .str x := by
  cases d <;> simp only [kindK] at h <;> try (cases h; done)
  · exact .inl ⟨_, rfl⟩
  · exact .inr ⟨_, rfl⟩
  · rename_i ds
    split at h
    · split at h
      · cases h
      · cases h
    · cases h
theorem kindK_key {d : PyData} {b : Bool} (h : kindK d = some b) : ∃ k, keyN d = some k := by
  cases b with
  | true => obtain ⟨_, k, _, h1, _⟩ := kindK_tup h; exact ⟨k, h1⟩
  | false => rcases kindK_sc h with ⟨i, rfl⟩ | ⟨x, rfl⟩ <;> exact ⟨_, rfl⟩
/-! ### entries in pairs -/
theorem paired_find {α β : Type} {R : α → β → Prop} {p : α → Bool} {q : β → Bool} {l : List α} {m : List β} (r : Paired R l m) (h : ∀ a b, R a b → p a = q b) : (l.find? p = none ∧ m.find? q = none) ∨ ∃ a b, l.find? p = some a ∧ m.find? q = some b ∧ R a b := by
  induction r with
  | nil => exact .inl ⟨rfl, rfl⟩
  | @cons a b l m r t ih =>
    have e := h a b r
    rw [List.find?_cons, List.find?_cons, e]
    cases hq : q b with
    | true => exact .inr ⟨a, b, rfl, rfl, r⟩
    | false => exact ih
theorem paired_any {α β : Type} {R : α → β → Prop} {p : α → Bool} {q : β → Bool} {l : List α} {m : List β} (r : Paired R l m) (h : ∀ a b, R a b → p a = q b) : l.any p = m.any q := by
  induction r with
  | nil => rfl
  | @cons a b l m r t ih => rw [List.any_cons, List.any_cons, h a b r, ih]
theorem paired_put {α β : Type} {R : α → β → Prop} {p : α → Bool} {q : β → Bool} {f : α → α} {g : β → β} {a0 : α} {b0 : β} {l : List α} {m : List β} (r : Paired R l m) (h : ∀ a b, R a b → p a = q b) (fg : ∀ a b, R a b → p a = true → R (f a) (g b)) (new : R a0 b0) :
    Paired R (if l.any p then l.map (fun a => if p a then f a else a) else l ++ [a0]) (if m.any q then m.map (fun b => if q b then g b else b) else m ++ [b0]) := by
  rw [paired_any r h]
  have h1 : Paired R (l.map (fun a => if p a then f a else a)) (m.map (fun b => if q b then g b else b)) := by
    clear new
    induction r with
    | nil => exact .nil
    | @cons a b l m r t ih =>
      rw [List.map_cons, List.map_cons]
      refine .cons ?_ ih
      rw [h a b r]
      split
      · rename_i hq; exact fg a b r (by rw [h a b r, hq])
      · exact r
  have h2 : Paired R (l ++ [a0]) (m ++ [b0]) := by
    clear fg h h1
    induction r with
    | nil => exact .cons new .nil
    | cons r t ih => exact .cons r ih
  split
  · exact h1
  · exact h2
theorem paired_mem {α β : Type} {R : α → β → Prop} {l : List α} {m : List β} (r : Paired R l m) : ∀ {a : α}, a ∈ l → ∃ b, b ∈ m ∧ R a b := by
  induction r with
  | nil => intro a h; cases h
  | cons r t ih =>
    intro a h
    rcases List.mem_cons.mp h with e | h
    · subst e; exact ⟨_, List.mem_cons_self, r⟩
    · obtain ⟨b, h1, h2⟩ := ih h; exact ⟨b, List.mem_cons_of_mem _ h1, h2⟩
theorem paired_mem2 {α β : Type} {R : α → β → Prop} {l : List α} {m : List β} (r : Paired R l m) : ∀ {b : β}, b ∈ m → ∃ a, a ∈ l ∧ R a b := by
  induction r with
  | nil => intro a h; cases h
  | cons r t ih =>
    intro a h
    rcases List.mem_cons.mp h with e | h
    · subst e; exact ⟨_, List.mem_cons_self, r⟩
    · obtain ⟨b, h1, h2⟩ := ih h; exact ⟨b, List.mem_cons_of_mem _ h1, h2⟩
/-- the entries of the heap and of the meaning -/
abbrev DP {β : Type} (G : Gx) (B : Addr → Prop) (H : Hp) (Rv : V → β → Prop) (xs : List DE) (kvs : List (PyData × β)) : Prop := Paired (fun (x : DE) (q : PyData × β) => keyN q.1 = some x.1 ∧ Rp G B H x.2.1 q.1 ∧ Rv x.2.2 q.2) xs kvs
theorem RpD.dp {G : Gx} {B : Addr → Prop} {H : Hp} {xs : List DE} {kvs : List (PyData × PyData)} (r : RpD G B H xs kvs) : DP G B H (Rp G B H) xs kvs := by
  induction kvs generalizing xs with
  | nil => cases r; exact .nil
  | cons q kvs ih => cases r with
    | cons e r s t => exact .cons ⟨e, r, s⟩ (ih t)
theorem DP.rpd {G : Gx} {B : Addr → Prop} {H : Hp} {xs : List DE} {kvs : List (PyData × PyData)} (r : DP G B H (Rp G B H) xs kvs) : RpD G B H xs kvs := by
  induction r with
  | nil => exact .nil
  | @cons x q _ _ r t ih =>
    obtain ⟨x1, x2, x3⟩ := x
    obtain ⟨q1, q2⟩ := q
    exact .cons r.1 r.2.1 r.2.2 ih
/-- an int or a text as a nested key -/
def nk : Key → NestedKey
  | .inl i => .num i
  | .inr x => .text x
theorem nk_inj {a b : Key} (h : nk a = nk b) : a = b := by
  cases a <;> cases b <;> simp [nk] at h <;> rw [h]
theorem nk_dec (a b : Key) : decide (nk a = nk b) = decide (a = b) := by
  by_cases e : a = b
  · subst e; simp
  · have : ¬ nk a = nk b := fun h => e (nk_inj h)
    rw [decide_eq_false e, decide_eq_false this]
theorem nk_hash (w : World) (k : Key) : (nk k).hash w = keyH w k := by cases k <;> rfl
section
variable {β : Type} {X : Cx} {G : Gx} {pins : List (Addr × Obj)} {σ : St} {H : Hp} {s : Shared} {B : Addr → Prop} {Rv : V → β → Prop} {a : Addr} {xs : List DE} {kvs : List (PyData × β)} {kd : PyData} {y : V} {u : Value} {A : Around} {E : Value → Shared → Prop}
theorem Rp.nested (I : Inv X pins σ H s) (hK : X.K = G.K) {v : V} {d : PyData} {k : NestedKey} {u : Value} (r : Rp G B H v d) (e : keyN d = some k) (q : RelV v u) : NestedIs s.heap k u := by
  obtain ⟨as, h⟩ := Dp.reads I d v u (hK ▸ r.keyDp e) q
  exact reads_nested d u as k h e
theorem Rp.tupRef {v : V} {ds : List PyData} (r : Rp G B H v (.tuple ds)) : ∃ ad, v = .ref ad := by
  cases r with
  | tup _ _ _ => exact ⟨_, rfl⟩
  | tupK _ _ => exact ⟨_, rfl⟩
/-- entries whose keys are tuples -/
def TRel (x : DE) (z : NestedKey × Addr × Value) : Prop := x.1 = z.1 ∧ x.2.1 = .ref z.2.1 ∧ RelV x.2.2 z.2.2
/-- entries whose keys are ints and texts -/
def KRel (x : DE) (v : Key × Value) : Prop := x.1 = nk v.1 ∧ x.2.1 = kV v.1 ∧ RelV x.2.2 v.2
theorem keysT {zs : List (NestedKey × Addr × Value)} (r : Paired TRel xs zs) : zs.map (·.1) = xs.map (·.1) := by
  induction r with
  | nil => rfl
  | cons r t ih => rw [List.map_cons, List.map_cons, ih, r.1]
theorem keysK {vs : List (Key × Value)} (r : Paired KRel xs vs) : (vs.map (·.1)).map nk = xs.map (·.1) := by
  induction r with
  | nil => rfl
  | cons r t ih => rw [List.map_cons, List.map_cons, List.map_cons, ih, r.1]
theorem relT {zs : List (NestedKey × Addr × Value)} (r : Paired TRel xs zs) : Paired DRel xs (zs.map (fun z => (z.1, .ref z.2.1, z.2.2))) := by
  induction r with
  | nil => exact .nil
  | cons r t ih => exact .cons ⟨r.1, by rw [r.2.1]; rfl, r.2.2⟩ ih
theorem kOk_kind (h : kOk kvs kd = true) : ∃ b, kindK kd = some b ∧ ∀ q ∈ kvs, kindK q.1 = some b := by
  unfold kOk at h
  split at h
  · rename_i b hb
    exact ⟨b, hb, fun q hq => by have := List.all_eq_true.mp h q hq; simpa using this⟩
  · cases h
theorem dx_T {ys : List (NestedKey × Value × Value)} (r : Paired DRel xs ys) (ks : ∀ x ∈ xs, ∃ ad, x.2.1 = .ref ad ∧ (nestedKind X.prog X.w).is s.heap x.1 ad) :
    ∃ zs : List (NestedKey × Addr × Value), zs.map (entryOfKey (nestedKind X.prog X.w)) = ys.map (entN X.w) ∧ Paired TRel xs zs ∧ ∀ z ∈ zs, (nestedKind X.prog X.w).is s.heap z.1 z.2.1 := by
  induction r with
  | nil => exact ⟨[], rfl, .nil, fun z hz => by cases hz⟩
  | @cons x q xs ys r t ih =>
    obtain ⟨zs, h1, h2, h3⟩ := ih fun x hx => ks x (List.mem_cons_of_mem _ hx)
    obtain ⟨ad, e1, e2⟩ := ks x List.mem_cons_self
    obtain ⟨r1, r2, r3⟩ := r
    rw [e1] at r2
    refine ⟨(x.1, ad, q.2.2) :: zs, ?_, .cons ⟨rfl, e1, r3⟩ h2, fun z hz => ?_⟩
    · rw [List.map_cons, List.map_cons, h1]
      congr 1
      unfold entryOfKey entN
      rw [show q.2.1 = Value.ref ad from r2, ← r1]
      rfl
    · rcases List.mem_cons.mp hz with e | hz
      · subst e; exact e2
      · exact h3 z hz
theorem dx_K {ys : List (NestedKey × Value × Value)} (r : Paired DRel xs ys) (ks : ∀ x ∈ xs, ∃ k : Key, x.1 = nk k ∧ x.2.1 = kV k) :
    ∃ vs : List (Key × Value), Paired KRel xs vs ∧ Pairs (mixKind X.prog X.w) (ys.map (entN X.w)) vs ∧ ∀ e ∈ ys.map (entN X.w), ∃ k, (mixKind X.prog X.w).is k e.key = true ∧ e.hash = (mixKind X.prog X.w).hash k := by
  induction r with
  | nil => exact ⟨[], .nil, .nil, fun z hz => by cases hz⟩
  | @cons x q xs ys r t ih =>
    obtain ⟨vs, h1, h2, h3⟩ := ih fun x hx => ks x (List.mem_cons_of_mem _ hx)
    obtain ⟨k, e1, e2⟩ := ks x List.mem_cons_self
    obtain ⟨r1, r2, r3⟩ := r
    have hk : (mixKind X.prog X.w).is k (entN X.w q).key = true := kV_is (by rw [← e2]; exact r2)
    refine ⟨(k, q.2.2) :: vs, .cons ⟨e1, e2, r3⟩ h1, .cons hk rfl h2, fun e he => ?_⟩
    rcases List.mem_cons.mp he with z | he
    · subst z
      exact ⟨k, hk, by show q.1.hash X.w = keyH X.w k; rw [← r1, e1, nk_hash]⟩
    · exact h3 e he
/-- the dict's heap, with tuple keys -/
theorem dx_keyed (I : Inv X pins σ H s) (hK : X.K = G.K) (hw : X.w = G.w) (hd : Rd H a (DX G.w a xs)) (dp : DP G B H Rv xs kvs) (hb : ∀ q ∈ kvs, kindK q.1 = some true) :
    xs.length ≤ sizeLine ∧ (a == sysModules) = false ∧ ∃ zs : List (NestedKey × Addr × Value), Paired TRel xs zs ∧ s.heap.DictOfH (nestedKind X.prog X.w) a zs := by
  obtain ⟨⟨hz, hs, hn, ys, pr, o, es, ep, ho, hx, hdt, he⟩, _⟩ := hd.ok I.hok
  rw [← hw] at he
  obtain ⟨zs, h1, h2, h3⟩ := dx_T (X := X) (s := s) pr fun x hx => by
    obtain ⟨q, hq, e1, e2, _⟩ := paired_mem dp hx
    obtain ⟨ds, k, ed, ek, hdep⟩ := kindK_tup (hb q hq)
    rw [e1] at ek; cases ek
    rw [ed] at e2
    obtain ⟨ad, ea⟩ := e2.tupRef
    rw [ea] at e2
    exact ⟨ad, ea, Rp.nested I hK e2 (by rw [← ed]; exact e1) rfl, hdep⟩
  refine ⟨hz, hs, zs, h2, o, es, ep, ho, hx, hdt, by rw [he, h1], h3, ?_⟩
  rw [keysT h2]; exact hn
/-- the dict's heap, with ints and texts as keys -/
theorem dx_plain (I : Inv X pins σ H s) (hw : X.w = G.w) (hd : Rd H a (DX G.w a xs)) (dp : DP G B H Rv xs kvs) (hb : ∀ q ∈ kvs, kindK q.1 = some false) :
    xs.length ≤ sizeLine ∧ (a == sysModules) = false ∧ ∃ vs : List (Key × Value), Paired KRel xs vs ∧ s.heap.DictOf (mixKind X.prog X.w) a vs := by
  obtain ⟨⟨hz, hs, hn, ys, pr, o, es, ep, ho, hx, hdt, he⟩, _⟩ := hd.ok I.hok
  rw [← hw] at he
  obtain ⟨vs, h1, h2, h3⟩ := dx_K (X := X) pr fun x hx => by
    obtain ⟨q, hq, e1, e2, _⟩ := paired_mem dp hx
    rcases kindK_sc (hb q hq) with ⟨i, e⟩ | ⟨i, e⟩
    · rw [e] at e1 e2
      simp only [keyN, Option.some.injEq] at e1
      exact ⟨.inl i, e1.symm, e2.scal_int⟩
    · rw [e] at e1 e2
      simp only [keyN, Option.some.injEq] at e1
      exact ⟨.inr i, e1.symm, e2.scal_str⟩
  refine ⟨hz, hs, vs, h1, o, es, ep, ho, hx, hdt, fun e hm => h3 e ?_, by rw [he]; exact h2, ?_⟩
  · rw [← he]; exact Array.mem_toList_iff.mpr hm
  · rw [← keysK h1] at hn
    exact List.Pairwise.of_map nk (fun a b h e => h (congrArg nk e)) hn
/-- back -/
theorem dx_ofT {P : Program} {w : World} {h : Heap} {zs : List (NestedKey × Addr × Value)} (r : Paired TRel xs zs) (hz : xs.length ≤ sizeLine) (hs : (a == sysModules) = false) (d : h.DictOfH (nestedKind P w) a zs) : dxP w a xs h := by
  obtain ⟨o, es, ep, ho, hx, hdt, he, _, hn⟩ := d
  refine ⟨hz, hs, ?_, zs.map (fun z => (z.1, .ref z.2.1, z.2.2)), ?_, o, es, ep, ho, hx, hdt, by rw [he, List.map_map]; rfl⟩
  · rw [← keysT r]; exact hn
  · exact relT r
theorem dx_ofK {P : Program} {w : World} {h : Heap} {vs : List (Key × Value)} (r : Paired KRel xs vs) (hz : xs.length ≤ sizeLine) (hs : (a == sysModules) = false) (d : h.DictOf (mixKind P w) a vs) : dxP w a xs h := by
  obtain ⟨o, es, ep, ho, hx, hdt, hk, hp, hn⟩ := d
  have hk' : ∀ e ∈ es.toList, ∃ k, keyIs k e.key = true ∧ e.hash = keyH w k := fun e he => hk e (Array.mem_toList_iff.mp he)
  have key : ∃ ys : List (NestedKey × Value × Value), Paired DRel xs ys ∧ es.toList = ys.map (entN w) := by
    clear hn hdt hz
    generalize es.toList = l at hp hk'
    clear hk
    induction r generalizing l with
    | nil => cases hp; exact ⟨[], .nil, rfl⟩
    | @cons x v xs vs r t ih =>
      cases hp with
      | @cons e _ es' _ h1 h2 h3 =>
        obtain ⟨ys, q1, q2⟩ := ih es' h3 fun e he => hk' e (List.mem_cons_of_mem _ he)
        obtain ⟨k, k1, k2⟩ := hk' e List.mem_cons_self
        have ek : k = v.1 := (mixKind P w).inj e.key k v.1 k1 h1
        refine ⟨(x.1, e.key, e.val) :: ys, .cons ⟨rfl, ?_, ?_⟩ q1, ?_⟩
        · rw [r.2.1]; exact relV_key h1
        · rw [h2]; exact r.2.2
        · rw [List.map_cons, ← q2]
          congr 1
          unfold entN
          rw [r.1, nk_hash, ← ek, ← k2]
  obtain ⟨ys, q1, q2⟩ := key
  refine ⟨hz, hs, ?_, ys, q1, o, es, ep, ho, hx, hdt, q2⟩
  rw [← keysK r]
  exact List.pairwise_map.mpr (hn.imp fun hne h => hne (nk_inj h))
end
end L2

set_option Elab.async false
set_option linter.all false
set_option autoImplicit false
set_option maxRecDepth 100000
set_option maxHeartbeats 4000000
/-! Z2e: what a dict answers. -/
namespace L2
open PySem PySem.Spec PyProof.Rows Z
theorem find_any {α : Type} (p : α → Bool) (l : List α) : (l.find? p).isSome = l.any p := by
  induction l with
  | nil => rfl
  | cons a l ih =>
    rw [List.find?_cons, List.any_cons]
    cases p a with
    | true => rfl
    | false => simpa using ih
section
variable {β : Type} {X : Cx} {G : Gx} {pins : List (Addr × Obj)} {σ : St} {H : Hp} {s : Shared} {B : Addr → Prop} {Rv : V → β → Prop} {a : Addr} {xs : List DE} {kvs : List (PyData × β)} {kd : PyData} {y : V} {u : Value} {A : Around} {E : Value → Shared → Prop}
/-- the key and the entries, one way or the other -/
inductive DK (X : Cx) (s : Shared) (a : Addr) (xs : List DE) (kd : PyData) (y : V) (u : Value) (kk : NestedKey) : Prop
  | t {ad : Addr} {zs : List (NestedKey × Addr × Value)} : y = .ref ad → u = .ref ad → (nestedKind X.prog X.w).is s.heap kk ad → Paired TRel xs zs → s.heap.DictOfH (nestedKind X.prog X.w) a zs → DK X s a xs kd y u kk
  | k {k : Key} {vs : List (Key × Value)} : y = kV k → kk = nk k → (mixKind X.prog X.w).is k u = true → Paired KRel xs vs → s.heap.DictOf (mixKind X.prog X.w) a vs → DK X s a xs kd y u kk
theorem dk_ways (I : Inv X pins σ H s) (hK : X.K = G.K) (hw : X.w = G.w) (hd : Rd H a (DX G.w a xs)) (dp : DP G B H Rv xs kvs) (ok : kOk kvs kd = true) (ry : RelV y u) (rk : Rp G B H y kd) :
    xs.length ≤ sizeLine ∧ (a == sysModules) = false ∧ ∃ kk, keyN kd = some kk ∧ DK X s a xs kd y u kk := by
  obtain ⟨b, hb, hall⟩ := kOk_kind ok
  cases b with
  | true =>
    obtain ⟨ds, kk, ed, ek, hdep⟩ := kindK_tup hb
    obtain ⟨ad, ea⟩ := (ed ▸ rk : Rp G B H y (.tuple ds)).tupRef
    subst ea
    cases (show u = Value.ref ad from ry)
    obtain ⟨h1, h2, zs, h3, h4⟩ := dx_keyed I hK hw hd dp hall
    exact ⟨h1, h2, kk, ek, .t rfl rfl ⟨Rp.nested I hK rk ek rfl, hdep⟩ h3 h4⟩
  | false =>
    obtain ⟨h1, h2, vs, h3, h4⟩ := dx_plain I hw hd dp hall
    rcases kindK_sc hb with ⟨i, e⟩ | ⟨i, e⟩
    · subst e
      have := rk.scal_int
      subst this
      exact ⟨h1, h2, _, rfl, .k (k := .inl i) rfl rfl (kV_is ry) h3 h4⟩
    · subst e
      have := rk.scal_str
      subst this
      exact ⟨h1, h2, _, rfl, .k (k := .inr i) rfl rfl (kV_is ry) h3 h4⟩
theorem dp_find (dp : DP G B H Rv xs kvs) {kk : NestedKey} (ek : keyN kd = some kk) : (xs.find? (fun x => decide (x.1 = kk)) = none ∧ dget kvs kd = none) ∨ ∃ x v, xs.find? (fun x => decide (x.1 = kk)) = some x ∧ dget kvs kd = some v ∧ Rv x.2.2 v := by
  rcases paired_find (p := fun x : DE => decide (x.1 = kk)) (q := fun q : PyData × β => PyData.eqv q.1 kd) dp (fun x q r => (eqv_key r.1 ek).symm) with ⟨h1, h2⟩ | ⟨x, q, h1, h2, r⟩
  · exact .inl ⟨h1, by unfold dget; rw [h2]; rfl⟩
  · exact .inr ⟨x, q.2, h1, by unfold dget; rw [h2]; rfl, r.2.2⟩
theorem dp_has (dp : DP G B H Rv xs kvs) {kk : NestedKey} (ek : keyN kd = some kk) : dhas kvs kd = (xs.find? (fun x => decide (x.1 = kk))).isSome := by
  have := paired_any (p := fun x : DE => decide (x.1 = kk)) (q := fun q : PyData × β => PyData.eqv q.1 kd) dp (fun x q r => (eqv_key r.1 ek).symm)
  unfold dhas
  rw [← this, find_any]
theorem t_find {zs : List (NestedKey × Addr × Value)} (r : Paired TRel xs zs) (kk : NestedKey) : (xs.find? (fun x => decide (x.1 = kk)) = none ∧ atKey zs kk = none) ∨ ∃ x p, xs.find? (fun x => decide (x.1 = kk)) = some x ∧ atKey zs kk = some p ∧ RelV x.2.2 p.2 := by
  rcases paired_find (p := fun x : DE => decide (x.1 = kk)) (q := fun z : NestedKey × Addr × Value => decide (z.1 = kk)) r (fun x z h => by rw [h.1]) with ⟨h1, h2⟩ | ⟨x, z, h1, h2, h⟩
  · exact .inl ⟨h1, by unfold atKey; rw [h2]; rfl⟩
  · exact .inr ⟨x, z.2, h1, by unfold atKey; rw [h2]; rfl, h.2.2⟩
theorem k_find {vs : List (Key × Value)} (r : Paired KRel xs vs) (k : Key) : (xs.find? (fun x => decide (x.1 = nk k)) = none ∧ valueAt vs k = none) ∨ ∃ x w, xs.find? (fun x => decide (x.1 = nk k)) = some x ∧ valueAt vs k = some w ∧ RelV x.2.2 w := by
  rcases paired_find (p := fun x : DE => decide (x.1 = nk k)) (q := fun v : Key × Value => decide (v.1 = k)) r (fun x z h => by rw [h.1, nk_dec]) with ⟨h1, h2⟩ | ⟨x, z, h1, h2, h⟩
  · exact .inl ⟨h1, by unfold valueAt; rw [h2]; rfl⟩
  · exact .inr ⟨x, z.2, h1, by unfold valueAt; rw [h2]; rfl, h.2.2⟩
theorem room8 (hu : A.units + 9 < cLine) : (nestedKind X.prog X.w).room A.in1 := by
  show A.units + 1 + 8 < cLine
  omega
/-- d[k], there -/
theorem z_get {Q : Value → Shared → Prop} {v : β} (hu : A.units + 9 < cLine) (I : Inv X pins σ H s) (hK : X.K = G.K) (hw : X.w = G.w) (hd : Rd H a (DX G.w a xs)) (dp : DP G B H Rv xs kvs) (ok : kOk kvs kd = true) (ry : RelV y u) (rk : Rp G B H y kd) (e : dget kvs kd = some v)
    (h : ∀ w' s' x, Inv X pins σ H s' → RelV x w' → Rv x v → Q w' s') : wpAny (model X.prog X.w) A (getItem (.ref a) u) Q E s := by
  obtain ⟨_, hs, kk, ek, ways⟩ := dk_ways I hK hw hd dp ok ry rk
  rcases dp_find dp ek with ⟨_, h2⟩ | ⟨x, v', h1, h2, h3⟩
  · rw [e] at h2; cases h2
  · rw [e] at h2; cases h2
    cases ways with
    | t e1 e2 hk pr dd =>
      subst e1 e2
      rcases t_find pr kk with ⟨q, _⟩ | ⟨x', p, q1, q2, q3⟩
      · rw [h1] at q; cases q
      · rw [h1] at q1; cases q1
        exact wpAny_getItem_heap (room8 hu) hk dd q2 (h _ _ _ (I.tok _) q3 h3)
    | k e1 e2 hk pr dd =>
      subst e2
      rcases k_find pr _ with ⟨q, _⟩ | ⟨x', p, q1, q2, q3⟩
      · rw [h1] at q; cases q
      · rw [h1] at q1; cases q1
        exact wpAny_getItem_of hk dd.mapOf q2 (h _ _ _ (I.tok _) q3 h3)
/-- k in d -/
theorem z_in {Q : Value → Shared → Prop} (hu : A.units + 9 < cLine) (I : Inv X pins σ H s) (hK : X.K = G.K) (hw : X.w = G.w) (hd : Rd H a (DX G.w a xs)) (dp : DP G B H Rv xs kvs) (ok : kOk kvs kd = true) (ry : RelV y u) (rk : Rp G B H y kd)
    (h : ∀ s', Inv X pins σ H s' → Q (.bool (dhas kvs kd)) s') : wpAny (model X.prog X.w) A (compareOp .In u (.ref a)) Q E s := by
  obtain ⟨_, hs, kk, ek, ways⟩ := dk_ways I hK hw hd dp ok ry rk
  rw [dp_has dp ek] at h
  cases ways with
  | t e1 e2 hk pr dd =>
    subst e1 e2
    refine wpAny_in_heap (room8 hu) hk hs dd ?_
    have q := h _ (I.tok (s.toks + (nestedKind X.prog X.w).draws kk))
    rcases t_find pr kk with ⟨q1, q2⟩ | ⟨x', p, q1, q2, q3⟩ <;> rw [q1] at q <;> rw [q2] <;> exact q
  | k e1 e2 hk pr dd =>
    subst e2
    refine wpAny_in_of hk hs dd.mapOf ?_
    have q := h _ (I.tok (s.toks + 1))
    rcases k_find pr _ with ⟨q1, q2⟩ | ⟨x', p, q1, q2, q3⟩ <;> rw [q1] at q <;> rw [q2] <;> exact q
theorem z_notIn {Q : Value → Shared → Prop} (hu : A.units + 9 < cLine) (I : Inv X pins σ H s) (hK : X.K = G.K) (hw : X.w = G.w) (hd : Rd H a (DX G.w a xs)) (dp : DP G B H Rv xs kvs) (ok : kOk kvs kd = true) (ry : RelV y u) (rk : Rp G B H y kd)
    (h : ∀ s', Inv X pins σ H s' → Q (.bool (!dhas kvs kd)) s') : wpAny (model X.prog X.w) A (compareOp .NotIn u (.ref a)) Q E s := by
  obtain ⟨_, hs, kk, ek, ways⟩ := dk_ways I hK hw hd dp ok ry rk
  rw [dp_has dp ek] at h
  cases ways with
  | t e1 e2 hk pr dd =>
    subst e1 e2
    refine wpAny_notIn_heap (room8 hu) hk hs dd ?_
    have q := h _ (I.tok (s.toks + (nestedKind X.prog X.w).draws kk))
    rcases t_find pr kk with ⟨q1, q2⟩ | ⟨x', p, q1, q2, q3⟩ <;> rw [q1] at q <;> rw [q2] <;> exact q
  | k e1 e2 hk pr dd =>
    subst e2
    refine wpAny_notIn_of hk hs dd.mapOf ?_
    have q := h _ (I.tok (s.toks + 1))
    rcases k_find pr _ with ⟨q1, q2⟩ | ⟨x', p, q1, q2, q3⟩ <;> rw [q1] at q <;> rw [q2] <;> exact q
/-- d.get(k, z) -/
theorem z_getD {Q : Value → Shared → Prop} {z : V} {v0 : β} {r : Value} (hu : A.units + 9 < cLine) (I : Inv X pins σ H s) (hK : X.K = G.K) (hw : X.w = G.w) (hd : Rd H a (DX G.w a xs)) (dp : DP G B H Rv xs kvs) (ok : kOk kvs kd = true) (ry : RelV y u) (rk : Rp G B H y kd) (rz : RelV z r) (rv : Rv z v0)
    (h : ∀ w' s' x, Inv X pins σ H s' → RelV x w' → Rv x ((dget kvs kd).getD v0) → Q w' s') : wpAny (model X.prog X.w) A (call (.builtin "dict.get") [.ref a, u, r]) Q E s := by
  obtain ⟨_, hs, kk, ek, ways⟩ := dk_ways I hK hw hd dp ok ry rk
  cases ways with
  | t e1 e2 hk pr dd =>
    subst e1 e2
    refine call_meetsIn PySem.F.slot_dict_get dd.typeIs PySem.F.entry_dict_get (PySem.F.args_dict_get_3 _ _ _) (meetsH_dict_get_default (nestedKind X.prog X.w) a _ hs r) ⟨room8 hu, kk, _, hk, dd, ?_⟩
    rcases dp_find dp ek with ⟨h1, h2⟩ | ⟨x, v', h1, h2, h3⟩ <;> rcases t_find pr kk with ⟨q1, q2⟩ | ⟨x', p, q1, q2, q3⟩ <;> rw [h1] at q1
    · rw [q2]; exact h _ _ z (I.tok _) rz (by rw [h2]; exact rv)
    · cases q1
    · cases q1
    · cases q1
      rw [q2]; exact h _ _ _ (I.tok _) q3 (by rw [h2]; exact h3)
  | k e1 e2 hk pr dd =>
    subst e2
    refine call_meetsIn PySem.F.slot_dict_get dd.typeIs PySem.F.entry_dict_get (PySem.F.args_dict_get_3 _ _ _) (meets_dict_get_default (mixKind X.prog X.w) a hk hs r) ⟨_, dd.mapOf, ?_⟩
    rcases dp_find dp ek with ⟨h1, h2⟩ | ⟨x, v', h1, h2, h3⟩ <;> rcases k_find pr _ with ⟨q1, q2⟩ | ⟨x', p, q1, q2, q3⟩ <;> rw [h1] at q1
    · rw [q2]; exact h _ _ z (I.tok _) rz (by rw [h2]; exact rv)
    · cases q1
    · cases q1
    · cases q1
      rw [q2]; exact h _ _ _ (I.tok _) q3 (by rw [h2]; exact h3)
/-! ### stores -/
def xput (xs : List DE) (kk : NestedKey) (y v : V) : List DE := if xs.any (fun x => decide (x.1 = kk)) then xs.map (fun x => if decide (x.1 = kk) then (x.1, x.2.1, v) else x) else xs ++ [(kk, y, v)]
theorem xput_len (xs : List DE) (kk : NestedKey) (y v : V) : (xput xs kk y v).length ≤ xs.length + 1 := by
  unfold xput
  split <;> simp
theorem xput_T {zs : List (NestedKey × Addr × Value)} (r : Paired TRel xs zs) (kk : NestedKey) (ad : Addr) {v : V} {w : Value} (rv : RelV v w) : Paired TRel (xput xs kk (.ref ad) v) (storedH zs kk ad w) := by
  have := paired_put (p := fun x : DE => decide (x.1 = kk)) (q := fun z : NestedKey × Addr × Value => decide (z.1 = kk)) (f := fun x => (x.1, x.2.1, v)) (g := fun z => (z.1, z.2.1, w)) (a0 := (kk, V.ref ad, v)) (b0 := (kk, ad, w)) r (fun x z h => by rw [h.1]) (fun x z h _ => ⟨h.1, h.2.1, rv⟩) ⟨rfl, rfl, rv⟩
  unfold xput storedH
  have e : (atKey zs kk).isSome = zs.any fun z => decide (z.1 = kk) := by
    unfold atKey
    rw [Option.isSome_map, find_any]
  rw [e]
  have e2 : (fun z : NestedKey × Addr × Value => if decide (z.1 = kk) = true then (z.1, z.2.1, w) else z) = putAt kk w := by
    funext z
    unfold putAt
    by_cases hz : z.1 = kk <;> simp [hz]
  rw [e2] at this
  exact this
theorem xput_K {vs : List (Key × Value)} (r : Paired KRel xs vs) (k : Key) {v : V} {w : Value} (rv : RelV v w) : Paired KRel (xput xs (nk k) (kV k) v) (stored vs k w) := by
  have := paired_put (p := fun x : DE => decide (x.1 = nk k)) (q := fun z : Key × Value => decide (z.1 = k)) (f := fun x => (x.1, x.2.1, v)) (g := fun z => (z.1, w)) (a0 := (nk k, kV k, v)) (b0 := (k, w)) r (fun x z h => by rw [h.1, nk_dec]) (fun x z h _ => ⟨h.1, h.2.1, rv⟩) ⟨rfl, rfl, rv⟩
  unfold xput stored
  have e2 : (fun z : Key × Value => if decide (z.1 = k) = true then (z.1, w) else z) = fun kv => if kv.1 = k then (kv.1, w) else kv := by
    funext z
    by_cases hz : z.1 = k <;> simp [hz]
  rw [e2] at this
  exact this
theorem dp_put {A' : Addr → Prop} {H' : Hp} {Rv' : V → β → Prop} (dp : DP G B H Rv xs kvs) {kk : NestedKey} (ek : keyN kd = some kk) {v : V} {w : β} (kr : ∀ {x d}, Rp G B H x d → Rp G A' H' x d) (kv : ∀ {x z}, Rv x z → Rv' x z) (rk : Rp G A' H' y kd) (rv : Rv' v w) : DP G A' H' Rv' (xput xs kk y v) (dput kvs kd w) := by
  have d2 : DP G A' H' Rv' xs kvs := Paired.mapP dp fun _ _ z => ⟨z.1, kr z.2.1, kv z.2.2⟩
  exact paired_put (p := fun x : DE => decide (x.1 = kk)) (q := fun q : PyData × β => PyData.eqv q.1 kd) (f := fun x => (x.1, x.2.1, v)) (g := fun q => (q.1, w)) (a0 := (kk, y, v)) (b0 := (kd, w)) d2 (fun x q r => (eqv_key r.1 ek).symm) (fun x q r _ => ⟨r.1, r.2.1, rv⟩) ⟨ek, rk, rv⟩
theorem dx_write {xs' : List DE} {h' : Heap} {t' : Nat} (I : Inv X pins σ H s) (hw : X.w = G.w) (hd : H a = some (DX G.w a xs)) (hs : Heap.SameBut a s.heap h') (new : dxP X.w a xs' h') : Inv X pins σ (upd H a (DX G.w a xs')) { s with heap := h', toks := t' } := by
  have he : ∃ q, h'.get? a = some q := let ⟨_, _, _, _, _, q, _, _, hq, _⟩ := new; ⟨q, hq⟩
  rw [← hw]
  exact d_write I (by rw [hd]; exact True.intro) hs he ⟨new, he, fun h1 h2 ⟨a1, a2, a3, ys, a4, o, es, ep, a5, a6⟩ k => ⟨a1, a2, a3, ys, a4, o, es, ep, k o a5, a6⟩⟩
/-- d[k] = v -/
theorem z_set {Q : Unit → Shared → Prop} {v : V} {r : Value} (hu : A.units + 9 < cLine) (I : Inv X pins σ H s) (hK : X.K = G.K) (hw : X.w = G.w) (hd : H a = some (DX G.w a xs)) (dp : DP G B H Rv xs kvs) (ok : kOk kvs kd = true) (hl : kvs.length < sizeLine) (ry : RelV y u) (rk : Rp G B H y kd) (rv : RelV v r)
    (h : ∀ kk s', keyN kd = some kk → Inv X pins σ (upd H a (DX G.w a (xput xs kk y v))) s' → Q () s') : wpAny (model X.prog X.w) A (setItem (.ref a) u r) Q E s := by
  obtain ⟨hz, hs, kk, ek, ways⟩ := dk_ways I hK hw (.inl hd) dp ok ry rk
  have hlx : xs.length < sizeLine := by rw [Paired.length dp]; exact hl
  have hlp := xput_len xs kk y v
  cases ways with
  | t e1 e2 hk pr dd =>
    subst e1 e2
    refine wpAny_setItem_heap (hsz := by rw [← Paired.length pr]; exact hz) (room8 hu) hk dd fun h' dd' hsb => h kk _ ek ?_
    exact dx_write I hw hd hsb (dx_ofT (P := X.prog) (xput_T pr kk _ rv) (by omega) hs dd')
  | k e1 e2 hk pr dd =>
    subst e1 e2
    refine wpAny_setItem_pairs (hsz := by rw [← Paired.length pr]; exact hz) hk dd fun h' dd' hsb => h _ _ ek ?_
    exact dx_write I hw hd hsb (dx_ofK (P := X.prog) (xput_K pr _ rv) (by omega) hs dd')
end
end L2

set_option Elab.async false
set_option linter.all false
set_option autoImplicit false
set_option maxRecDepth 100000
set_option maxHeartbeats 4000000
/-! Z3: comparisons, places, slices, built-ins by their meaning. -/
namespace L2
open PySem PySem.Spec PyProof.Rows Z
section
variable {G : Gx} {A : Addr → Prop} {ρ : List Addr} {h : MH} {H : Hp}
theorem RepVs.dats {xs : List V} {ds : List PyData} : RepVs G A ρ H xs (ds.map Val.d) → RpAll G (Av A ρ) H xs ds := by
  induction ds generalizing xs with
  | nil => intro r; cases r; exact .nil
  | cons d ds ih =>
    intro r
    rw [List.map_cons] at r
    cases r with
    | cons r t => cases r with
      | d r => exact .cons r (ih t)
theorem Dp.ofTuple {X : Cx} {pins : List (Addr × Obj)} {σ : St} {s : Shared} (I : Inv X pins σ H s) {d : PyData} {v : V} {u : Value} (r : Dp X.K H v d) (q : RelV v u) : ∃ as, Reads s.heap u d as := Dp.reads I d v u r q
end
section
variable {X : Cx}
def rInT (K : PySem.W.Frag) (neg : Bool) : R2 := fun x y H Q => ∃ d ds, Dp K H x d ∧ Dp K H y (.tuple ds) ∧ SeqAt.shaped d = true ∧ SeqAt.shaped (.tuple ds) = true ∧ Q (.bl (if neg then !inD d ds else inD d ds)) H
theorem op_inT (hu : X.A.units + 65 < cLine) : OpR X (compareOp .In) (rInT X.K false) := by
  intro pins s σ H x y v u Q I rx ry ⟨d, ds, hd, he, sd, se, q⟩
  have ⟨as, r1⟩ := Dp.reads I d x v hd rx
  have ⟨bs, r2⟩ := Dp.reads I (.tuple ds) y u he ry
  have hl := SeqAt.canLay_of_shaped se
  exact SeqAt.in_tuple_reads r2 r1 (by simpa [PyData.canLay0] using hl) (SeqAt.canLay_of_shaped sd) (room_in_shaped sd hu) ⟨.bl _, H, I, rfl, q⟩
theorem op_notInT (hu : X.A.units + 65 < cLine) : OpR X (compareOp .NotIn) (rInT X.K true) := by
  intro pins s σ H x y v u Q I rx ry ⟨d, ds, hd, he, sd, se, q⟩
  have ⟨as, r1⟩ := Dp.reads I d x v hd rx
  have ⟨bs, r2⟩ := Dp.reads I (.tuple ds) y u he ry
  have hl := SeqAt.canLay_of_shaped se
  exact SeqAt.notIn_tuple_reads r2 r1 (by simpa [PyData.canLay0] using hl) (SeqAt.canLay_of_shaped sd) (room_in_shaped sd hu) ⟨.bl _, H, I, rfl, q⟩
end
theorem dpAll_ints (K : PySem.W.Frag) (H : Hp) : ∀ ns : List Int, DpAll K H (ns.map V.int) (ns.map PyData.int)
  | [] => .nil
  | n :: ns => .cons (.int n) (dpAll_ints K H ns)
theorem eqv_nil (ns : List Int) : PyData.eqv (.list (ns.map PyData.int)) (.list []) = ns.isEmpty := by
  cases ns <;> simp [PyData.eqv, PyData.eqvAll]
theorem cmp_dp {X : Cx} (hu : X.A.units + 65 < cLine) (o : Cop) (ho : eqO o = true) {pins : List (Addr × Obj)} {s : Shared} {σ : St} {H : Hp} {x y : V} {v u : Value} {Q : VK} (I : Inv X pins σ H s) (rx : RelV x v) (ry : RelV y u)
    {a b : PyData} {k : Bool} (ra : sh a = true → Dp X.K H x a) (rb : sh b = true → Dp X.K H y b) (e : cmpD o a b = some k) (q : Q (.bl k) H) : wpAny (model X.prog X.w) X.A (compareOp (copOf o) v u) (EP X pins σ Q) X.xe s := by
  have hu64 : X.A.units + 64 < cLine := by omega
  cases o <;> first | (simp [eqO] at ho; done) | skip
  · simp only [cmpD] at e
    split at e
    · rename_i hz; cases e
      simp only [Bool.and_eq_true] at hz
      exact op_eqD hu64 pins s σ H x y v u Q I rx ry ⟨a, b, ra hz.1, rb hz.2, hz.1, hz.2, q⟩
    · cases e
  · simp only [cmpD] at e
    split at e
    · rename_i hz; cases e
      simp only [Bool.and_eq_true] at hz
      exact op_neD hu64 pins s σ H x y v u Q I rx ry ⟨a, b, ra hz.1, rb hz.2, hz.1, hz.2, q⟩
    · cases e
theorem cmp_data {X : Cx} {G : Gx} (hK : X.K = G.K) (hw : X.w = G.w) (hu : X.A.units + 65 < cLine) (o : Cop) {pins : List (Addr × Obj)} {s : Shared} {σ : St} {H : Hp} {x y : V} {v u : Value} {Q : VK} (I : Inv X pins σ H s) (rx : RelV x v) (ry : RelV y u)
    {B : Addr → Prop} {a b : PyData} {k : Bool} (ra : RpT G B H x a) (rb : RpT G B H y b) (e : cmpD o a b = some k) (q : Q (.bl k) H) : wpAny (model X.prog X.w) X.A (compareOp (copOf o) v u) (EP X pins σ Q) X.xe s := by
  have hu64 : X.A.units + 64 < cLine := by omega
  have ldK : ∀ kvs, kOk (α := PyData) kvs a = true → ldB a = false := fun kvs h => by
    obtain ⟨b, hb, _⟩ := kOk_kind h
    cases a <;> first | rfl | (simp [kindK] at hb)
  cases o with
  | eq => exact cmp_dp hu .eq rfl I rx ry (fun h => hK ▸ ra.dp h) (fun h => hK ▸ rb.dp h) e q
  | ne => exact cmp_dp hu .ne rfl I rx ry (fun h => hK ▸ ra.dp h) (fun h => hK ▸ rb.dp h) e q
  | lt =>
    cases a <;> cases b <;> first | (simp [cmpD] at e; done) | skip
    have e1 := ra.int; have e2 := rb.int; subst e1 e2
    simp only [cmpD, Option.some.injEq] at e; subst e
    exact op_lt pins s σ H _ _ v u Q I rx ry ⟨_, _, rfl, rfl, q⟩
  | le =>
    cases a <;> cases b <;> first | (simp [cmpD] at e; done) | skip
    have e1 := ra.int; have e2 := rb.int; subst e1 e2
    simp only [cmpD, Option.some.injEq] at e; subst e
    exact op_le pins s σ H _ _ v u Q I rx ry ⟨_, _, rfl, rfl, q⟩
  | gt =>
    cases a <;> cases b <;> first | (simp [cmpD] at e; done) | skip
    have e1 := ra.int; have e2 := rb.int; subst e1 e2
    simp only [cmpD, Option.some.injEq] at e; subst e
    exact op_gt pins s σ H _ _ v u Q I rx ry ⟨_, _, rfl, rfl, q⟩
  | ge =>
    cases a <;> cases b <;> first | (simp [cmpD] at e; done) | skip
    have e1 := ra.int; have e2 := rb.int; subst e1 e2
    simp only [cmpD, Option.some.injEq] at e; subst e
    exact op_ge pins s σ H _ _ v u Q I rx ry ⟨_, _, rfl, rfl, q⟩
  | isin =>
    cases b <;> first | (simp [cmpD] at e; done) | skip
    · simp only [cmpD] at e
      split at e
      · rename_i hz; cases e
        simp only [sh, Bool.and_eq_true] at hz
        exact op_inD hu pins s σ H x y v u Q I rx ry ⟨a, _, hK ▸ ra.dp hz.1, hK ▸ rb.dp hz.2, hz.1, hz.2, q⟩
      · cases e
    · simp only [cmpD] at e
      split at e
      · rename_i hz; cases e
        simp only [sh, Bool.and_eq_true] at hz
        exact op_inT hu pins s σ H x y v u Q I rx ry ⟨a, _, hK ▸ ra.dp hz.1, hK ▸ rb.dp hz.2, hz.1, hz.2, q⟩
      · cases e
    · simp only [cmpD] at e
      split at e
      · rename_i hz; cases e
        obtain ⟨p, xs, ey, hd, rd⟩ := rb.dict
        subst ey
        cases (show u = Value.ref p from ry)
        exact z_in (by omega) I hK hw hd rd.dp hz rx (ra.rp (ldK _ hz)) fun s' I' => ⟨.bl _, H, I', rfl, q⟩
      · cases e
  | notin =>
    cases b <;> first | (simp [cmpD] at e; done) | skip
    · simp only [cmpD] at e
      split at e
      · rename_i hz; cases e
        simp only [sh, Bool.and_eq_true] at hz
        exact op_notInD hu pins s σ H x y v u Q I rx ry ⟨a, _, hK ▸ ra.dp hz.1, hK ▸ rb.dp hz.2, hz.1, hz.2, q⟩
      · cases e
    · simp only [cmpD] at e
      split at e
      · rename_i hz; cases e
        simp only [sh, Bool.and_eq_true] at hz
        exact op_notInT hu pins s σ H x y v u Q I rx ry ⟨a, _, hK ▸ ra.dp hz.1, hK ▸ rb.dp hz.2, hz.1, hz.2, q⟩
      · cases e
    · simp only [cmpD] at e
      split at e
      · rename_i hz; cases e
        obtain ⟨p, xs, ey, hd, rd⟩ := rb.dict
        subst ey
        cases (show u = Value.ref p from ry)
        exact z_notIn (by omega) I hK hw hd rd.dp hz rx (ra.rp (ldK _ hz)) fun s' I' => ⟨.bl _, H, I', rfl, q⟩
      · cases e
  | is_ =>
    cases b <;> cases a <;> first | (simp [cmpD] at e; done) | skip
    case bool.bool =>
      have e1 := ra.bl; have e2 := rb.bl; subst e1 e2
      simp only [cmpD, Option.some.injEq] at e; subst e
      exact op_isBl pins s σ H _ _ v u Q I rx ry ⟨_, _, rfl, rfl, q⟩
    case none.none =>
      have e1 := ra.non; have e2 := rb.non; subst e1 e2
      simp only [cmpD, Option.some.injEq] at e; subst e
      exact op_isN pins s σ H _ _ v u Q I rx ry ⟨rfl, by simpa using q⟩
    all_goals
      have e2 := rb.non; subst e2
      simp only [cmpD, Option.some.injEq] at e; subst e
      refine op_isN pins s σ H _ _ v u Q I rx ry ⟨rfl, ?_⟩
      have hx : x ≠ V.non := by
        first
          | (have e1 := ra.bl; subst e1; simp; done)
          | (have e1 := ra.int; subst e1; simp; done)
          | (have e1 := ra.str; subst e1; simp; done)
          | (obtain ⟨p, xs, e1, _⟩ := ra.list; subst e1; simp; done)
          | (obtain ⟨p, xs, e1, _⟩ := ra.tuple; subst e1; simp; done)
          | (obtain ⟨p, xs, e1, _⟩ := ra.dict; subst e1; simp; done)
      rw [decide_eq_false hx]; exact q
  | isnot =>
    cases b <;> cases a <;> first | (simp [cmpD] at e; done) | skip
    case bool.bool =>
      have e1 := ra.bl; have e2 := rb.bl; subst e1 e2
      simp only [cmpD, Option.some.injEq] at e; subst e
      exact op_notBl pins s σ H _ _ v u Q I rx ry ⟨_, _, rfl, rfl, q⟩
    case none.none =>
      have e1 := ra.non; have e2 := rb.non; subst e1 e2
      simp only [cmpD, Option.some.injEq] at e; subst e
      exact op_notN pins s σ H _ _ v u Q I rx ry ⟨rfl, by simpa using q⟩
    all_goals
      have e2 := rb.non; subst e2
      simp only [cmpD, Option.some.injEq] at e; subst e
      refine op_notN pins s σ H _ _ v u Q I rx ry ⟨rfl, ?_⟩
      have hx : x ≠ V.non := by
        first
          | (have e1 := ra.bl; subst e1; simp; done)
          | (have e1 := ra.int; subst e1; simp; done)
          | (have e1 := ra.str; subst e1; simp; done)
          | (obtain ⟨p, xs, e1, _⟩ := ra.list; subst e1; simp; done)
          | (obtain ⟨p, xs, e1, _⟩ := ra.tuple; subst e1; simp; done)
          | (obtain ⟨p, xs, e1, _⟩ := ra.dict; subst e1; simp; done)
      rw [decide_eq_false hx]; exact q
theorem noneD_eq {w : Val} (h : noneD w = true) : w = .d .none := by
  unfold noneD at h
  split at h
  · rfl
  · cases h
theorem cmpV0_data {h : MH} {o : Cop} {v w : Val} {b : Bool} (e : cmpV0 h o v w = some b) (n1 : ∀ ns, v ≠ .scr ns) (n2 : noneD w = true → ∀ n, v ≠ .ref n) (n3 : noneD w = true → ∀ c, v ≠ .exc c) (n4 : ∀ kvs, v ≠ .dic kvs) :
    (if eqO o then (asX h v).bind fun x => (asX h w).bind fun y => cmpD o x y else (asD h v).bind fun x => (asD h w).bind fun y => cmpD o x y) = some b := by
  have key : ∀ {v : Val}, (∀ ns, v ≠ .scr ns) → (noneD w = true → ∀ n, v ≠ .ref n) → (noneD w = true → ∀ c, v ≠ .exc c) → cmpV0 h o v w = (if eqO o then (asX h v).bind fun x => (asX h w).bind fun y => cmpD o x y else (asD h v).bind fun x => (asD h w).bind fun y => cmpD o x y) := fun {v} n1 n2 n3 => by
    cases v with
    | d x => cases o <;> (unfold cmpV0; first | rfl | (cases noneD w <;> rfl))
    | dic x => cases o <;> (unfold cmpV0; first | rfl | (cases noneD w <;> rfl))
    | ref n =>
      have hn : noneD w = false := by
        cases hq : noneD w with
        | false => rfl
        | true => exact absurd rfl (n2 hq n)
      cases o <;> (unfold cmpV0; rw [hn])
    | exc c =>
      have hn : noneD w = false := by
        cases hq : noneD w with
        | false => rfl
        | true => exact absurd rfl (n3 hq c)
      cases o <;> (unfold cmpV0; rw [hn])
    | scr ns => exact absurd rfl (n1 ns)
  rw [← key n1 n2 n3]; exact e
theorem op_cmp {X : Cx} {G : Gx} (hK : X.K = G.K) (hw : X.w = G.w) (hu : X.A.units + 65 < cLine) (o : Cop) : OpR X (compareOp (copOf o)) (rCmp G o) := by
  intro pins s σ H x y v u Q I rx ry hh
  obtain ⟨A, ρ, h, a, b, k, S, ra, rb, e, q⟩ := hh
  have data : (if eqO o then (asX h a).bind fun x => (asX h b).bind fun y => cmpD o x y else (asD h a).bind fun x => (asD h b).bind fun y => cmpD o x y) = some k → wpAny (model X.prog X.w) X.A (compareOp (copOf o) v u) (EP X pins σ Q) X.xe s := fun e => by
    split at e
    · rename_i ho
      rw [Option.bind_eq_some_iff] at e
      obtain ⟨d1, e1, e⟩ := e
      rw [Option.bind_eq_some_iff] at e
      obtain ⟨d2, e2, e⟩ := e
      exact cmp_dp hu o ho I rx ry (fun hs => hK ▸ asX_dp S ra e1 hs) (fun hs => hK ▸ asX_dp S rb e2 hs) e q
    · rw [Option.bind_eq_some_iff] at e
      obtain ⟨d1, e1, e⟩ := e
      rw [Option.bind_eq_some_iff] at e
      obtain ⟨d2, e2, e⟩ := e
      exact cmp_data hK hw hu o I rx ry (asD_rep S ra e1) (asD_rep S rb e2) e q
  have isn : ∀ {p : Addr}, x = .ref p → b = .d .none → (o = .is_ ∧ k = false) ∨ (o = .isnot ∧ k = true) → wpAny (model X.prog X.w) X.A (compareOp (copOf o) v u) (EP X pins σ Q) X.xe s := fun {p} ex eb h2 => by
    subst ex eb
    cases rb with
    | d rb =>
      have e2 := rb.scal_non; subst e2
      rcases h2 with ⟨rfl, rfl⟩ | ⟨rfl, rfl⟩
      · exact op_isN pins s σ H _ _ v u Q I rx ry ⟨rfl, by simpa using q⟩
      · exact op_notN pins s σ H _ _ v u Q I rx ry ⟨rfl, by simpa using q⟩
  have gen : cmpV0 h o a b = some k → wpAny (model X.prog X.w) X.A (compareOp (copOf o) v u) (EP X pins σ Q) X.xe s := fun e => by
    cases ra with
    | d r => exact data (cmpV0_data e (by simp) (by simp) (by simp) (by simp))
    | @ref n p r =>
      cases hn : noneD b with
      | true =>
        have hb := noneD_eq hn; subst hb
        cases o with
        | is_ => simp only [cmpV0, hn, Option.some.injEq] at e; exact isn rfl rfl (.inl ⟨rfl, e.symm⟩)
        | isnot => simp only [cmpV0, hn, Option.some.injEq] at e; exact isn rfl rfl (.inr ⟨rfl, e.symm⟩)
        | _ => exact data (by unfold cmpV0 at e; simpa using e)
      | false => exact data (cmpV0_data e (by simp) (by simp [hn]) (by simp) (by simp))
    | @exc p c r _ =>
      cases hn : noneD b with
      | true =>
        have hb := noneD_eq hn; subst hb
        cases o with
        | is_ => simp only [cmpV0, hn, Option.some.injEq] at e; exact isn rfl rfl (.inl ⟨rfl, e.symm⟩)
        | isnot => simp only [cmpV0, hn, Option.some.injEq] at e; exact isn rfl rfl (.inr ⟨rfl, e.symm⟩)
        | _ => exact data (by unfold cmpV0 at e; simpa using e)
      | false => exact data (cmpV0_data e (by simp) (by simp) (by simp [hn]) (by simp))
    | dic _ _ _ _ => cases o <;> (unfold cmpV0 at e; simp [asD, asX, frz, eqO] at e)
    | @scr p ns r =>
      cases o with
      | ne =>
        unfold cmpV0 at e
        simp only at e
        split at e
        · cases e
          rename_i hb
          cases rb with
          | d rb =>
            refine op_neD (by omega) pins s σ H _ y v u Q I rx ry ⟨.list (ns.map PyData.int), .list [], ?_, hK ▸ rb.dp (by decide), W.ke_shaped_ints ns, by decide, ?_⟩
            · exact .lst (hK ▸ r.sq) (dpAll_ints _ _ ns)
            · rw [eqv_nil]; exact q
        · cases e
      | _ => unfold cmpV0 at e; simp [asD, asX, frz, eqO] at e
  unfold cmpV at e
  split at e
  · rename_i kvs hd
    rw [Option.bind_eq_some_iff] at e
    obtain ⟨kd, e1, e2⟩ := e
    split at e2
    · rename_i hz; cases e2
      cases rb with
      | @ref n p r =>
        simp only [dicR] at hd
        split at hd
        · rename_i lk kvs' hc
          cases hd
          cases S.cell _ _ _ hc r with
          | dict ql rv =>
            cases (show u = Value.ref p from ry)
            refine z_in (Rv := RepV G A ρ H) (by omega) I hK hw ql.rd rv hz rx ((asD_rep S ra e1).rp ?_) fun s' I' => ⟨.bl _, H, I', rfl, q⟩
            obtain ⟨b, hb, _⟩ := kOk_kind hz
            cases kd <;> first | rfl | (simp [kindK] at hb)
        · cases hd
      | d _ => simp [dicR] at hd
      | exc _ _ => simp [dicR] at hd
      | scr _ => simp [dicR] at hd
      | dic _ _ _ _ => simp [dicR] at hd
    · cases e2
  · rename_i kvs hd
    rw [Option.bind_eq_some_iff] at e
    obtain ⟨kd, e1, e2⟩ := e
    split at e2
    · rename_i hz; cases e2
      cases rb with
      | @ref n p r =>
        simp only [dicR] at hd
        split at hd
        · rename_i lk kvs' hc
          cases hd
          cases S.cell _ _ _ hc r with
          | dict ql rv =>
            cases (show u = Value.ref p from ry)
            refine z_notIn (Rv := RepV G A ρ H) (by omega) I hK hw ql.rd rv hz rx ((asD_rep S ra e1).rp ?_) fun s' I' => ⟨.bl _, H, I', rfl, q⟩
            obtain ⟨b, hb, _⟩ := kOk_kind hz
            cases kd <;> first | rfl | (simp [kindK] at hb)
        · cases hd
      | d _ => simp [dicR] at hd
      | exc _ _ => simp [dicR] at hd
      | scr _ => simp [dicR] at hd
      | dic _ _ _ _ => simp [dicR] at hd
    · cases e2
  · exact gen e
end L2

set_option Elab.async false
set_option linter.all false
set_option autoImplicit false
set_option maxRecDepth 100000
set_option maxHeartbeats 4000000
/-! Z3b: a dict's length, its keys; sorting. -/
namespace L2
open PySem PySem.Spec PyProof.Rows Z
section
variable {X : Cx} {G : Gx} {pins : List (Addr × Obj)} {σ : St} {H : Hp} {s : Shared} {a : Addr} {xs : List DE} {w : World} {A : Around} {E : Value → Shared → Prop}
theorem drel_get {xs : List DE} {ys : List (NestedKey × Value × Value)} (r : Paired DRel xs ys) : ∀ {i : Nat} {y}, ys[i]? = some y → ∃ x, xs[i]? = some x ∧ DRel x y := by
  induction r with
  | nil => intro i y e; simp at e
  | cons r t ih =>
    intro i y e
    cases i with
    | zero => simp at e; subst e; exact ⟨_, rfl, r⟩
    | succ i =>
      obtain ⟨x, h1, h2⟩ := ih (i := i) (y := y) (by simpa using e)
      exact ⟨x, by simpa using h1, h2⟩
/-- the dict's entries as they lie -/
theorem dx_raw (I : Inv X pins σ H s) (hd : Rd H a (DX w a xs)) : (a == sysModules) = false ∧ xs.length ≤ sizeLine ∧ ∃ es ep, s.heap.DictRaw a es ep ∧ es.size = xs.length ∧ ∀ (i : Nat) (en : DictEntry), es[i]? = some en → ∃ x, xs[i]? = some x ∧ RelV x.2.1 en.key ∧ RelV x.2.2 en.val := by
  obtain ⟨⟨hz, hs, _, ys, pr, o, es, ep, ho, hx, hdt, he⟩, _⟩ := hd.ok I.hok
  refine ⟨hs, hz, es, ep, ⟨o, ho, hx, hdt⟩, ?_, fun i en hen => ?_⟩
  · rw [← Array.length_toList, he, List.length_map, Paired.length pr]
  · rw [← Array.getElem?_toList, he, List.getElem?_map, Option.map_eq_some_iff] at hen
    obtain ⟨y, hy, ey⟩ := hen
    obtain ⟨x, h1, h2⟩ := drel_get pr hy
    subst ey
    exact ⟨x, h1, h2.2.1, h2.2.2⟩
theorem z_len (I : Inv X pins σ H s) (hd : Rd H a (DX w a xs)) {Q : Value → Shared → Prop} (h : ∀ t s', Inv X pins σ H s' → Q (.int xs.length t) s') : wpAny (model X.prog X.w) A (call (.builtin "len") [.ref a]) Q E s := by
  obtain ⟨hs, hz, es, ep, hr, hsz, _⟩ := dx_raw I hd
  rw [sizeLine_eq] at hz
  refine PyProof.Rows.call_len_slot (n := (xs.length : Int)) (dx_typeIs' I hd) PySem.F.slot_dict_len (fun Q' hq => call_len_raw hs hr (by rw [hsz]; exact hq)) (by omega) (by omega) (h _ _ (I.tok _))
where
  dx_typeIs' (I : Inv X pins σ H s) (hd : Rd H a (DX w a xs)) : s.TypeIs (.ref a) "dict" := by
    obtain ⟨⟨_, _, _, ys, _, o, es, ep, ho, hx, _⟩, _⟩ := hd.ok I.hok
    exact ⟨o, ho, hx.1⟩
theorem vals_by {xs : List V} {us : List Value} (hl : us.length = xs.length) (h : ∀ (i : Nat) (u : Value), us[i]? = some u → ∃ x, xs[i]? = some x ∧ RelV x u) : Vals xs us := by
  induction xs generalizing us with
  | nil => cases us with
    | nil => exact .nil
    | cons _ _ => simp at hl
  | cons x xs ih =>
    cases us with
    | nil => simp at hl
    | cons u us =>
      obtain ⟨x', e1, e2⟩ := h 0 u rfl
      simp at e1
      subst e1
      exact .cons e2 (ih (by simpa using hl) fun i u e => by
        obtain ⟨x', e1, e2⟩ := h (i + 1) u (by simpa using e)
        exact ⟨x', by simpa using e1, e2⟩)
/-- what list(d), collect of d give -/
theorem keys_vals {es : Array DictEntry} {acc : Array Value} (hsz : es.size = xs.length) (hen : ∀ (i : Nat) (en : DictEntry), es[i]? = some en → ∃ x, xs[i]? = some x ∧ RelV x.2.1 en.key ∧ RelV x.2.2 en.val)
    (it : ItemsOf (fun i v => ∃ hi : i < es.size, v = es[i].key) acc es.size) : Vals (xs.map (·.2.1)) acc.toList := by
  refine vals_by (by rw [Array.length_toList, it.1, hsz, List.length_map]) fun i u e => ?_
  obtain ⟨hi, hv⟩ := it.2 i u (by rw [← Array.getElem?_toList]; exact e)
  obtain ⟨x, h1, h2, _⟩ := hen i es[i] (by simp [hi])
  exact ⟨x.2.1, by rw [List.getElem?_map, h1]; rfl, by rw [hv]; exact h2⟩
theorem vals_vals {es : Array DictEntry} {acc : Array Value} (hsz : es.size = xs.length) (hen : ∀ (i : Nat) (en : DictEntry), es[i]? = some en → ∃ x, xs[i]? = some x ∧ RelV x.2.1 en.key ∧ RelV x.2.2 en.val)
    (it : ItemsOf (fun i v => ∃ hi : i < es.size, v = es[i].val) acc es.size) : Vals (xs.map (·.2.2)) acc.toList := by
  refine vals_by (by rw [Array.length_toList, it.1, hsz, List.length_map]) fun i u e => ?_
  obtain ⟨hi, hv⟩ := it.2 i u (by rw [← Array.getElem?_toList]; exact e)
  obtain ⟨x, h1, _, h2⟩ := hen i es[i] (by simp [hi])
  exact ⟨x.2.2, by rw [List.getElem?_map, h1]; rfl, by rw [hv]; exact h2⟩
/-- list(d) -/
theorem z_list (hc : X.calm = true) : CallR X (.type "list") (fun vs H Q => ∃ (a : Addr) (w : World) (xs : List DE), vs = [.ref a] ∧ Rd H a (DX w a xs) ∧ ∀ p, H p = none → Q (.ref p) (upd H p (.lst (xs.map (·.2.1))))) := by
  intro pins s σ H vs us Q I r h
  obtain ⟨a, w, xs, rfl, hd, q⟩ := h
  obtain ⟨u, rfl, rx⟩ := vals1 r
  cases rx
  obtain ⟨hs, hz, es, ep, hr, hsz, hen⟩ := dx_raw I hd
  refine PySem.W.kdl_call (PySem.KdlSrc.rawDict (es := es) (ep := ep) hs) (I.ok.hd hc) hr (by rw [hsz]; exact hz) fun h' tk acc' c' hk hS hacc => ?_
  have hv := keys_vals hsz hen hacc
  exact ⟨.ref s.heap.objs.size, upd H s.heap.objs.size (.lst (xs.map (·.2.1))), I.laid (t' := tk) hk (Nat.le_refl _)
    (show ObjOk X.prog X.w _ _ _ (.lst (xs.map (·.2.1))) from ⟨by rw [List.length_map]; exact hz, acc'.toList, c', hv, by rw [Array.toArray_toList]; exact hS⟩), rfl, q _ (I.hok.fresh (Nat.le_refl _))⟩
/-! ### sorted -/
theorem srtOk_parts {ds : List PyData} (h : srtOk ds = true) : PySem.W.AllAlike ds ∧ PySem.W.Sortable ds ∧ (∀ d ∈ ds, sh d = true) ∧ ds.length ≤ sizeLine := by
  simp only [srtOk, Bool.and_eq_true, Bool.or_eq_true, List.all_eq_true] at h
  obtain ⟨⟨⟨h1, h2⟩, h3⟩, h4⟩ := h
  refine ⟨fun d hd d' hd' => h1 d hd d' hd', ?_, h3, by simpa [lOk] using h4⟩
  rcases h2 with h2 | h2
  · refine .inl fun d hd => ?_
    have := h2 d hd
    split at this
    · exact ⟨_, _, rfl⟩
    · cases this
  · refine .inr fun d hd => ?_
    have := h2 d hd
    split at this
    · cases this
    · cases this
    · rename_i n1 n2
      exact ⟨fun e => n1 e, fun xs e => n2 xs e⟩
/-- the items of what is sorted stand for data -/
def SR (G : Gx) (B : Addr → Prop) (H : Hp) (v : Value) (d : PyData) : Prop := ∃ y, RelV y v ∧ Rp G B H y d
theorem sr_each {B : Addr → Prop} {ys : List V} {ds : List PyData} {vs : List Value} (r : RpAll G B H ys ds) (q : Vals ys vs) : PySem.W.EachIs (SR G B H) vs ds := by
  induction ds generalizing ys vs with
  | nil => cases r; cases q; exact .nil
  | cons d ds ih =>
    cases r with
    | cons r t => cases q with
      | cons q u => exact .cons ⟨_, q, r⟩ (ih t u)
theorem sr_back {B : Addr → Prop} {ds : List PyData} {vs : List Value} (e : PySem.W.EachIs (SR G B H) vs ds) : ∃ ys, RpAll G B H ys ds ∧ Vals ys vs := by
  induction e with
  | nil => exact ⟨[], .nil, .nil⟩
  | cons h t ih =>
    obtain ⟨ys, h1, h2⟩ := ih
    obtain ⟨y, h3, h4⟩ := h
    exact ⟨y :: ys, .cons h4 h1, .cons h3 h2⟩
theorem each_mem' {α β : Type} {R R' : α → β → Prop} : ∀ {as : List α} {bs : List β}, PySem.W.EachIs R as bs → (∀ a b, b ∈ bs → R a b → R' a b) → PySem.W.EachIs R' as bs
  | _, _, .nil, _ => .nil
  | _, _, .cons h t, k => .cons (k _ _ List.mem_cons_self h) (each_mem' t fun a b hb => k a b (List.mem_cons_of_mem _ hb))
theorem srt_length (ds : List PyData) : (srt ds).length = ds.length := List.length_mergeSort ds
/-- sorted(u), where u's items have been collected -/
theorem z_sorted {B : Addr → Prop} {ys : List V} {ds : List PyData} {u : Value} {Q : VK} (hK : X.K = G.K) (hu : X.A.units + 67 < cLine) (I : Inv X pins σ H s) (r : RpAll G B H ys ds) (ok : srtOk ds = true)
    (hcol : ∀ (R : List Value → Shared → Prop), (∀ h' tk vs, (∀ b o, s.heap.get? b = some o → h'.get? b = some o) → Vals ys vs → R vs { s with heap := h', toks := tk }) → wpAny (model X.prog X.w) X.A.in1 (collect u) R X.xe s)
    (q : ∀ p zs, H p = none → RpAll G B H zs (srt ds) → Q (.ref p) (upd H p (.lst zs))) : wpAny (model X.prog X.w) X.A (call (.builtin "sorted") [u]) (EP X pins σ Q) X.xe s := by
  obtain ⟨hal, hst, hsh, hL⟩ := srtOk_parts ok
  refine Calls.call_function_entry PyProof.Rows.kind_sorted PyProof.Rows.plain_sorted PyProof.Rows.entry_sorted (PyProof.Rows.args_sorted1 _) ?_
  unfold Builtin.«sorted»
  refine wpAny_bind (m := checkCount "sorted" 1 1 _) (wpAny_pure ?_)
  refine wpAny_bind (hcol _ fun h' tk vs hk hv => ?_)
  have I1 : Inv X pins σ H { s with heap := h', toks := tk } := I.kept hk
  have hvl : vs.length = ds.length := by rw [← Vals.length hv, r.length]
  refine wpAny_bind (wpAny_newList ?_ (by rw [hvl]; exact hL))
  have hoL : (h'.push (seqObj "list" vs.toArray 0)).get? h'.objs.size = some (seqObj "list" vs.toArray 0) := Heap.get?_push_size _ rfl
  show wpAny _ _ _ _ _ { s with heap := h'.push (seqObj "list" vs.toArray 0), toks := tk }
  have es := sr_each r hv
  have rd : PySem.W.EachIs (fun v d => ∃ as, Reads (PySem.W.sortingHeap (h'.push (seqObj "list" vs.toArray 0)) h'.objs.size vs) v d as) vs ds := each_mem' es fun v d hd ⟨y, q1, q2⟩ => by
    obtain ⟨as, hr⟩ := Dp.reads I1 d y v (hK ▸ q2.dp (SeqAt.canLay_of_shaped (hsh d hd))) q1
    exact ⟨as, PyProof.Rows.Reads.keeps (fun b o e => PySem.W.sortingHeap_old (Nat.ne_of_lt (Heap.lt_size e)) (Heap.get?_push_of_some _ e)) hr⟩
  have hun : ∀ d, d ∈ ds → X.A.in1.in1.units + d.depth < cLine := fun d hd => by
    have h64 := SeqAt.depth_of_shaped (hsh d hd)
    show X.A.units + 1 + 1 + d.depth < cLine
    omega
  have S := PySem.W.SortsAt.data (prog := X.prog) (w := X.w) (A := X.A.in1.in1) (s := { s with heap := PySem.W.sortingHeap (h'.push (seqObj "list" vs.toArray 0)) h'.objs.size vs, toks := tk }) rd hal hst hun
  have hm : ds.map id = ds := List.map_id ds
  have out := PySem.W.sortVals_data (R := SR G B H) (enc := id) (h' := PySem.W.sortingHeap (h'.push (seqObj "list" vs.toArray 0)) h'.objs.size vs) false es rd (by rw [hm]; exact hal)
  rw [hm] at out
  obtain ⟨zs, hz1, hz2⟩ := sr_back out
  refine wpAny_bind (wpAny_holding (wpAny_call_entry PyProof.Rows.slot_list_sort ⟨_, hoL, rfl⟩ PyProof.Rows.entry_list_sort
    (PySem.W.list_sort_vals (s := { s with heap := h'.push (seqObj "list" vs.toArray 0), toks := tk }) hoL S (by rw [hvl]; exact hL) ⟨_, rfl, ?_⟩) (PyProof.Rows.args_list_sort _)))
  obtain ⟨e', he'⟩ := PyProof.Rows.sortedHeap_at (vs := vs) (out := (PySem.W.sortVals (PySem.W.dataKind (PySem.W.sortingHeap (h'.push (seqObj "list" vs.toArray 0)) h'.objs.size vs) ds) false vs vs).toArray) hoL
  have hzl : zs.length ≤ sizeLine := by
    have := hz1.length
    rw [this, List.length_mergeSort]; exact hL
  refine wpAny_pure ⟨_, rfl, .ref h'.objs.size, upd H h'.objs.size (.lst zs), I1.laid (t' := tk) (fun b u e => ?_) (Nat.le_refl _)
    (show ObjOk X.prog X.w _ _ _ (.lst zs) from ⟨hzl, _, e', hz2, he'⟩), rfl, q _ _ (I1.hok.fresh (Nat.le_refl _)) hz1⟩
  have hb : b < h'.objs.size := Heap.lt_size e
  rw [PyProof.Rows.sortedHeap_old (Nat.ne_of_lt hb) (by rw [size_push']; exact Nat.lt_succ_of_lt hb)]
  exact Heap.get?_push_of_some _ e
/-- what is collected: a list, a dict's keys, its values -/
theorem col_list {p : Addr} {ys : List V} (I : Inv X pins σ H s) (hp : SqL X.K H p ys) (R : List Value → Shared → Prop) (h : ∀ h' tk vs, (∀ b o, s.heap.get? b = some o → h'.get? b = some o) → Vals ys vs → R vs { s with heap := h', toks := tk }) : wpAny (model X.prog X.w) A (collect (.ref p)) R E s := by
  obtain ⟨its, rv, pl, hz⟩ := I.list hp
  refine collect_list pl.isList (h _ s.toks _ (fun b o e => ?_) rv) (by rw [← rv.length]; exact hz)
  rw [Heap.get?_update_ne _ _ _ _ (Nat.ne_of_lt (Heap.lt_size e))]
  exact Heap.get?_push_of_some _ e
theorem col_dict (hc : X.calm = true) (hh : A.handled = none) (I : Inv X pins σ H s) (hd : Rd H a (DX w a xs)) (R : List Value → Shared → Prop) (h : ∀ h' tk vs, (∀ b o, s.heap.get? b = some o → h'.get? b = some o) → Vals (xs.map (·.2.1)) vs → R vs { s with heap := h', toks := tk }) : wpAny (model X.prog X.w) A (collect (.ref a)) R E s := by
  obtain ⟨hs, hz, es, ep, hr, hsz, hen⟩ := dx_raw I hd
  exact PySem.W.kdu_collect (PySem.KdlSrc.rawDict (es := es) (ep := ep) hs) hh hr (by rw [hsz]; exact hz) fun h' tk acc hk hacc => h h' tk _ hk (keys_vals hsz hen hacc)
end
theorem dp_keys {β : Type} {G : Gx} {B : Addr → Prop} {H : Hp} {Rv : V → β → Prop} {xs : List DE} {kvs : List (PyData × β)} (r : DP G B H Rv xs kvs) : RpAll G B H (xs.map (·.2.1)) (kvs.map (·.1)) := by
  induction r with
  | nil => exact .nil
  | cons r t ih => exact .cons r.2.1 ih
end L2

set_option Elab.async false
set_option linter.all false
set_option autoImplicit false
set_option maxRecDepth 100000
set_option maxHeartbeats 4000000
/-! Z4: places, slices, built-ins by their meaning. -/
namespace L2
open PySem PySem.Spec PyProof.Rows Z
section
variable {G : Gx} {B : Addr → Prop} {H : Hp}
theorem RpAll.atI {xs : List V} {ds : List PyData} (r : RpAll G B H xs ds) {i : Int} {d : PyData} (e : L2.atI ds i = some d) : ∃ v, L2.atI xs i = some v ∧ Rp G B H v d := by
  unfold L2.atI at e ⊢
  rw [r.length]
  rw [Option.bind_eq_some_iff] at e
  obtain ⟨j, e1, e2⟩ := e
  obtain ⟨v, h1, h2⟩ := r.get e2
  exact ⟨v, by rw [e1]; exact h1, h2⟩
theorem paired_get2 {α β : Type} {R : α → β → Prop} : ∀ {xs : List α} {ys : List β} {i : Nat} {y : β}, Paired R xs ys → ys[i]? = some y → ∃ x, xs[i]? = some x ∧ R x y
  | _, _, _, _, .nil, e => by simp at e
  | _, _, 0, _, .cons r _, e => by simp at e; subst e; exact ⟨_, rfl, r⟩
  | _, _, i + 1, y, .cons _ t, e => by
    have ⟨v, h1, h2⟩ := paired_get2 (i := i) (y := y) t (by simpa using e)
    exact ⟨v, by simpa using h1, h2⟩
theorem RepVs.atI {G : Gx} {A : Addr → Prop} {ρ : List Addr} {xs : List V} {vs : List Val} (r : RepVs G A ρ H xs vs) {i : Int} {w : Val} (e : L2.atI vs i = some w) : ∃ v, L2.atI xs i = some v ∧ RepV G A ρ H v w := by
  unfold L2.atI at e ⊢
  rw [Paired.length r]
  rw [Option.bind_eq_some_iff] at e
  have ⟨j, e1, e2⟩ := e
  have ⟨v, h1, h2⟩ := paired_get2 r e2
  exact ⟨v, by rw [e1]; exact h1, h2⟩
theorem RpAll.cut {xs : List V} {ds : List PyData} (r : RpAll G B H xs ds) (lo hi : Option Int) : RpAll G B H (cutV xs lo hi) (Z.cutD ds lo hi) := by
  unfold cutV Z.cutD
  rw [r.length]
  exact (r.drop _).take _
theorem cutD_whole {ds : List PyData} {lo hi : Option Int} (h : HT.sIx ds.length 0 lo = 0 ∧ HT.sIx ds.length ds.length hi = ds.length) : Z.cutD ds lo hi = ds := by
  unfold Z.cutD
  rw [h.1, h.2]
  simp
theorem RpAll.bools {xs : List V} {ds : List PyData} (r : RpAll G B H xs ds) : ∀ {bs : List Bool}, boolsOf ds = some bs → xs = bs.map V.bl := by
  induction ds generalizing xs with
  | nil => intro bs e; cases r; simp only [boolsOf, Option.some.injEq] at e; subst e; rfl
  | cons d ds ih =>
    intro bs e
    cases r with
    | cons r t =>
      cases d with
      | bool b =>
        simp only [boolsOf, Option.map_eq_some_iff] at e
        have ⟨cs, e1, e2⟩ := e
        subst e2
        rw [ih t e1, r.scal_bl]; rfl
      | _ => simp [boolsOf] at e
theorem RpAll.ints {xs : List V} {ds : List PyData} (r : RpAll G B H xs ds) : ∀ {bs : List Int}, intsOf ds = some bs → xs = bs.map V.int := by
  induction ds generalizing xs with
  | nil => intro bs e; cases r; simp only [intsOf, Option.some.injEq] at e; subst e; rfl
  | cons d ds ih =>
    intro bs e
    cases r with
    | cons r t =>
      cases d with
      | int b =>
        simp only [intsOf, Option.map_eq_some_iff] at e
        have ⟨cs, e1, e2⟩ := e
        subst e2
        rw [ih t e1, r.scal_int]; rfl
      | _ => simp [intsOf] at e
theorem RpAll.ofInts (ns : List Int) : RpAll G B H (ns.map V.int) (ns.map PyData.int) := by
  induction ns with
  | nil => exact .nil
  | cons n ns ih => exact .cons (.int n) ih
end
theorem maxI_is : ∀ (ns : List Int), ns ≠ [] → ∀ m, m ∈ ns → (∀ y, y ∈ ns → y ≤ m) → m = maxI ns
  | [], h, _, _, _ => absurd rfl h
  | [x], _, m, hm, _ => by simpa [maxI] using hm
  | x :: y :: r, _, m, hm, hl => by
    have key : ∀ (l : List Int), l ≠ [] → maxI l ∈ l ∧ ∀ z ∈ l, z ≤ maxI l := by
      intro l
      induction l with
      | nil => intro h; exact absurd rfl h
      | cons a t ih =>
        intro _
        cases t with
        | nil => simp [maxI]
        | cons b t =>
          have ⟨h1, h2⟩ := ih (by simp)
          show (if maxI (b :: t) > a then maxI (b :: t) else a) ∈ a :: b :: t ∧ ∀ z ∈ a :: b :: t, z ≤ (if maxI (b :: t) > a then maxI (b :: t) else a)
          split
          · rename_i hgt
            refine ⟨List.mem_cons_of_mem _ h1, fun z hz => ?_⟩
            rcases List.mem_cons.mp hz with e | hz
            · subst e; omega
            · exact h2 z hz
          · refine ⟨List.mem_cons_self, fun z hz => ?_⟩
            rcases List.mem_cons.mp hz with e | hz
            · subst e; omega
            · have := h2 z hz; omega
    have ⟨h1, h2⟩ := key (x :: y :: r) (by simp)
    have a1 := hl _ h1
    have a2 := h2 _ hm
    omega
theorem minI_is : ∀ (ns : List Int), ns ≠ [] → ∀ m, m ∈ ns → (∀ y, y ∈ ns → m ≤ y) → m = minI ns
  | [], h, _, _, _ => absurd rfl h
  | [x], _, m, hm, _ => by simpa [minI] using hm
  | x :: y :: r, _, m, hm, hl => by
    have key : ∀ (l : List Int), l ≠ [] → minI l ∈ l ∧ ∀ z ∈ l, minI l ≤ z := by
      intro l
      induction l with
      | nil => intro h; exact absurd rfl h
      | cons a t ih =>
        intro _
        cases t with
        | nil => simp [minI]
        | cons b t =>
          have ⟨h1, h2⟩ := ih (by simp)
          show (if minI (b :: t) < a then minI (b :: t) else a) ∈ a :: b :: t ∧ ∀ z ∈ a :: b :: t, (if minI (b :: t) < a then minI (b :: t) else a) ≤ z
          split
          · rename_i hgt
            refine ⟨List.mem_cons_of_mem _ h1, fun z hz => ?_⟩
            rcases List.mem_cons.mp hz with e | hz
            · subst e; omega
            · exact h2 z hz
          · refine ⟨List.mem_cons_self, fun z hz => ?_⟩
            rcases List.mem_cons.mp hz with e | hz
            · subst e; omega
            · have := h2 z hz; omega
    have ⟨h1, h2⟩ := key (x :: y :: r) (by simp)
    have a1 := hl _ h1
    have a2 := h2 _ hm
    omega

/-! ### places -/
def rIxG (G : Gx) : R2 := fun x y H Q => ∃ A ρ h a b z, Sim G A ρ h H ∧ RepV G A ρ H x a ∧ RepV G A ρ H y b ∧ ixV h a b = some z ∧ Fin_ G A ρ h H z Q
theorem ix_dget {X : Cx} (hu : X.A.units + 1 < cLine) : IxR X (fun x y H Q => ∃ a v, x = .ref a ∧ DGet H a y (some v) ∧ Q v H) := by
  intro value slice pins s σ H x y v u Q I rx ry h hs
  obtain ⟨a, w, rfl, g, q⟩ := h
  obtain rfl : v = Value.ref a := rx
  exact tail_any (dict_typeIs I g) PySem.F.slot_dict_getitem.lookup (d_getItem hu I g ry fun w' s3 I3 rw' => ⟨w, H, I3, rw', q⟩) hs
theorem zip_find {G : Gx} {A : Addr → Prop} {H : Hp} {k : Str} : ∀ {ks : List Str} {vs : List V} {ds : List PyData} {q : Str × PyData}, RpAll G A H vs ds → ks.length = ds.length → (ks.zip ds).find? (fun q => decide (q.1 = k)) = some q → ∃ w, valV ((ks.zip vs).map fun q => ((.inr q.1 : L2.Key), q.2)) (.inr k) = some w ∧ Rp G A H w q.2
  | [], _, _, _, _, _, e => by simp at e
  | x :: ks, _, _, q, .nil, hl, e => by simp at hl
  | x :: ks, _, _, q, .cons (v := v) (d := d) (ds := ds) r t, hl, e => by
    by_cases hx : x = k
    · subst hx
      simp at e
      subst e
      exact ⟨v, by simp [valV], r⟩
    · have e' : (ks.zip ds).find? (fun q => decide (q.1 = k)) = some q := by simpa [hx] using e
      obtain ⟨w, h1, h2⟩ := zip_find t (by simpa using hl) e'
      refine ⟨w, ?_, h2⟩
      rw [← h1]
      simp [valV, hx]
theorem dx_typeIs {X : Cx} {pins : List (Addr × Obj)} {σ : St} {H : Hp} {s : Shared} {a : Addr} {w : World} {xs : List DE} (I : Inv X pins σ H s) (hd : Rd H a (DX w a xs)) : s.TypeIs (.ref a) "dict" := by
  obtain ⟨⟨_, _, _, ys, _, o, es, ep, ho, hx, _⟩, _⟩ := hd.ok I.hok
  exact ⟨o, ho, hx.1⟩
theorem ix_z {X : Cx} {G : Gx} {β : Type} {Rv : V → β → Prop} (hK : X.K = G.K) (hw : X.w = G.w) (hu : X.A.units + 9 < cLine) : IxR X (fun x y H Q => ∃ (a : Addr) (B : Addr → Prop) (xs : List DE) (kvs : List (PyData × β)) (kd : PyData) (v : β), x = .ref a ∧ Rd H a (DX G.w a xs) ∧ DP G B H Rv xs kvs ∧ kOk kvs kd = true ∧ Rp G B H y kd ∧ dget kvs kd = some v ∧ ∀ x, Rv x v → Q x H) := by
  intro value slice pins s σ H x y v u Q I rx ry h hs
  obtain ⟨a, B, xs, kvs, kd, w, rfl, hd, dp, ok, rk, e, q⟩ := h
  obtain rfl : v = Value.ref a := rx
  exact tail_any (dx_typeIs I hd) PySem.F.slot_dict_getitem.lookup (z_get hu I hK hw hd dp ok ry rk e fun w' s3 x I3 rw' rv => ⟨x, H, I3, rw', q x rv⟩) hs
theorem kOk_ld {α : Type} {kvs : List (PyData × α)} {kd : PyData} (h : kOk kvs kd = true) : ldB kd = false := by
  obtain ⟨b, hb, _⟩ := kOk_kind h
  cases kd <;> first | rfl | (simp [kindK] at hb)
theorem ix_G {X : Cx} {G : Gx} (hK : X.K = G.K) (hw : X.w = G.w) (hu : X.A.units + 9 < cLine) : IxR X (rIxG G) := by
  intro value slice pins s σ H x y v u Q I rx ry hh hs
  obtain ⟨A, ρ, h, a, b, z, S, ra, rb, e, f⟩ := hh
  cases ra with
  | @d _ da ra =>
    cases rb with
    | @d _ db rb =>
      replace e : (ixD da db).map Val.d = some z := e
      rw [Option.map_eq_some_iff] at e
      obtain ⟨w, e, ew⟩ := e
      subst ew
      by_cases hdd : ∃ kvs, da = .dict kvs
      · obtain ⟨kvs, rfl⟩ := hdd
        simp only [ixD] at e
        split at e
        · rename_i hz
          have ⟨p, xs, ex, hp, tp⟩ := (RpT.of ra).dict
          subst ex
          exact ix_z hK hw hu value slice pins s σ H _ _ v u Q I rx ry ⟨p, Av A ρ, xs, kvs, db, w, rfl, hp, tp.dp, hz, rb, e, fun x rv => f.here S (.d rv)⟩ hs
        · cases e
      cases da <;> first | exact absurd ⟨_, rfl⟩ hdd | skip
      all_goals cases db <;> first | (simp [ixD] at e; done) | skip
      · simp only [ixD] at e
        have e2 := rb.scal_int; subst e2
        have ⟨p, xs, ex, hp, tp⟩ := (RpT.of ra).sql
        subst ex
        have ⟨w2, h1, h2⟩ := tp.atI e
        exact ix_list value slice pins s σ H _ _ v u Q I rx ry ⟨p, xs, _, w2, rfl, rfl, hK ▸ hp, h1, f.here S (.d h2)⟩ hs
      · simp only [ixD] at e
        have e2 := rb.scal_int; subst e2
        have ⟨p, xs, ex, hp, tp⟩ := ra.tuple
        subst ex
        have ⟨w2, h1, h2⟩ := tp.atI e
        exact ix_tup value slice pins s σ H _ _ v u Q I rx ry ⟨p, xs, _, w2, rfl, rfl, hK ▸ hp, h1, f.here S (.d h2)⟩ hs
    | ref _ => simp [ixV] at e
    | scr _ => simp [ixV] at e
    | exc _ _ => simp [ixV] at e
    | dic _ _ _ _ => simp [ixV] at e
  | @dic p ks vs ds r na hl t =>
    cases rb with
    | @d _ db rb =>
      cases db <;> first | (simp [ixV] at e; done) | skip
      have e2 := rb.scal_str; subst e2
      simp only [ixV, Option.map_eq_some_iff] at e
      obtain ⟨q, hq, e3⟩ := e
      subst e3
      obtain ⟨w2, h1, h2⟩ := zip_find t hl hq
      exact ix_dget (by omega) value slice pins s σ H _ _ v u Q I rx ry ⟨p, w2, rfl, h1 ▸ DGet.k (k := .inr _) r, f.here S (.d h2)⟩ hs
    | ref _ => simp [ixV] at e
    | scr _ => simp [ixV] at e
    | exc _ _ => simp [ixV] at e
    | dic _ _ _ _ => simp [ixV] at e
  | @ref n p r =>
    cases rb with
    | @d _ db rb =>
      simp only [ixV] at e
      split at e
      · rename_i vs hc
        cases db <;> first | (simp at e; done) | skip
        have e2 := rb.scal_int; subst e2
        cases S.cell _ _ _ hc r with
        | lst q rv =>
          have ⟨w2, h1, h2⟩ := RepVs.atI rv e
          exact ix_list value slice pins s σ H _ _ v u Q I rx ry ⟨p, _, _, w2, rfl, rfl, .inl (.inl q), h1, f.here S h2⟩ hs
      · rename_i vs hc
        cases db <;> first | (simp at e; done) | skip
        have e2 := rb.scal_int; subst e2
        cases S.cell _ _ _ hc r with
        | tup q rv =>
          have ⟨w2, h1, h2⟩ := RepVs.atI rv e
          exact ix_tup value slice pins s σ H _ _ v u Q I rx ry ⟨p, _, _, w2, rfl, rfl, .inl (.inl q), h1, f.here S h2⟩ hs
      · rename_i lk kvs hc
        split at e
        · rename_i hz
          cases S.cell _ _ _ hc r with
          | dict q rv => exact ix_z (Rv := RepV G A ρ H) hK hw hu value slice pins s σ H _ _ v u Q I rx ry ⟨p, Av A ρ, _, kvs, db, z, rfl, q.rd, rv, hz, rb, e, fun x rv => f.here S rv⟩ hs
        · cases e
      · cases e
    | ref _ => simp [ixV] at e
    | scr _ => simp [ixV] at e
    | exc _ _ => simp [ixV] at e
    | dic _ _ _ _ => simp [ixV] at e
  | scr _ => simp [ixV] at e
  | exc _ _ => simp [ixV] at e
def rSlG (G : Gx) : V → Option Int → Option Int → Hp → VK → Prop := fun x lo hi H Q => ∃ A ρ h a z, Sim G A ρ h H ∧ RpT G (Av A ρ) H x a ∧ slD a lo hi = some z ∧ Fin_ G A ρ h H (.d z) Q
theorem sl_G {X : Cx} {G : Gx} (hK : X.K = G.K) : SlR X (rSlG G) := by
  intro pins s σ H x v vl vu lo hi sl Q I rx hs pl pu hh
  obtain ⟨A, ρ, h, a, z, S, ra, e, f⟩ := hh
  cases a <;> first | (simp [slD] at e; done) | skip
  · simp only [slD, Option.some.injEq] at e; subst e
    have ⟨p, xs, ex, hp, tp⟩ := ra.sql
    subst ex
    exact sl_list pins s σ H _ v vl vu lo hi sl Q I rx hs pl pu ⟨p, xs, rfl, hK ▸ hp, f.lst S (tp.cut lo hi)⟩
  · simp only [slD, Option.some.injEq] at e; subst e
    have ra' := ra.rp rfl
    have ⟨p, xs, ex, hp, tp⟩ := ra'.tuple
    subst ex
    refine sl_tupA pins s σ H _ v vl vu lo hi sl Q I rx hs pl pu ⟨p, xs, rfl, hK ▸ hp, fun hw => ?_, fun _ => f.tup S (tp.cut lo hi)⟩
    rw [tp.length] at hw
    rw [cutD_whole hw] at f
    exact f.here S (.d ra')

/-! ### built-ins -/
def rBlt (G : Gx) (b : Bfn) : List V → Hp → VK → Prop := fun xs H Q => ∃ A ρ h us z, Sim G A ρ h H ∧ RepVs G A ρ H xs us ∧ bltV h b us = some z ∧ Fin_ G A ρ h H z Q
theorem asDs_rep {G : Gx} {A : Addr → Prop} {ρ : List Addr} {h : MH} {H : Hp} (S : Sim G A ρ h H) {xs : List V} {us : List Val} (r : RepVs G A ρ H xs us) : ∀ {ds : List PyData}, asDs h us = some ds → Paired (RpT G (Av A ρ) H) xs ds := by
  induction r with
  | nil => intro ds e; simp only [asDs, Option.some.injEq] at e; subst e; exact .nil
  | cons r t ih =>
    intro ds e
    simp only [asDs] at e
    rw [Option.bind_eq_some_iff] at e
    have ⟨d, e1, e2⟩ := e
    rw [Option.map_eq_some_iff] at e2
    have ⟨ds', e3, e4⟩ := e2
    subst e4
    exact .cons (asD_rep S r e1) (ih e3)
/-- one argument, as data -/
theorem blt_one {G : Gx} {A : Addr → Prop} {ρ : List Addr} {h : MH} {H : Hp} {b : Bfn} {xs : List V} {us : List Val} {z : Val} (S : Sim G A ρ h H) (r : RepVs G A ρ H xs us)
    (e : (asDs h us).bind (fun ds => (bltD b ds).map Val.d) = some z) : ∃ ds w, Paired (RpT G (Av A ρ) H) xs ds ∧ bltD b ds = some w ∧ z = .d w := by
  rw [Option.bind_eq_some_iff] at e
  have ⟨ds, e1, e2⟩ := e
  rw [Option.map_eq_some_iff] at e2
  have ⟨w, e3, e4⟩ := e2
  exact ⟨ds, w, asDs_rep S r e1, e3, e4.symm⟩
section
variable {X : Cx} {G : Gx}
theorem cb_len (hK : X.K = G.K) : CallR X (.builtin "len") (rBlt G .len) := by
  intro pins s σ H xs us' Q I rx hh
  obtain ⟨A, ρ, h, us, z, S, r, e, f⟩ := hh
  have base : ∀ {x : V} {d : PyData} {w : PyData}, xs = [x] → RpT G (Av A ρ) H x d → bltD .len [d] = some w → z = .d w → wpAny (model X.prog X.w) X.A (call (.builtin "len") us') (EP X pins σ Q) X.xe s := fun {x d w} ex rd ew ez => by
    subst ex ez
    cases d <;> first | (simp [bltD] at ew; done) | skip
    · simp only [bltD] at ew
      split at ew
      · rename_i hz; cases ew
        have := rd.str; subst this
        exact call_len_str pins s σ H _ us' Q I rx ⟨_, rfl, by simpa [lOk] using hz, f.here S (.d (.int _))⟩
      · cases ew
    · simp only [bltD, Option.some.injEq] at ew; subst ew
      have ⟨p, ys, ex, hp, tp⟩ := rd.sql
      subst ex
      exact call_len_seq pins s σ H _ us' Q I rx ⟨p, ys, rfl, .inl (hK ▸ hp), f.here S (.d (by rw [tp.length]; exact .int _))⟩
    · simp only [bltD, Option.some.injEq] at ew; subst ew
      have ⟨p, ys, ex, hp, tp⟩ := rd.tuple
      subst ex
      exact call_len_seq pins s σ H _ us' Q I rx ⟨p, ys, rfl, .inr (hK ▸ hp), f.here S (.d (by rw [tp.length]; exact .int _))⟩
    · simp only [bltD, Option.some.injEq] at ew; subst ew
      have ⟨p, ys, ex, hp, tp⟩ := rd.dict
      subst ex
      obtain ⟨u, rfl, rx'⟩ := vals1 rx
      cases rx'
      exact z_len I hp fun t s' I' => ⟨V.int ys.length, H, I', ⟨t, rfl⟩, f.here S (.d (by rw [Paired.length tp.dp]; exact .int _))⟩
  cases r with
  | nil => simp [bltV, asDs, bltD] at e
  | cons r t =>
    cases t with
    | cons r2 t => 
      simp only [bltV] at e
      obtain ⟨ds, w, pd, e1, _⟩ := blt_one S (.cons r (.cons r2 t)) e
      cases pd with
      | cons _ pd => cases pd with
        | cons _ pd => simp [bltD] at e1
    | nil =>
      simp only [bltV, Option.map_eq_some_iff] at e
      have ⟨w, e1, e2⟩ := e
      cases r with
      | d r => exact base rfl (.of r) (by simpa [lenV] using e1) e2.symm
      | scr r => simp [lenV] at e1
      | exc _ _ => simp [lenV] at e1
      | dic _ _ _ _ => simp [lenV] at e1
      | @ref n p r =>
        simp only [lenV] at e1
        split at e1
        · rename_i vs hc
          cases e1
          cases S.cell _ _ _ hc r with
          | lst q rv =>
            subst e2
            exact call_len_seq pins s σ H _ us' Q I rx ⟨p, _, rfl, .inl (.inl (.inl q)), f.here S (.d (by rw [Paired.length rv]; exact .int _))⟩
        · rename_i lk kvs hc
          cases e1
          cases S.cell _ _ _ hc r with
          | dict q rv =>
            subst e2
            obtain ⟨u, rfl, rx'⟩ := vals1 rx
            cases rx'
            exact z_len I q.rd fun t s' I' => ⟨V.int (_root_.List.length _ : Nat), H, I', ⟨t, rfl⟩, f.here S (.d (by rw [Paired.length rv]; exact .int _))⟩
        · cases e1
theorem cb_list (hK : X.K = G.K) (hc : X.calm = true) : CallR X (.type "list") (rBlt G .list) := by
  intro pins s σ H xs us' Q I rx hh
  obtain ⟨A, ρ, h, us, z, S, r, e, f⟩ := hh
  have gen : (asDs h us).bind (fun ds => (bltD .list ds).map Val.d) = some z → wpAny (model X.prog X.w) X.A (call (.type "list") us') (EP X pins σ Q) X.xe s := fun e => by
    have ⟨ds, w, pd, e1, e2⟩ := blt_one S r e
    subst e2
    cases pd with
    | nil => simp [bltD] at e1
    | cons rd t =>
      cases t with
      | cons _ _ => simp [bltD] at e1
      | nil =>
        rename_i d
        cases d <;> first | (simp [bltD] at e1; done) | skip
        · simp only [bltD, Option.some.injEq] at e1; subst e1
          have ⟨p, ys, ex, hp, tp⟩ := rd.sql
          subst ex
          exact call_list_of pins s σ H _ us' Q I rx ⟨p, ys, rfl, .inl (hK ▸ hp), f.lst S tp⟩
        · simp only [bltD, Option.some.injEq] at e1; subst e1
          have ⟨p, ys, ex, hp, tp⟩ := rd.tuple
          subst ex
          exact call_list_of pins s σ H _ us' Q I rx ⟨p, ys, rfl, .inr (hK ▸ hp), f.lst S tp⟩
        · simp only [bltD, Option.some.injEq] at e1; subst e1
          have ⟨p, ys, ex, hp, tp⟩ := rd.dict
          subst ex
          exact z_list hc pins s σ H _ us' Q I rx ⟨p, _, ys, rfl, hp, f.lst S (dp_keys tp.dp)⟩
  cases r with
  | nil => exact gen (by simpa [bltV] using e)
  | cons r t =>
    cases t with
    | cons _ _ =>
      refine gen ?_
      unfold bltV at e
      simpa using e
    | nil =>
      cases r with
      | d r => exact gen (by unfold bltV at e; simpa using e)
      | ref r => exact gen (by unfold bltV at e; simpa using e)
      | exc _ _ => exact gen (by unfold bltV at e; simpa using e)
      | dic _ _ _ _ => exact gen (by unfold bltV at e; simpa using e)
      | @scr p ns r =>
        simp only [bltV, Option.some.injEq] at e
        subst e
        exact call_list_of pins s σ H _ us' Q I rx ⟨p, _, rfl, .inl (hK ▸ r.sq), f.lst S (RpAll.ofInts ns)⟩
/-- the others: by data alone -/
theorem cb_data {f : Value} {b : Bfn} (nl : b ≠ .len) (nl2 : b ≠ .list) (hc : ∀ (pins : List (Addr × Obj)) (s : Shared) (σ : St) (H : Hp) (xs : List V) (us' : List Value) (Q : VK) (A : Addr → Prop) (ρ : List Addr) (h : MH) (ds : List PyData) (w : PyData), Inv X pins σ H s → Vals xs us' → Sim G A ρ h H →
      Paired (RpT G (Av A ρ) H) xs ds → bltD b ds = some w → Fin_ G A ρ h H (.d w) Q → wpAny (model X.prog X.w) X.A (call f us') (EP X pins σ Q) X.xe s) : CallR X f (rBlt G b) := by
  intro pins s σ H xs us' Q I rx hh
  obtain ⟨A, ρ, h, us, z, S, r, e, g⟩ := hh
  have e' : (asDs h us).bind (fun ds => (bltD b ds).map Val.d) = some z := by
    cases b <;> first | (exact absurd rfl nl; done) | (exact absurd rfl nl2; done) | (unfold bltV at e; simpa using e)
  have ⟨ds, w, pd, e1, e2⟩ := blt_one S r e'
  subst e2
  exact hc pins s σ H xs us' Q A ρ h ds w I rx S pd e1 g
theorem cb_tuple (hK : X.K = G.K) : CallR X (.type "tuple") (rBlt G .tuple) := cb_data (by simp) (by simp) fun pins s σ H xs us' Q A ρ h ds w I rx S pd e f => by
  cases pd with
  | nil => simp [bltD] at e
  | cons rd t =>
    cases t with
    | cons _ _ => simp [bltD] at e
    | nil =>
      rename_i d
      cases d <;> first | (simp [bltD] at e; done) | skip
      · simp only [bltD, Option.some.injEq] at e; subst e
        have ⟨p, ys, ex, hp, tp⟩ := rd.sql
        subst ex
        exact call_tuple_of pins s σ H _ us' Q I rx ⟨p, ys, rfl, .inl ⟨hK ▸ hp, f.tup S tp⟩⟩
      · simp only [bltD, Option.some.injEq] at e; subst e
        have rd' := rd.rp rfl
        have ⟨p, ys, ex, hp, tp⟩ := rd'.tuple
        subst ex
        exact call_tuple_of pins s σ H _ us' Q I rx ⟨p, ys, rfl, .inr ⟨hK ▸ hp, f.here S (.d rd')⟩⟩
theorem cb_all (hK : X.K = G.K) (hc : X.calm = true) : CallR X (.builtin "all") (rBlt G .all) := cb_data (by simp) (by simp) fun pins s σ H xs us' Q A ρ h ds w I rx S pd e f => by
  cases pd with
  | nil => simp [bltD] at e
  | cons rd t =>
    cases t with
    | cons _ _ => simp [bltD] at e
    | nil =>
      rename_i d
      cases d <;> first | (simp [bltD] at e; done) | skip
      simp only [bltD, Option.map_eq_some_iff] at e
      have ⟨bs, e1, e2⟩ := e
      subst e2
      have ⟨p, ys, ex, hp, tp⟩ := rd.sql
      subst ex
      have := tp.bools e1; subst this
      exact cr_all hc pins s σ H _ us' Q I rx ⟨p, bs, rfl, hK ▸ hp, f.here S (.d (.bl _))⟩
theorem cb_any (hK : X.K = G.K) (hc : X.calm = true) : CallR X (.builtin "any") (rBlt G .any) := cb_data (by simp) (by simp) fun pins s σ H xs us' Q A ρ h ds w I rx S pd e f => by
  cases pd with
  | nil => simp [bltD] at e
  | cons rd t =>
    cases t with
    | cons _ _ => simp [bltD] at e
    | nil =>
      rename_i d
      cases d <;> first | (simp [bltD] at e; done) | skip
      simp only [bltD, Option.map_eq_some_iff] at e
      have ⟨bs, e1, e2⟩ := e
      subst e2
      have ⟨p, ys, ex, hp, tp⟩ := rd.sql
      subst ex
      have := tp.bools e1; subst this
      exact cr_any hc pins s σ H _ us' Q I rx ⟨p, bs, rfl, hK ▸ hp, f.here S (.d (.bl _))⟩
theorem cb_sum (hK : X.K = G.K) (hc : X.calm = true) : CallR X (.builtin "sum") (rBlt G .sum) := cb_data (by simp) (by simp) fun pins s σ H xs us' Q A ρ h ds w I rx S pd e f => by
  cases pd with
  | nil => simp [bltD] at e
  | cons rd t =>
    cases t with
    | cons _ _ => simp [bltD] at e
    | nil =>
      rename_i d
      cases d <;> first | (simp [bltD] at e; done) | skip
      simp only [bltD, Option.map_eq_some_iff] at e
      have ⟨bs, e1, e2⟩ := e
      subst e2
      have ⟨p, ys, ex, hp, tp⟩ := rd.sql
      subst ex
      have := tp.ints e1; subst this
      exact cr_sum hc pins s σ H _ us' Q I rx ⟨p, bs, rfl, hK ▸ hp, f.here S (.d (.int _))⟩
theorem cb_max (hK : X.K = G.K) (hc : X.calm = true) : CallR X (.builtin "max") (rBlt G .max) := cb_data (by simp) (by simp) fun pins s σ H xs us' Q A ρ h ds w I rx S pd e f => by
  cases pd with
  | nil => simp [bltD] at e
  | cons rd t =>
    cases t with
    | cons _ _ => simp [bltD] at e
    | nil =>
      rename_i d
      cases d <;> first | (simp [bltD] at e; done) | skip
      simp only [bltD] at e
      rw [Option.bind_eq_some_iff] at e
      have ⟨bs, e1, e2⟩ := e
      split at e2
      · cases e2
      · rename_i hne; cases e2
        have ⟨p, ys, ex, hp, tp⟩ := rd.sql
        subst ex
        have := tp.ints e1; subst this
        have hb : bs ≠ [] := by intro z; subst z; simp at hne
        exact cr_max hc pins s σ H _ us' Q I rx ⟨p, bs, rfl, hK ▸ hp, List.length_pos_iff.mpr hb, fun m hm hl => by
          rw [maxI_is bs hb m hm hl]; exact f.here S (.d (.int _))⟩
theorem cb_min (hK : X.K = G.K) (hc : X.calm = true) : CallR X (.builtin "min") (rBlt G .min) := cb_data (by simp) (by simp) fun pins s σ H xs us' Q A ρ h ds w I rx S pd e f => by
  cases pd with
  | nil => simp [bltD] at e
  | cons rd t =>
    cases t with
    | cons _ _ => simp [bltD] at e
    | nil =>
      rename_i d
      cases d <;> first | (simp [bltD] at e; done) | skip
      simp only [bltD] at e
      rw [Option.bind_eq_some_iff] at e
      have ⟨bs, e1, e2⟩ := e
      split at e2
      · cases e2
      · rename_i hne; cases e2
        have ⟨p, ys, ex, hp, tp⟩ := rd.sql
        subst ex
        have := tp.ints e1; subst this
        have hb : bs ≠ [] := by intro z; subst z; simp at hne
        exact cr_min hc pins s σ H _ us' Q I rx ⟨p, bs, rfl, hK ▸ hp, List.length_pos_iff.mpr hb, fun m hm hl => by
          rw [minI_is bs hb m hm hl]; exact f.here S (.d (.int _))⟩
theorem cb_min2 (hc : X.calm = true) : CallR X (.builtin "min") (rBlt G .min2) := cb_data (by simp) (by simp) fun pins s σ H xs us' Q A ρ h ds w I rx S pd e f => by
  cases pd with
  | nil => simp [bltD] at e
  | cons rd t =>
    cases t with
    | nil => rename_i d; cases d <;> simp [bltD] at e
    | cons rd2 t =>
      cases t with
      | cons _ _ => rename_i d _ _ _ d2 _ _ _ _; cases d <;> cases d2 <;> simp [bltD] at e
      | nil =>
        rename_i d _ d2
        cases d <;> cases d2 <;> first | (simp [bltD] at e; done) | skip
        simp only [bltD, Option.some.injEq] at e; subst e
        have := rd.int; have := rd2.int; subst_vars
        exact call_min2 hc pins s σ H _ us' Q I rx ⟨_, _, rfl, f.here S (.d (.int _))⟩
/-- what isinstance says of data -/
def tyN : Bfn → String
  | .isInt => "int" | .isBool => "bool" | .isStr => "str" | .isTuple => "tuple" | .isList => "list" | _ => ""
def isiB : Bfn → Bool
  | .isInt | .isBool | .isStr | .isTuple | .isList => true
  | _ => false
theorem cb_isi (hK : X.K = G.K) (b : Bfn) (hb : isiB b = true) : CallR X (.builtin "isinstance") (fun xs H Q => ∃ x, xs = [x, .ty (tyN b)] ∧ rBlt G b [x] H Q) := by
  intro pins s σ H xs us' Q I rx hh
  obtain ⟨x, ex, A, ρ, h, us, z, S, r, e, f⟩ := hh
  subst ex
  have e' : (asDs h us).bind (fun ds => (bltD b ds).map Val.d) = some z := by
    cases b <;> first | (simp [isiB] at hb; done) | (unfold bltV at e; simpa using e)
  have ⟨ds, w, pd, e1, e2⟩ := blt_one S r e'
  subst e2
  cases pd with
  | cons rd t =>
    cases t with
    | nil =>
      rename_i d
      have ew : w = .bool (isT b d) := by
        cases b <;> first | (simp [isiB] at hb; done) | (cases d <;> first | (simp only [bltD, Option.some.injEq] at e1; exact e1.symm) | (simp [bltD] at e1; done))
      subst ew
      have fin : ∀ {t : String}, TyX X.K H x (.type t) → kitB t (tyN b) = some (isT b d) → wpAny (model X.prog X.w) X.A (call (.builtin "isinstance") us') (EP X pins σ Q) X.xe s := fun {t} ty k =>
        call_isi pins s σ H _ us' Q I rx ⟨x, _, _, _, _, rfl, .ty _, ty, kit_ty k, f.here S (.d (.bl _))⟩
      cases d with
      | none => have := rd.non; subst this; exact fin (.base .non) (by cases b <;> first | (simp [isiB] at hb; done) | decide)
      | bool y => have := rd.bl; subst this; exact fin (.base (.bl _)) (by cases b <;> first | (simp [isiB] at hb; done) | (simp only [isT]; decide))
      | int y => have := rd.int; subst this; exact fin (.base (.int _)) (by cases b <;> first | (simp [isiB] at hb; done) | (simp only [isT]; decide))
      | str y => have := rd.str; subst this; exact fin (.base (.str _)) (by cases b <;> first | (simp [isiB] at hb; done) | (simp only [isT]; decide))
      | list y =>
        have ⟨p, ys, ex, hp, tp⟩ := rd.list
        subst ex
        have ty : TyX X.K H (.ref p) (.type "list") := by
          rcases hp with hp | ⟨ob, hp⟩
          · exact .base (.lst hp)
          · exact .base (.frz hp)
        exact fin ty (by cases b <;> first | (simp [isiB] at hb; done) | (simp only [isT]; decide))
      | tuple y =>
        have rd' := rd.rp rfl
        have k : kitB "tuple" (tyN b) = some (isT b (.tuple y)) := by cases b <;> first | (simp [isiB] at hb; done) | (simp only [isT]; decide)
        cases rd' with
        | tup hp n t => exact fin (.base (.tup hp)) k
        | tupK hk t =>
          have ⟨o, its, n, ho, hc, _⟩ := hk
          exact fin (.kTuple (hK ▸ ho) hc) k
      | dict y =>
        have ⟨p, ys, ex, hp, tp⟩ := rd.dict
        subst ex
        obtain ⟨u1, u2, rfl, r1, r2⟩ := vals2 rx
        have e2 := (ClsV.ty (tyN b)).eq r2
        subst e2
        cases r1
        obtain ⟨⟨_, _, _, zs, _, o, es, ep, ho, hx, _⟩, _⟩ := hp.ok I.hok
        have k : kitB "dict" (tyN b) = some (isT b (.dict y)) := by cases b <;> first | (simp [isiB] at hb; done) | (simp only [isT]; decide)
        exact PySem.W.kia_one PySem.W.kitx_dict I.kIn ⟨o, ho, hx.1⟩ (kit_ty k) (fun z => nomatch z) fun tk => ⟨.bl _, H, I.tok tk, rfl, f.here S (.d (.bl _))⟩
end
end L2

set_option Elab.async false
set_option linter.all false
set_option autoImplicit false
set_option maxRecDepth 100000
set_option maxHeartbeats 4000000
/-! Z5: expressions keep what their meaning promises. -/
namespace L2
open PySem PySem.Spec PyProof.Rows Z

/-- expressions that stand in no special form -/
def plainE : Expr → Bool
  | .Name .. | .Constant .. | .Tuple .. | .List .. | .BinOp .. | .UnaryOp .. | .Compare .. | .BoolOp .. | .IfExp .. | .Subscript .. | .Call .. | .ListComp .. | .Attribute .. | .Dict .. => true
  | _ => false
theorem plain_star {e : Expr} (h : plainE e = true) (es : List Expr) (env : PySem.Env) : starEach (e :: es) env = (false, eval e env) :: starEach es env := by
  cases e <;> first | rfl | (simp [plainE] at h)
theorem plain_ix {e : Expr} (h : plainE e = true) : PlainIx e := by
  intro o i
  cases e <;> first | rfl | (simp [plainE] at h)
theorem plain_marks {e : Expr} (h : plainE e = true) (op : CmpOp) : behindInMarks op e = false := by
  cases e <;> first | rfl | (simp [plainE] at h)
theorem plain_fold {e : Expr} (h : plainE e = true) (env : PySem.Env) : ∀ x, foldedSetIterable e env x = pure x := by
  intro x
  cases e <;> first | rfl | (simp [plainE] at h)
theorem plain_stars {es : List Expr} (h : es.all plainE = true) (pos : Pos) (env : PySem.Env) : (backTo pos (starEach es env)).any (·.1) = false := by
  induction es with
  | nil => rfl
  | cons e es ih =>
    simp only [List.all_cons, Bool.and_eq_true] at h
    rw [plain_star h.1]
    show (false || (backTo pos (starEach es env)).any (·.1)) = false
    rw [ih h.2]; rfl

/-- all that a text's pieces lean on -/
structure Okx (X : Cx) (G : Gx) (W : WX) : Prop where
  hK : X.K = G.K
  hw : X.w = G.w
  nd : X.N.Nodup
  calm : X.calm = true
  hu : X.A.units + 65 < cLine
  hu2 : X.A.units + 80 < cLine
section
variable {X : Cx} {G : Gx} {W : WX} {L : Lib} {a b c : Ce} {ea eb ec : Expr} {pos : Pos}
abbrev SE (X : Cx) (G : Gx) (W : WX) (L : Lib) (c : Ce) (e : Expr) : Prop := PE X e (tE G W (den L c))
abbrev SA (X : Cx) (G : Gx) (W : WX) (L : Lib) (c : Ces) (e : List Expr) : Prop := PA X e (tAs G W (dens L c))
def denT (L : Lib) (c : Ce) : Z.Env → MH → Res Bool := fun e h => (den L c e h).bind fun v h => lift h (truth v)
abbrev ST_ (X : Cx) (G : Gx) (W : WX) (L : Lib) (c : Ce) (e : Expr) : Prop := PT X e (tT G W (denT L c))

theorem se_var {i : Nat} {x : Str} (hN : X.N[i]? = some x) (hv : Vis X.env.scope x) (hd : (x == ("__debug__" : Str)) = false) (hcd : (x == ("__classdict__" : Str)) = false) : SE X G W L (.var i) (.Name x pos) :=
  (pe_var hN hv hd hcd).imp fun σ H Q ⟨A, ρ, en, h, S, E, P⟩ => by
    simp only [den] at P
    split at P
    · rename_i v hv
      obtain ⟨x, h1, h2⟩ := E.at_ i v hv
      exact ⟨x, h1, P.here S h2⟩
    · exact P.elim
theorem se_none {j : Nat} : SE X G W L .none (.Constant .none j pos) := pe_non.imp fun σ H Q ⟨A, ρ, en, h, S, E, P⟩ => by
  simp only [den] at P; exact P.here S (.d .non)
theorem se_bool {j : Nat} {b : Bool} : SE X G W L (.bool b) (.Constant (.bool b) j pos) := pe_bl.imp fun σ H Q ⟨A, ρ, en, h, S, E, P⟩ => by
  simp only [den] at P; exact P.here S (.d (.bl _))
theorem se_int {j : Nat} {b : Int} : SE X G W L (.int b) (.Constant (.int b) j pos) := pe_int.imp fun σ H Q ⟨A, ρ, en, h, S, E, P⟩ => by
  simp only [den] at P; exact P.here S (.d (.int _))
theorem se_str {j : Nat} {b : Str} : SE X G W L (.str b) (.Constant (.str b) j pos) := pe_str.imp fun σ H Q ⟨A, ρ, en, h, S, E, P⟩ => by
  simp only [den] at P; exact P.here S (.d (.str _))
theorem se_glob {k : Nat} {x : Str} {v : V} {u : Value} {d : PyData} (hg : Gl X x) (hm : X.mg x = some u) (r : RelV v u) (hd : (x == ("__debug__" : Str)) = false) (hl : L.gl[k]? = some d) (rp : ∀ A H, Rp G A H v d) : SE X G W L (.glob k) (.Name x pos) :=
  (pe_glob hg hm r hd).imp fun σ H Q ⟨A, ρ, en, h, S, E, P⟩ => by
    simp only [den, hl, Option.map_some, lift_some] at P
    exact P.here S (.d (rp _ _))
theorem sa_nil : SA X G W L .nil [] := pa_nil.imp fun σ H Q ⟨A, ρ, en, h, S, E, P⟩ => by
  simp only [dens] at P; exact P.here S (x := []) .nil
theorem sa_cons {es : Ces} {xs : List Expr} (hp : plainE ea = true) (ha : SE X G W L a ea) (hr : SA X G W L es xs) : SA X G W L (.cons a es) (ea :: xs) :=
  (pa_cons ha hr (plain_star hp xs X.env)).imp fun σ H Q ⟨A, ρ, en, h, S, E, P⟩ => by
    simp only [dens] at P
    refine ⟨A, ρ, en, h, S, E, P.bind.mono fun x H1 ⟨v, h1, ρ1, E1, S1, R1, P1⟩ => ⟨A, ρ1, en, h1, S1, E.ext E1, P1.bind.mono fun ys H2 ⟨ws, h2, ρ2, E2, S2, R2, P2⟩ => ?_⟩⟩
    exact P2.here S2 (x := x :: ys) (.cons (R1.ext E2) R2)
theorem dats_rep' {A : Addr → Prop} {ρ : List Addr} {H : Hp} {xs : List V} {vs : List Val} (rv : RepVs G A ρ H xs vs) {ds : List PyData} (e : Z.dats vs = some ds) : RpAll G (Av A ρ) H xs ds := dats_rep rv e
theorem se_tup {es : Ces} {xs : List Expr} {k : Nat} (ha : SA X G W L es xs) : SE X G W L (.tup es) (.Tuple xs k pos) :=
  (pe_tup ha).imp fun σ H Q ⟨A, ρ, en, h, S, E, P⟩ => by
    simp only [den] at P
    refine ⟨A, ρ, en, h, S, E, P.bind.mono fun ys H1 ⟨vs, h1, ρ1, E1, S1, R1, P1⟩ => ?_⟩
    obtain ⟨v, e, P2⟩ := P1.lift
    rw [Option.bind_eq_some_iff] at e
    obtain ⟨ds, e1, e2⟩ := e
    split at e2
    · rename_i hz
      cases e2
      have r := dats_rep R1 e1
      exact ⟨by rw [r.length]; simpa [lOk] using hz, Fin_.tup P2 S1 r⟩
    · cases e2
theorem se_lst {es : Ces} {xs : List Expr} (ha : SA X G W L es xs) : SE X G W L (.lst es) (.List xs pos) :=
  (pe_lst ha).imp fun σ H Q ⟨A, ρ, en, h, S, E, P⟩ => by
    simp only [den] at P
    refine ⟨A, ρ, en, h, S, E, P.bind.mono fun ys H1 ⟨vs, h1, ρ1, E1, S1, R1, P1⟩ => ?_⟩
    obtain ⟨v, e, P2⟩ := P1.lift
    rw [Option.bind_eq_some_iff] at e
    obtain ⟨ds, e1, e2⟩ := e
    split at e2
    · rename_i hz
      cases e2
      have r := dats_rep R1 e1
      exact ⟨by rw [r.length]; simpa [lOk] using hz, Fin_.lst P2 S1 r⟩
    · cases e2
theorem se_bin (ok : Okx X G W) {o : Bop} (ha : SE X G W L a ea) (hb : SE X G W L b eb) : SE X G W L (.bin o a b) (.BinOp ea (opOf o) eb pos) :=
  (pe_op (op_bin ok.hK o) ha hb).imp fun σ H Q ⟨A, ρ, en, h, S, E, P⟩ => by
    simp only [den] at P
    refine ⟨A, ρ, en, h, S, E, P.bind.mono fun x H1 ⟨v, h1, ρ1, E1, S1, R1, P1⟩ => ⟨A, ρ1, en, h1, S1, E.ext E1, P1.bind.mono fun y H2 ⟨w, h2, ρ2, E2, S2, R2, P2⟩ => ?_⟩⟩
    obtain ⟨z, e, P3⟩ := P2.lift
    rw [Option.bind_eq_some_iff] at e
    obtain ⟨d1, e1, e⟩ := e
    rw [Option.bind_eq_some_iff] at e
    obtain ⟨d2, e2, e⟩ := e
    rw [Option.map_eq_some_iff] at e
    obtain ⟨d3, e3, e⟩ := e
    subst e
    exact ⟨A, ρ2, h2, d1, d2, d3, S2, asD_rep S2 (R1.ext E2) e1, asD_rep S2 R2 e2, e3, P3⟩
theorem se_neg (ha : SE X G W L a ea) : SE X G W L (.neg a) (.UnaryOp .USub ea pos) :=
  (pe_un un_neg ha).imp fun σ H Q ⟨A, ρ, en, h, S, E, P⟩ => by
    simp only [den] at P
    refine ⟨A, ρ, en, h, S, E, P.bind.mono fun x H1 ⟨v, h1, ρ1, E1, S1, R1, P1⟩ => ?_⟩
    split at P1
    · cases R1 with
      | d R1 => exact ⟨_, R1.scal_int, P1.here S1 (.d (.int _))⟩
    · exact P1.elim
theorem cmp_reads (ok : Okx X G W) {o : Cop} {σ : St} {H : Hp} {Q : V → Hp → Prop} {A : Addr → Prop} {ρ : List Addr} {en : Z.Env} {h : MH} (S : Sim G A ρ h H) (E : EnvR G A ρ H σ en)
    (P : Post G A W σ (RepV G A) ρ H (den L (.cmp o a b) en h) Q) : tOp (rCmp G o) (tE G W (den L a)) (tE G W (den L b)) σ H Q := by
  simp only [den] at P
  refine ⟨A, ρ, en, h, S, E, P.bind.mono fun x H1 ⟨v, h1, ρ1, E1, S1, R1, P1⟩ => ⟨A, ρ1, en, h1, S1, E.ext E1, P1.bind.mono fun y H2 ⟨w, h2, ρ2, E2, S2, R2, P2⟩ => ?_⟩⟩
  obtain ⟨z, e, P3⟩ := P2.lift
  rw [Option.map_eq_some_iff] at e
  obtain ⟨k, e1, e⟩ := e
  subst e
  exact ⟨A, ρ2, h2, v, w, k, S2, R1.ext E2, R2, e1, P3.here S2 (.d (.bl _))⟩
theorem se_cmp (ok : Okx X G W) {o : Cop} (hp : plainE eb = true) (ha : SE X G W L a ea) (hb : SE X G W L b eb) : SE X G W L (.cmp o a b) (.Compare ea [copOf o] [eb] pos) :=
  (pe_cmpR (op_cmp ok.hK ok.hw ok.hu o) ha hb (plain_marks hp _)).imp fun σ H Q ⟨A, ρ, en, h, S, E, P⟩ => cmp_reads ok S E P
/-- a value that is a bool, as a test -/
theorem truth_rep {A : Addr → Prop} {ρ : List Addr} {H : Hp} {x : V} {v : Val} {k : Bool} (r : RepV G A ρ H x v) (e : truth v = some k) : x = .bl k := by
  cases r with
  | d r =>
    unfold truth at e
    split at e
    · rename_i b hb
      cases hb
      cases e
      exact r.scal_bl
    · cases e
  | ref r => simp [truth] at e
  | scr _ => simp [truth] at e
  | exc _ _ => simp [truth] at e
  | dic _ _ _ _ => simp [truth] at e
theorem tT_tB {σ : St} {H : Hp} {Q : Bool → Hp → Prop} {A : Addr → Prop} {ρ : List Addr} {r : Res Val} (P : Post G A W σ (fun _ _ x v => x = v) ρ H (r.bind fun v h => lift h (truth v)) Q) :
    Post G A W σ (RepV G A) ρ H r fun x H1 => ∃ c, x = .bl c ∧ Q c H1 :=
  P.bind.mono fun x H1 ⟨v, h1, ρ1, E1, S1, R1, P1⟩ => by
    obtain ⟨k, e, P2⟩ := P1.lift
    exact ⟨k, truth_rep R1 e, P2.here S1 rfl⟩
theorem st_cmp (ok : Okx X G W) {o : Cop} (hp : plainE eb = true) (ha : SE X G W L a ea) (hb : SE X G W L b eb) : ST_ X G W L (.cmp o a b) (.Compare ea [copOf o] [eb] pos) :=
  (pt_cmpR (op_cmp ok.hK ok.hw ok.hu o) ha hb (plain_marks hp _)).imp fun σ H Q ⟨A, ρ, en, h, S, E, P⟩ => cmp_reads ok S E (tT_tB P)
theorem st_val (he : ∀ whole, isTrue ea X.env whole = (do let v ← whole; standAt ea.pos; holding [v] (truthy v))) (ha : SE X G W L a ea) : ST_ X G W L a ea :=
  (pt_val ha he).imp fun σ H Q ⟨A, ρ, en, h, S, E, P⟩ => ⟨A, ρ, en, h, S, E, tT_tB P⟩
/-- a <= b <= c -/
theorem le_le (hu : X.A.units + 65 < cLine) (hK : X.K = G.K) : OpR X (compareOp .LtE) (rI0 fun i j => .bl (decide (i ≤ j))) := op_le
theorem chain_reads {σ : St} {H : Hp} {Q : V → Hp → Prop} {A : Addr → Prop} {ρ : List Addr} {en : Z.Env} {h : MH} (S : Sim G A ρ h H) (E : EnvR G A ρ H σ en)
    (P : Post G A W σ (RepV G A) ρ H (den L (.cmp2 a b c) en h) Q) : tChain (rI0 fun i j => .bl (decide (i ≤ j))) (rI0 fun i j => .bl (decide (i ≤ j))) (tE G W (den L a)) (tE G W (den L b)) (tE G W (den L c)) σ H Q := by
  simp only [den] at P
  refine ⟨A, ρ, en, h, S, E, P.bind.mono fun x H1 ⟨v, h1, ρ1, E1, S1, R1, P1⟩ => ⟨A, ρ1, en, h1, S1, E.ext E1, P1.bind.mono fun y H2 ⟨w, h2, ρ2, E2, S2, R2, P2⟩ => ?_⟩⟩
  split at P2
  · rename_i i j _
    cases R1 with
    | d R1 => cases R2 with
      | d R2 =>
        refine ⟨i, j, R1.scal_int, R2.scal_int, decide (i ≤ j), rfl, ?_⟩
        split at P2
        · rename_i hle
          rw [decide_eq_true hle]
          simp only [if_true]
          refine ⟨A, ρ2, en, h2, S2, (E.ext E1).ext E2, P2.bind.mono fun z H3 ⟨u, h3, ρ3, E3, S3, R3, P3⟩ => ?_⟩
          split at P3
          · cases R3 with
            | d R3 => exact ⟨j, _, R2.scal_int, R3.scal_int, P3.here S3 (.d (.bl _))⟩
          · exact P3.elim
        · rename_i hle
          rw [decide_eq_false hle]
          simp only [Bool.false_eq_true, if_false]
          exact P2.here S2 (.d (.bl _))
  · exact P2.elim
theorem se_ite (hc : ST_ X G W L c ec) (ha : SE X G W L a ea) (hb : SE X G W L b eb) : SE X G W L (.ite c a b) (.IfExp ec ea eb pos) :=
  (pe_ifExp hc ha hb).imp fun σ H Q ⟨A, ρ, en, h, S, E, P⟩ => by
    simp only [den] at P
    refine ⟨A, ρ, en, h, S, E, ?_⟩
    unfold denT
    cases hd : den L c en h with
    | ok v h1 =>
      rw [hd] at P
      simp only [Res.bind_ok] at P ⊢
      cases hv : truth v with
      | none => rw [hv] at P; exact P.elim
      | some k =>
        rw [hv] at P
        intro ρ' H' x e1 s1 ex
        subst ex
        cases x with
        | true => simp only [if_true]; exact ⟨A, ρ', en, h1, s1, E.ext e1, Post.ext P e1⟩
        | false => simp only [Bool.false_eq_true, if_false]; exact ⟨A, ρ', en, h1, s1, E.ext e1, Post.ext P e1⟩
    | exc c' h1 => rw [hd] at P; exact P
    | bad => rw [hd] at P; exact P
theorem st_ite (hc : ST_ X G W L c ec) (ha : ST_ X G W L a ea) (hb : ST_ X G W L b eb) : ST_ X G W L (.ite c a b) (.IfExp ec ea eb pos) := ⟨fun pins s σ H Q I ⟨A, ρ, en, h, S, E, P⟩ => by
  show wpAny _ _ (isTrue ec X.env (eval ec X.env) >>= fun t => if t = true then isTrue ea X.env (eval ea X.env) else isTrue eb X.env (eval eb X.env)) _ _ _
  unfold denT at P
  simp only [den] at P
  refine wpAny_bind (thn (hc.run pins s σ H (fun k H1 => (k = true → tT G W (denT L a) σ H1 Q) ∧ (k = false → tT G W (denT L b) σ H1 Q)) I ⟨A, ρ, en, h, S, E, ?_⟩) fun t s1 ⟨H1, I1, q1⟩ => ?_)
  · unfold denT
    cases hd : den L c en h with
    | ok v h1 =>
      rw [hd] at P
      simp only [Res.bind_ok] at P ⊢
      cases hv : truth v with
      | none => rw [hv] at P; exact P.elim
      | some k =>
        rw [hv] at P
        intro ρ' H' x e1 s1 ex
        subst ex
        refine ⟨fun hk => ?_, fun hk => ?_⟩
        · subst hk; exact ⟨A, ρ', en, h1, s1, E.ext e1, Post.ext P e1⟩
        · subst hk; exact ⟨A, ρ', en, h1, s1, E.ext e1, Post.ext P e1⟩
    | exc c' h1 => rw [hd] at P; exact P
    | bad => rw [hd] at P; exact P
  · cases t with
    | true => exact ha.run pins s1 σ H1 Q I1 (q1.1 rfl)
    | false => exact hb.run pins s1 σ H1 Q I1 (q1.2 rfl)⟩
theorem se_ix (ok : Okx X G W) (hp : plainE eb = true) (ha : SE X G W L a ea) (hb : SE X G W L b eb) : SE X G W L (.ix a b) (.Subscript ea eb pos) :=
  (pe_ix (ix_G ok.hK ok.hw (Nat.lt_of_le_of_lt (Nat.add_le_add_left (by decide) _) ok.hu)) ha hb (plain_ix hp)).imp fun σ H Q ⟨A, ρ, en, h, S, E, P⟩ => by
    simp only [den] at P
    refine ⟨A, ρ, en, h, S, E, P.bind.mono fun x H1 ⟨v, h1, ρ1, E1, S1, R1, P1⟩ => ⟨A, ρ1, en, h1, S1, E.ext E1, P1.bind.mono fun y H2 ⟨w, h2, ρ2, E2, S2, R2, P2⟩ => ?_⟩⟩
    obtain ⟨z, e, P3⟩ := P2.lift
    exact ⟨A, ρ2, h2, v, w, z, S2, R1.ext E2, R2, e, P3⟩
abbrev SO (X : Cx) (G : Gx) (W : WX) (L : Lib) (c : Ce) (e : Option Expr) : Prop := PO X e (tOs G W (denO L c))
theorem PO.imp {e : Option Expr} {t t' : TO} (h : PO X e t) (q : ∀ σ H Q, t' σ H Q → t σ H Q) : PO X e t' := ⟨fun pins s σ H Q I r => h.run pins s σ H Q I (q _ _ _ r)⟩
theorem so_no : SO X G W L .no none := PO.imp po_none fun σ H Q ⟨A, ρ, en, h, S, E, P⟩ => by
  simp only [denO, partO] at P; exact P.here S rfl
theorem so_some (hn : a ≠ .no) (ha : SE X G W L a ea) : SO X G W L a (some ea) := PO.imp (po_some ha) fun σ H Q ⟨A, ρ, en, h, S, E, P⟩ => by
  have e : denO L a en h = (den L a en h).bind partI := by
    unfold denO partO
    cases a <;> first | rfl | exact absurd rfl hn
  rw [e] at P
  refine ⟨A, ρ, en, h, S, E, P.bind.mono fun x H1 ⟨v, h1, ρ1, E1, S1, R1, P1⟩ => ?_⟩
  unfold partI at P1
  split at P1
  · cases R1 with
    | d R1 => exact ⟨_, R1.scal_int, P1.here S1 rfl⟩
  · exact P1.elim
theorem se_sl (ok : Okx X G W) {lo hi : Ce} {elo ehi : Option Expr} {p2 : Pos} (ha : SE X G W L a ea) (hl : SO X G W L lo elo) (hh : SO X G W L hi ehi) : SE X G W L (.sl a lo hi) (.Subscript ea (.Slice elo ehi none p2) pos) :=
  (pe_slice (sl_G ok.hK) ha hl hh).imp fun σ H Q ⟨A, ρ, en, h, S, E, P⟩ => by
    simp only [den] at P
    refine ⟨A, ρ, en, h, S, E, P.bind.mono fun x H1 ⟨v, h1, ρ1, E1, S1, R1, P1⟩ => ⟨A, ρ1, en, h1, S1, E.ext E1, P1.bind.mono fun l H2 ⟨l', h2, ρ2, E2, S2, R2, P2⟩ => ⟨A, ρ2, en, h2, S2, (E.ext E1).ext E2, P2.bind.mono fun u H3 ⟨u', h3, ρ3, E3, S3, R3, P3⟩ => ?_⟩⟩⟩
    subst R2 R3
    obtain ⟨z, e, P4⟩ := P3.lift
    rw [Option.bind_eq_some_iff] at e
    obtain ⟨d, e1, e2⟩ := e
    rw [Option.map_eq_some_iff] at e2
    obtain ⟨d2, e3, e4⟩ := e2
    subst e4
    exact ⟨A, ρ3, h3, d, d2, S3, asD_rep S3 ((R1.ext E2).ext E3) e1, e3, P4⟩
theorem se_rev (ok : Okx X G W) {k : Nat} {p1 p2 p3 : Pos} (ha : SE X G W L a ea) : SE X G W L (.rev a) (.Subscript ea (.Slice none none (some (.UnaryOp .USub (.Constant (.int 1) k p1) p2)) p3) pos) :=
  (pe_revL ha).imp fun σ H Q ⟨A, ρ, en, h, S, E, P⟩ => by
    simp only [den] at P
    refine ⟨A, ρ, en, h, S, E, P.bind.mono fun x H1 ⟨v, h1, ρ1, E1, S1, R1, P1⟩ => ?_⟩
    obtain ⟨z, e, P2⟩ := P1.lift
    rw [Option.bind_eq_some_iff] at e
    obtain ⟨d, e1, e2⟩ := e
    split at e2
    · cases e2
      have ⟨p, xs, ex, hp, tp⟩ := (asD_rep S1 R1 e1).sql
      exact ⟨p, xs, ex, ok.hK ▸ hp, Fin_.lst P2 S1 tp.reverse⟩
    · cases e2
/-- and, or, not -/
theorem sw_and1 {as : Ces} (ha : ST_ X G W L a ea) : PW X (.BoolOp .And [ea] pos) (tT G W fun e h => (denAnd L (.cons a .nil) e h).bind fun v h => lift h (truth v)) :=
  (pw_and1 ha).imp fun σ H Q ⟨A, ρ, en, h, S, E, P⟩ => ⟨A, ρ, en, h, S, E, by
    simp only [denAnd] at P
    unfold denT
    cases hd : den L a en h with
    | ok v h1 => rw [hd] at P; simp only [Res.bind_ok] at P ⊢; cases hv : truth v with
      | none => rw [hv] at P; exact P
      | some k => rw [hv] at P; exact P
    | exc c' h1 => rw [hd] at P; exact P
    | bad => rw [hd] at P; exact P⟩
theorem sw_and {b : Ce} {bs : Ces} {es : List Expr} (ha : ST_ X G W L a ea) (hb : PW X (.BoolOp .And (eb :: es) pos) (tT G W fun e h => (denAnd L (.cons b bs) e h).bind fun v h => lift h (truth v))) :
    PW X (.BoolOp .And (ea :: eb :: es) pos) (tT G W fun e h => (denAnd L (.cons a (.cons b bs)) e h).bind fun v h => lift h (truth v)) :=
  (pw_and ha hb).imp fun σ H Q ⟨A, ρ, en, h, S, E, P⟩ => ⟨A, ρ, en, h, S, E, by
    dsimp only at P
    rw [denAnd] at P
    unfold denT
    cases hd : den L a en h with
    | ok v h1 =>
      rw [hd] at P; simp only [Res.bind_ok] at P ⊢
      cases hv : truth v with
      | none => rw [hv] at P; exact P
      | some k =>
        rw [hv] at P
        intro ρ' H' x e1 s1 ex
        subst ex
        cases x with
        | true => simp only [if_true]; exact ⟨A, ρ', en, h1, s1, E.ext e1, Post.ext P e1⟩
        | false => simp only [Bool.false_eq_true, if_false]; exact P ρ' H' false e1 s1 rfl
    | exc c' h1 => rw [hd] at P; exact P
    | bad => rw [hd] at P; exact P
    all_goals (intro h; cases h)⟩
theorem sw_or1 (ha : ST_ X G W L a ea) : PW X (.BoolOp .Or [ea] pos) (tT G W fun e h => (denOr L (.cons a .nil) e h).bind fun v h => lift h (truth v)) :=
  (pw_or1 ha).imp fun σ H Q ⟨A, ρ, en, h, S, E, P⟩ => ⟨A, ρ, en, h, S, E, by
    simp only [denOr] at P
    unfold denT
    cases hd : den L a en h with
    | ok v h1 => rw [hd] at P; simp only [Res.bind_ok] at P ⊢; cases hv : truth v with
      | none => rw [hv] at P; exact P
      | some k => rw [hv] at P; exact P
    | exc c' h1 => rw [hd] at P; exact P
    | bad => rw [hd] at P; exact P⟩
theorem sw_or {b : Ce} {bs : Ces} {es : List Expr} (ha : ST_ X G W L a ea) (hb : PW X (.BoolOp .Or (eb :: es) pos) (tT G W fun e h => (denOr L (.cons b bs) e h).bind fun v h => lift h (truth v))) :
    PW X (.BoolOp .Or (ea :: eb :: es) pos) (tT G W fun e h => (denOr L (.cons a (.cons b bs)) e h).bind fun v h => lift h (truth v)) :=
  (pw_or ha hb).imp fun σ H Q ⟨A, ρ, en, h, S, E, P⟩ => ⟨A, ρ, en, h, S, E, by
    dsimp only at P
    rw [denOr] at P
    unfold denT
    cases hd : den L a en h with
    | ok v h1 =>
      rw [hd] at P; simp only [Res.bind_ok] at P ⊢
      cases hv : truth v with
      | none => rw [hv] at P; exact P
      | some k =>
        rw [hv] at P
        intro ρ' H' x e1 s1 ex
        subst ex
        cases x with
        | false => simp only [Bool.false_eq_true, if_false]; exact ⟨A, ρ', en, h1, s1, E.ext e1, Post.ext P e1⟩
        | true => simp only [if_true]; exact P ρ' H' true e1 s1 rfl
    | exc c' h1 => rw [hd] at P; exact P
    | bad => rw [hd] at P; exact P
    all_goals (intro h; cases h)⟩
theorem st_not (ha : ST_ X G W L a ea) : ST_ X G W L (.not a) (.UnaryOp .Not ea pos) :=
  (pt_not ha).imp fun σ H Q ⟨A, ρ, en, h, S, E, P⟩ => ⟨A, ρ, en, h, S, E, by
    unfold denT at P ⊢
    simp only [den] at P
    cases hd : den L a en h with
    | ok v h1 => rw [hd] at P; simp only [Res.bind_ok] at P ⊢; cases hv : truth v with
      | none => rw [hv] at P; exact P
      | some k => rw [hv] at P; intro ρ' H' x e1 s1 ex; subst ex; exact P ρ' H' _ e1 s1 rfl
    | exc c' h1 => rw [hd] at P; exact P
    | bad => rw [hd] at P; exact P⟩
theorem se_not (ha : SE X G W L a ea) : SE X G W L (.not a) (.UnaryOp .Not ea pos) :=
  (pe_not ha).imp fun σ H Q ⟨A, ρ, en, h, S, E, P⟩ => by
    simp only [den] at P
    refine ⟨A, ρ, en, h, S, E, P.bind.mono fun x H1 ⟨v, h1, ρ1, E1, S1, R1, P1⟩ => ?_⟩
    obtain ⟨z, e, P2⟩ := P1.lift
    rw [Option.map_eq_some_iff] at e
    obtain ⟨k, e1, e2⟩ := e
    subst e2
    exact ⟨k, truth_rep R1 e1, P2.here S1 (.d (.bl _))⟩
/-- as values -/
theorem sv_and1 (ha : SE X G W L a ea) : PE X (.BoolOp .And [ea] pos) (tE G W (denAnd L (.cons a .nil))) := (pe_one ha).imp fun σ H Q ⟨A, ρ, en, h, S, E, P⟩ => by
  simp only [denAnd] at P
  refine ⟨A, ρ, en, h, S, E, P.bind.mono fun x H1 ⟨v, h1, ρ1, E1, S1, R1, P1⟩ => ?_⟩
  obtain ⟨z, e, P2⟩ := P1.lift
  rw [Option.map_eq_some_iff] at e
  obtain ⟨k, e1, e2⟩ := e
  subst e2
  rw [truth_rep R1 e1]
  exact P2.here S1 (.d (.bl _))
theorem sv_or1 (ha : SE X G W L a ea) : PE X (.BoolOp .Or [ea] pos) (tE G W (denOr L (.cons a .nil))) := (pe_one ha).imp fun σ H Q ⟨A, ρ, en, h, S, E, P⟩ => by
  simp only [denOr] at P
  refine ⟨A, ρ, en, h, S, E, P.bind.mono fun x H1 ⟨v, h1, ρ1, E1, S1, R1, P1⟩ => ?_⟩
  obtain ⟨z, e, P2⟩ := P1.lift
  rw [Option.map_eq_some_iff] at e
  obtain ⟨k, e1, e2⟩ := e
  subst e2
  rw [truth_rep R1 e1]
  exact P2.here S1 (.d (.bl _))
theorem sv_and {b : Ce} {bs : Ces} {es : List Expr} (ha : SE X G W L a ea) (hb : PE X (.BoolOp .And (eb :: es) pos) (tE G W (denAnd L (.cons b bs)))) :
    PE X (.BoolOp .And (ea :: eb :: es) pos) (tE G W (denAnd L (.cons a (.cons b bs)))) := (pe_and ha hb).imp fun σ H Q ⟨A, ρ, en, h, S, E, P⟩ => by
  rw [denAnd] at P
  · refine ⟨A, ρ, en, h, S, E, P.bind.mono fun x H1 ⟨v, h1, ρ1, E1, S1, R1, P1⟩ => ?_⟩
    cases hv : truth v with
    | none => rw [hv] at P1; exact P1.elim
    | some k =>
      rw [hv] at P1
      refine ⟨k, truth_rep R1 hv, ?_⟩
      cases k with
      | true => simp only [if_true]; exact ⟨A, ρ1, en, h1, S1, E.ext E1, P1⟩
      | false => simp only [Bool.false_eq_true, if_false]; exact P1.here S1 (.d (.bl _))
  · intro h; cases h
theorem sv_or {b : Ce} {bs : Ces} {es : List Expr} (ha : SE X G W L a ea) (hb : PE X (.BoolOp .Or (eb :: es) pos) (tE G W (denOr L (.cons b bs)))) :
    PE X (.BoolOp .Or (ea :: eb :: es) pos) (tE G W (denOr L (.cons a (.cons b bs)))) := (pe_or ha hb).imp fun σ H Q ⟨A, ρ, en, h, S, E, P⟩ => by
  rw [denOr] at P
  · refine ⟨A, ρ, en, h, S, E, P.bind.mono fun x H1 ⟨v, h1, ρ1, E1, S1, R1, P1⟩ => ?_⟩
    cases hv : truth v with
    | none => rw [hv] at P1; exact P1.elim
    | some k =>
      rw [hv] at P1
      refine ⟨k, truth_rep R1 hv, ?_⟩
      cases k with
      | false => simp only [Bool.false_eq_true, if_false]; exact ⟨A, ρ1, en, h1, S1, E.ext E1, P1⟩
      | true => simp only [if_true]; exact P1.here S1 (.d (.bl _))
  · intro h; cases h
end
end L2

set_option Elab.async false
set_option linter.all false
set_option autoImplicit false
set_option maxRecDepth 100000
set_option maxHeartbeats 4000000
/-! Z6: targets, what is walked, loops, comprehensions. -/
namespace L2
open PySem PySem.Spec PyProof.Rows Z

/-! ### the slots -/
theorem EnvR.set_ {G : Gx} {A : Addr → Prop} {ρ : List Addr} {H : Hp} {σ : St} {e e' : Z.Env} (E : EnvR G A ρ H σ e) {i : Nat} {v : Val} {x : V} (r : RepV G A ρ H x v) (h : setE e i v = some e') : EnvR G A ρ H (σ.set i (some x)) e' := by
  unfold setE at h
  split at h
  · rename_i hi
    cases h
    refine ⟨by simp [E.len], fun j w hw => ?_⟩
    by_cases hj : i = j
    · subst hj
      rw [List.getElem?_set_self hi] at hw
      cases hw
      exact ⟨x, by rw [List.getElem?_set_self (by rw [E.len]; exact hi)], r⟩
    · rw [List.getElem?_set_ne hj] at hw
      obtain ⟨y, h1, h2⟩ := E.at_ j w hw
      exact ⟨y, by rw [List.getElem?_set_ne hj]; exact h1, h2⟩
  · cases h
theorem wipeE_len (e : Z.Env) : ∀ vs : List Nat, (wipeE e vs).length = e.length
  | [] => rfl
  | v :: vs => by unfold wipeE; rw [List.length_set, wipeE_len e vs]
theorem EnvR.wipe_ {G : Gx} {A : Addr → Prop} {ρ : List Addr} {H : Hp} {σ : St} {e : Z.Env} (E : EnvR G A ρ H σ e) : ∀ vs : List Nat, EnvR G A ρ H (wipe σ vs) (wipeE e vs)
  | [] => E
  | v :: vs => by
    have ih := E.wipe_ vs
    refine ⟨by unfold wipe wipeE; simp [ih.len], fun j w hw => ?_⟩
    unfold wipeE at hw
    unfold wipe
    by_cases hj : v = j
    · subst hj
      by_cases hl : v < (wipeE e vs).length
      · rw [List.getElem?_set_self hl] at hw; cases hw
      · rw [List.getElem?_eq_none (by simpa using hl)] at hw; cases hw
    · rw [List.getElem?_set_ne hj] at hw
      obtain ⟨y, h1, h2⟩ := ih.at_ j w hw
      exact ⟨y, by rw [List.getElem?_set_ne hj]; exact h1, h2⟩

/-! ### targets -/
/-- what a target asks: v binds to the slots -/
def tG (G : Gx) (t : Ct) : TG := fun v σ H Q => ∃ A ρ h e w e', Sim G A ρ h H ∧ EnvR G A ρ H σ e ∧ RepV G A ρ H v w ∧ bindT t w e = some e' ∧ ∀ σ', EnvR G A ρ H σ' e' → (∀ vs : List Nat, (∀ i ∈ slotsT t, i ∈ vs) → wipe σ' vs = wipe σ vs) → Q σ' H
where slotsT : Ct → List Nat
  | .name i => [i]
  | .pair a b => slotsT a ++ slotsT b
  | .tri a b c => slotsT a ++ (slotsT b ++ slotsT c)
theorem wipe_set {σ : St} {i : Nat} {x : Option V} : ∀ {vs : List Nat}, i ∈ vs → wipe (σ.set i x) vs = wipe σ vs := by
  intro vs
  induction vs with
  | nil => intro h; cases h
  | cons v vs ih =>
    intro h
    unfold wipe
    by_cases hm : i ∈ vs
    · rw [ih hm]
    · have e : i = v := by
        rcases List.mem_cons.mp h with e | e
        · exact e
        · exact absurd e hm
      subst e
      have key : ∀ (ws : List Nat), i ∉ ws → ∀ τ : St, wipe (τ.set i x) ws = (wipe τ ws).set i x := by
        intro ws
        induction ws with
        | nil => intro _ τ; rfl
        | cons w ws ih2 =>
          intro hn τ
          simp only [List.mem_cons, not_or] at hn
          unfold wipe
          rw [ih2 hn.2 τ, List.set_comm _ _ hn.1]
      rw [key vs hm σ, List.set_set]
section
variable {X : Cx} {G : Gx} {pos : Pos}
theorem PG.imp {e : Expr} {t t' : TG} (h : PG X e t) (q : ∀ v σ H Q, t' v σ H Q → t v σ H Q) : PG X e t' := ⟨fun pins s σ H v u Q I r k => h.run pins s σ H v u Q I r (q _ _ _ _ k)⟩
theorem sg_name {i : Nat} {x : Str} (hN : X.N.Nodup) (hi : X.N[i]? = some x) (hx : Loc X.env.scope x) (hf : X.fn x = true ∨ X.env.scope.names.lookup x = some .local) : PG X (.Name x pos) (tG G (.name i)) :=
  (pg_name hN hi hx hf).imp fun v σ H Q ⟨A, ρ, h, e, w, e', S, E, r, b, k⟩ => k _ (E.set_ r b) fun vs hv => wipe_set (hv i (by simp [tG.slotsT]))
/-- targets in a row, data for each -/
def tGs (G : Gx) (ts : List Ct) : TGs := fun vs σ H Q => ∃ A ρ h e ds e', Sim G A ρ h H ∧ EnvR G A ρ H σ e ∧ RpAll G (Av A ρ) H vs ds ∧ bindAll ts ds e = some e' ∧ ∀ σ', EnvR G A ρ H σ' e' → (∀ vs : List Nat, (∀ t ∈ ts, ∀ i ∈ tG.slotsT t, i ∈ vs) → wipe σ' vs = wipe σ vs) → Q σ' H
where bindAll : List Ct → List PyData → Z.Env → Option Z.Env
  | [], [], e => some e
  | t :: ts, d :: ds, e => (bindT t (.d d) e).bind (bindAll ts ds)
  | _, _, _ => none
theorem sgs_nil : PGs X [] (tGs G []) := ⟨fun pins s σ H vs us Q I r ⟨A, ρ, h, e, ds, e', S, E, rp, b, k⟩ => by
  refine pgs_nil.run pins s σ H vs us Q I r ?_
  cases rp with
  | nil => simp only [tGs.bindAll, Option.some.injEq] at b; subst b; exact ⟨rfl, k σ E fun _ _ => rfl⟩
  | cons _ _ => simp [tGs.bindAll] at b⟩
theorem sgs_cons {t : Ct} {ts : List Ct} {e : Expr} {es : List Expr} (h1 : PG X e (tG G t)) (h2 : PGs X es (tGs G ts)) (hs : (assignEach (e :: es) X.env).map (·.2) = assign e X.env :: (assignEach es X.env).map (·.2)) : PGs X (e :: es) (tGs G (t :: ts)) :=
  ⟨fun pins s σ H vs us Q I r ⟨A, ρ, h, en, ds, e', S, E, rp, b, k⟩ => by
    refine (pgs_cons h1 h2 hs).run pins s σ H vs us Q I r ?_
    cases rp with
    | nil => simp [tGs.bindAll] at b
    | cons r1 rt =>
      simp only [tGs.bindAll] at b
      rw [Option.bind_eq_some_iff] at b
      obtain ⟨e1, b1, b2⟩ := b
      refine ⟨_, _, rfl, A, ρ, h, en, _, e1, S, E, .d r1, b1, fun σ1 E1 w1 => ⟨A, ρ, h, e1, _, e', S, E1, rt, b2, fun σ2 E2 w2 => k σ2 E2 fun vs hv => ?_⟩⟩
      exact (w2 vs fun t ht => hv t (List.mem_cons_of_mem _ ht)).trans (w1 vs (hv t List.mem_cons_self))⟩
theorem bindT_pair {a b : Ct} {w : Val} {e e' : Z.Env} (h : bindT (.pair a b) w e = some e') : ∃ ds, w = .d (.tuple ds) ∧ ds.length = 2 ∧ tGs.bindAll [a, b] ds e = some e' := by
  cases w with
  | d d =>
    cases d with
    | tuple ds =>
      match ds, h with
      | [], h => simp [bindT] at h
      | [_], h => simp [bindT] at h
      | [x, y], h =>
        refine ⟨_, rfl, rfl, ?_⟩
        simp only [bindT] at h
        simp only [tGs.bindAll]
        cases hq : bindT a (.d x) e with
        | none => rw [hq] at h; simp at h
        | some e1 => rw [hq] at h; simp only [Option.bind_some] at h ⊢; rw [h]; rfl
      | _ :: _ :: _ :: _, h => simp [bindT] at h
    | _ => simp [bindT] at h
  | _ => simp [bindT] at h
theorem bindT_tri {a b c : Ct} {w : Val} {e e' : Z.Env} (h : bindT (.tri a b c) w e = some e') : ∃ ds, w = .d (.tuple ds) ∧ ds.length = 3 ∧ tGs.bindAll [a, b, c] ds e = some e' := by
  cases w with
  | d d =>
    cases d with
    | tuple ds =>
      match ds, h with
      | [], h => simp [bindT] at h
      | [_], h => simp [bindT] at h
      | [_, _], h => simp [bindT] at h
      | [x, y, z], h =>
        refine ⟨_, rfl, rfl, ?_⟩
        simp only [bindT] at h
        simp only [tGs.bindAll]
        cases hq : bindT a (.d x) e with
        | none => rw [hq] at h; simp at h
        | some e1 =>
          rw [hq] at h; simp only [Option.bind_some] at h ⊢
          cases hq2 : bindT b (.d y) e1 with
          | none => rw [hq2] at h; simp at h
          | some e2 => rw [hq2] at h; simp only [Option.bind_some] at h ⊢; rw [h]; rfl
      | _ :: _ :: _ :: _ :: _, h => simp [bindT] at h
    | _ => simp [bindT] at h
  | _ => simp [bindT] at h
theorem sg_tup {ts : List Ct} {t : Ct} {es : List Expr} {k : Nat} (hK : X.K = G.K) (hc : X.calm = true) (h : PGs X es (tGs G ts)) (hl : (assignEach es X.env).length = ts.length) (hst : (assignEach es X.env).findIdx? (·.1) = none)
    (ht : ∀ {w : Val} {e e' : Z.Env}, bindT t w e = some e' → ∃ ds, w = .d (.tuple ds) ∧ ds.length = ts.length ∧ tGs.bindAll ts ds e = some e') (hs : ∀ t' ∈ ts, ∀ i ∈ tG.slotsT t', i ∈ tG.slotsT t) : PG X (.Tuple es k pos) (tG G t) :=
  (pg_tup hc h hl hst).imp fun v σ H Q ⟨A, ρ, hh, e, w, e', S, E, r, b, kk⟩ => by
    obtain ⟨ds, ew, el, eb⟩ := ht b
    subst ew
    cases r with
    | d r =>
      obtain ⟨p, xs, ev, hp, tp⟩ := r.tuple
      refine ⟨p, xs, ev, hK ▸ hp, by rw [tp.length, el], A, ρ, hh, e, ds, e', S, E, tp, eb, fun σ' E' hw => kk σ' E' fun vs hv => hw vs fun t' h1 i h2 => hv i (hs t' h1 i h2)⟩
end

/-! ### what is walked -/
/-- at each turn the walk gives what its meaning says -/
def ItR (G : Gx) (A : Addr → Prop) (ρ : List Addr) (H : Hp) (J : It) : Src → Prop
  | .items ds => ∀ (B : Addr → Prop) (ρ' : List Addr) (H' : Hp) (h' : MH), (∀ a, A a → B a) → Ext A ρ H ρ' H' → (∀ a, B a → A a ∨ H a = none) → Sim G B ρ' h' H' → (∀ i, i < ds.length → J.go i H' ∧ ∀ x H'', J.yld i H' x H'' → ∃ d, ds[i]? = some d ∧ Ext B ρ' H' ρ' H'' ∧ Sim G B ρ' h' H'' ∧ Rp G (Av B ρ') H'' x d) ∧ J.stop ds.length H'
  | .live n len => ∀ (B : Addr → Prop) (ρ' : List Addr) (H' : Hp) (h' : MH) (vs : List Val), (∀ a, A a → B a) → Ext A ρ H ρ' H' → (∀ a, B a → A a ∨ H a = none) → Sim G B ρ' h' H' → h'[n]? = some (.lst vs) → vs.length = len → (∀ i, i < len → J.go i H' ∧ ∀ x H'', J.yld i H' x H'' → H'' = H' ∧ ∃ v, vs[i]? = some v ∧ RepV G B ρ' H' x v) ∧ J.stop len H'
theorem walk_at {G : Gx} {A : Addr → Prop} {ρ : List Addr} {H : Hp} {J : It} {s : Src} (R : ItR G A ρ H J s) {B : Addr → Prop} {ρ' : List Addr} {H' : Hp} {h' : MH} (hAB : ∀ a, A a → B a) (e : Ext A ρ H ρ' H') (hB : ∀ a, B a → A a ∨ H a = none) (S : Sim G B ρ' h' H') {i : Nat} (hi : i < s.len) {v : Val} (hv : srcAt h' s i = some v) :
    J.go i H' ∧ ∀ x H'', J.yld i H' x H'' → Ext B ρ' H' ρ' H'' ∧ Sim G B ρ' h' H'' ∧ RepV G B ρ' H'' x v := by
  cases s with
  | items ds =>
    have w := R B ρ' H' h' hAB e hB S
    refine ⟨(w.1 i hi).1, fun x H'' y => ?_⟩
    obtain ⟨d, hd, X, S2, r⟩ := (w.1 i hi).2 x H'' y
    simp only [srcAt, hd, Option.map_some, Option.some.injEq] at hv
    subst hv
    exact ⟨X, S2, .d r⟩
  | live n len =>
    simp only [srcAt] at hv
    split at hv
    · rename_i vs hc
      split at hv
      · rename_i hl
        have w := R B ρ' H' h' vs hAB e hB S hc hl
        refine ⟨(w.1 i hi).1, fun x H'' y => ?_⟩
        obtain ⟨eH, v', hv', r⟩ := (w.1 i hi).2 x H'' y
        subst eH
        rw [hv] at hv'; cases hv'
        exact ⟨Ext.refl, S, r⟩
      · cases hv
    · cases hv
theorem walk_stop {G : Gx} {A : Addr → Prop} {ρ : List Addr} {H : Hp} {J : It} {s : Src} (R : ItR G A ρ H J s) {B : Addr → Prop} {ρ' : List Addr} {H' : Hp} {h' : MH} (hAB : ∀ a, A a → B a) (e : Ext A ρ H ρ' H') (hB : ∀ a, B a → A a ∨ H a = none) (S : Sim G B ρ' h' H') (hs : srcEnd h' s = true) : J.stop s.len H' := by
  cases s with
  | items ds => exact (R B ρ' H' h' hAB e hB S).2
  | live n len =>
    simp only [srcEnd] at hs
    split at hs
    · rename_i vs hc
      exact (R B ρ' H' h' vs hAB e hB S hc (by simpa using hs)).2
    · cases hs
def tIs (G : Gx) (W : WX) (d : Z.Env → MH → Res Src) : TI := fun σ H R => ∃ A ρ e h, Sim G A ρ h H ∧ EnvR G A ρ H σ e ∧ Post G A W σ (fun ρ' H' J src => ItR G A ρ' H' J src) ρ H (d e h) R
section
variable {X : Cx} {G : Gx} {W : WX} {L : Lib} {tg : Expr}
theorem PI.imp {iter : Expr} {t t' : TI} (h : PI X tg iter t) (q : ∀ σ H R, t' σ H R → t σ H R) : PI X tg iter t' := ⟨fun pins s σ H R I k => h.run pins s σ H R I (q _ _ _ k)⟩
/-- the iterator over a list, over a tuple -/
theorem iter_l {pins : List (Addr × Obj)} {σ : St} {H : Hp} {s : Shared} {R : It → Hp → Prop} {a : Addr} {xs : List V} {E : Value → Shared → Prop} (I : Inv X pins σ H s) (hq : SqL X.K H a xs) (q : R (Itl X.K a) H) :
    wpAny (model X.prog X.w) X.A (pyIter (.ref a)) (PIE X pins σ tg R) E s := by
  have ⟨its, rv, p, hz⟩ := I.list hq
  refine wpAny_pyIter_list p.isList ?_
  refine ⟨_, [s.heap.objs.size], _, _, H, rfl, I.kept (t' := s.toks) fun b o e => Heap.get?_push_of_some _ e, turn_list a s.heap.objs.size, ⟨_, Heap.get?_push_size _ rfl, rfl, rfl⟩, fun b hb => ?_, q⟩
  rw [List.mem_singleton.mp hb]
  exact I.fpOk (Nat.le_refl _) I.fresh
theorem iter_t {pins : List (Addr × Obj)} {σ : St} {H : Hp} {s : Shared} {R : It → Hp → Prop} {a : Addr} {xs : List V} {E : Value → Shared → Prop} (I : Inv X pins σ H s) (hq : SqT X.K H a xs) (q : R (Itt X.K a) H) :
    wpAny (model X.prog X.w) X.A (pyIter (.ref a)) (PIE X pins σ tg R) E s := by
  have ⟨its, rv, p, hz⟩ := I.tuple hq
  refine wpAny_pyIter_tuple (show s.heap.IsTuple a its.toArray from p) ?_
  refine ⟨_, [s.heap.objs.size], _, _, H, rfl, I.kept (t' := s.toks) fun b o e => Heap.get?_push_of_some _ e, turn_tuple a s.heap.objs.size, ⟨_, Heap.get?_push_size _ rfl, rfl, rfl⟩, fun b hb => ?_, q⟩
  rw [List.mem_singleton.mp hb]
  exact I.fpOk (Nat.le_refl _) I.fresh
theorem avB {A B : Addr → Prop} {ρ ρ' : List Addr} {H H' : Hp} (e : Ext A ρ H ρ' H') (hB : ∀ a, B a → A a ∨ H a = none) : Kp (Av A ρ) (Av B ρ') H H' := ⟨fun a o h n => by
  have ⟨h1, h2⟩ := e.av.kp a o h n
  refine ⟨h1, fun z => ?_⟩
  rcases z with z | z
  · rcases hB a z with z | z
    · exact n (.inl z)
    · rw [h] at z; cases z
  · exact h2 (.inr z), e.frzs⟩
/-- a list stays what it is -/
theorem lst_keeps {A : Addr → Prop} {ρ : List Addr} {H : Hp} {v : V} {ds : List PyData} (r : Rp G (Av A ρ) H v (.list ds)) : ∃ a xs, v = .ref a ∧ SqL G.K H a xs ∧ RpAll G (Av A ρ) H xs ds ∧ ∀ (B : Addr → Prop) (ρ' : List Addr) (H' : Hp), Ext A ρ H ρ' H' → (∀ a, B a → A a ∨ H a = none) → SqL G.K H' a xs := by
  cases r with
  | @lst a xs _ hp na t => exact ⟨a, xs, rfl, .inl (.inl hp), t, fun B ρ' H' e hB => .inl (.inl ((avB (B := B) e hB).at_ hp na (by intro φ e; cases e)).1)⟩
  | @lstF a xs _ hp t => exact ⟨a, xs, rfl, .inl (.inr hp), t, fun B ρ' H' e hB => .inl (.inr (let ⟨ob, q⟩ := hp; ⟨ob, e.frzs _ _ _ q⟩))⟩
end
end L2

set_option Elab.async false
set_option linter.all false
set_option autoImplicit false
set_option maxRecDepth 100000
set_option maxHeartbeats 4000000
/-! Z7: enumerate of a tuple; what is walked, by its meaning. -/
namespace PySem
open Sem (wp)
open AutoSeq1 (wpAny_loadPart')
theorem z_enum_new {t : Addr} {items : Array Value} {ot : Obj} (hc : ot.cls = .type "tuple") (n : Nat) (hd : ot.data = .seq items n) :
    Meets (Builtin.«enumerate.__new__» ⟨[.type "enumerate", .ref t], []⟩) (fun _ R s => s.heap.get? t = some ot ∧
      R (.ok (.ret (.ref (s.heap.objs.size + 1))))
        { s with heap := (s.heap.push { cls := .type "tuple_iterator", data := .fields #[.ref t, .int 0 0] }).push { cls := .type "enumerate", data := .fields #[.none, .bool false, .ref s.heap.objs.size, rawInt 0, .none, .none] } }) :=
  .of_wp fun prog w A R s h => by
    obtain ⟨hp, g, d, tk, os⟩ := s
    obtain ⟨ht, h⟩ := h
    obtain ⟨cls, dct, dat, sl⟩ := ot
    simp only at hc hd
    subst hc hd
    have hsub := sub_enumerate
    have hz : (hp.push { cls := .type "tuple_iterator", data := .fields #[.ref t, .int 0 0] }).objs.size = hp.objs.size + 1 := Heap.size_push ..
    have hT : Heap.IsTuple (Shared.heap ⟨hp, g, d, tk, os⟩) t items := ⟨_, ht, rfl, n, rfl⟩
    simp only [← hz] at h
    wp_walk using wpAny_loadPart' ht
    refine wpAny_stack_any fun st => wpAny_pure ?_
    split
    · rename_i c _ _ _ _ _
      cases (c == Value.type "enumerate")
      · wp_walk using wpAny_loadPart' ht, wpAny_pyIter_tuple hT
        exact ⟨_, rfl, h⟩
      · wp_walk using wpAny_loadPart' ht, wpAny_pyIter_tuple hT
        exact ⟨_, rfl, h⟩
    · wp_walk using wpAny_loadPart' ht, wpAny_pyIter_tuple hT
      exact ⟨_, rfl, h⟩
theorem z_call_enum {prog : Program} {w : World} {A : Around} {E : Value → Shared → Prop} {s : Shared} {t : Addr} {items : Array Value} {Q : Value → Shared → Prop} (hT : s.heap.IsTuple t items)
    (h : ∀ h', IsEnum h' (s.heap.objs.size + 1) s.heap.objs.size 0 .none → h'.IsTupleIter s.heap.objs.size t 0 → (∀ b o, s.heap.get? b = some o → h'.get? b = some o) → Q (.ref (s.heap.objs.size + 1)) { s with heap := h' }) :
    wpAny (model prog w) A (call (.type "enumerate") [.ref t]) Q E s := by
  obtain ⟨ot, ht, hc, n, hd⟩ := hT
  refine callType_new F.called_enumerate (by decide) (F.typeCall_enumerate_1 _) (F.newCall_enumerate_1 _) (fun obj => F.args_object_init_2 obj _) F.entry_enumerate_new (z_enum_new hc n hd) ⟨ht, ?_⟩
  have hz : (s.heap.push { cls := .type "tuple_iterator", data := .fields #[.ref t, .int 0 0] }).objs.size = s.heap.objs.size + 1 := Heap.size_push ..
  have he : IsEnum ((s.heap.push { cls := .type "tuple_iterator", data := .fields #[.ref t, .int 0 0] }).push { cls := .type "enumerate", data := .fields #[.none, .bool false, .ref s.heap.objs.size, rawInt 0, .none, .none] }) (s.heap.objs.size + 1) s.heap.objs.size 0 .none := by
    have q := Heap.get?_push_size (s.heap.push { cls := .type "tuple_iterator", data := .fields #[.ref t, .int 0 0] }) (o := { cls := .type "enumerate", data := .fields #[.none, .bool false, .ref s.heap.objs.size, rawInt 0, .none, .none] }) rfl
    rw [hz] at q
    exact q
  exact ⟨⟨_, he, rfl⟩, h _ he ⟨_, Heap.get?_push_of_some _ (Heap.get?_push_size _ rfl), rfl, rfl⟩ fun b o x => Heap.get?_push_of_some _ (Heap.get?_push_of_some _ x)⟩
end PySem

set_option Elab.async false
set_option linter.all false
set_option autoImplicit false
set_option maxRecDepth 100000
set_option maxHeartbeats 4000000
namespace L2
open PySem PySem.Spec PyProof.Rows Z
/-- enumerate(tuple) -/
def IteT (K : PySem.W.Frag) (a : Addr) : It :=
  ⟨fun i H => ∃ (xs : List V) (x : V), SqT K H a xs ∧ xs[i]? = some x, fun i H v H' => ∃ T x, v = .ref T ∧ H T = none ∧ H' = upd H T (.tup [.int (i : Nat), x]) ∧ ∀ xs, SqT K H a xs → xs[i]? = some x, fun i H => ∃ xs : List V, SqT K H a xs ∧ xs.length = i⟩
theorem turn_enumT {P : Program} {w : World} {K : PySem.W.Frag} {elts : List Expr} {kk : Nat} {tpos : Pos} (a e it : Addr) :
    Turn P w K (.Tuple elts kk tpos) (IteT K a) [e, it] e (fun i h => (∃ old, IsEnum h e it ((i : Nat) : Int) old) ∧ h.IsTupleIter it a i ∧ e ≠ it) where
  mem := by simp
  obj := fun i h st b hb => by
    obtain ⟨⟨old, he⟩, ⟨o, ho, hc, hd⟩, _⟩ := st
    rcases List.mem_cons.mp hb with z | z
    · rw [z]; exact ⟨_, he, fun v q => nomatch q⟩
    · rw [List.mem_singleton.mp z]; exact ⟨o, ho, fun v q => by rw [hd] at q; cases q⟩
  keep := fun i h h' st k => let ⟨⟨old, he⟩, hi, hne⟩ := st; ⟨⟨old, k e (by simp) _ he⟩, hi.at fun o q => k it (by simp) o q, hne⟩
  item := by
    intro X hP hw hK hc i pins s σ H E I hf st hg
    subst hP hw hK
    obtain ⟨⟨old, he⟩, hit, hne⟩ := st
    obtain ⟨xs, x, hq, hx⟩ := hg
    obtain ⟨its, rv, p, hz⟩ := I.tuple hq
    obtain ⟨u, hu, ru⟩ := rv.get hx
    obtain ⟨hil', _⟩ := List.getElem?_eq_some_iff.mp hu
    have hel : e < s.heap.objs.size := Heap.lt_size he
    have hil : it < s.heap.objs.size := by obtain ⟨_, q, _⟩ := hit; exact Heap.lt_size q
    have hai : a ≠ it := fun z => by
      obtain ⟨o1, q1, c1, _⟩ := p
      obtain ⟨o2, q2, c2, _⟩ := hit
      rw [z, q2] at q1; cases q1
      rw [c1] at c2; revert c2; decide
    have hea : e ≠ a := fun z => by
      obtain ⟨o1, q1, c1, _⟩ := p
      rw [← z] at q1
      have q2 := q1.symm.trans he
      cases q2
      have c2 : Value.type "enumerate" = Value.type "tuple" := c1
      revert c2; decide
    have dr := Draws.tuple (prog := X.prog) (w := X.w) (A := X.A.in1) (I.ok.hd hc) it a hai its.toArray
    refine wpAny_pyNext_enum_itemD dr he ⟨hit, p⟩ (by simpa using hil') hne (by simp [hne, hea]) fun y h' tk hy ho hst hT hsz hk => ?_
    have ey : y = u := by
      rw [List.getElem?_toArray, hu] at hy
      exact (Option.some.inj hy).symm
    subst ey
    refine ⟨_, rfl, wpAny_letOwnedTupleGo_enum (s := { s with heap := h', toks := tk + 1 }) ho fun h'' he' sb => ?_⟩
    have hT2 : h''.get? s.heap.objs.size = some { cls := .type "tuple", data := .seq #[.int i tk, y] } := (sb.2 _ (Nat.ne_of_gt hel)).trans hT
    have new : ObjOk X.prog X.w (upd H s.heap.objs.size (.tup [.int (i : Nat), x])) h'' s.heap.objs.size (.tup [.int (i : Nat), x]) :=
      ⟨by show 2 ≤ sizeLine; decide, [.int i tk, y], .cons ⟨_, rfl⟩ (.cons ru .nil), ⟨_, hT2, rfl, _, rfl⟩⟩
    have I1 := I.turnedNew (t' := tk + 1) (h' := h'') (ch := [e, it]) (fun b ob hb q => by
      simp only [List.mem_cons, List.not_mem_nil, or_false, not_or] at hb
      exact (sb.2 b hb.1).trans (hk b ob hb.1 hb.2 q)) hf (Nat.le_refl _) new
    refine ⟨.ref s.heap.objs.size, _, I1, rfl, ⟨_, x, rfl, I.fresh, rfl, fun ys hy => by rw [I.tuple_inj hy hq]; exact hx⟩, ⟨⟨y, ?_⟩, hst.1.at fun o q => (sb.2 it (Ne.symm hne)).trans q, hne⟩, fun b hb => ?_⟩
    · have e1 : ((i + 1 : Nat) : Int) = (i : Int) + 1 := by omega
      rw [e1]; exact he'
    · have hb' : b < s.heap.objs.size := by
        rcases List.mem_cons.mp hb with z | z
        · rw [z]; exact hel
        · rw [List.mem_singleton.mp z]; exact hil
      rw [upd_ne (Nat.ne_of_lt hb')]
      exact (hf b hb).1
  done := by
    intro X hP hw hK hc i pins s σ H E I hf st hg
    subst hP hw hK
    obtain ⟨⟨old, he⟩, hit, hne⟩ := st
    obtain ⟨xs, hq, hx⟩ := hg
    obtain ⟨its, rv, p, hz⟩ := I.tuple hq
    obtain ⟨f0, f1, f2, f3, f4, f5⟩ := hf it (by simp)
    have hai : a ≠ it := fun z => by
      obtain ⟨o1, q1, c1, _⟩ := p
      obtain ⟨o2, q2, c2, _⟩ := hit
      rw [z, q2] at q1; cases q1
      rw [c1] at c2; revert c2; decide
    have hl : i = its.toArray.size := by rw [List.size_toArray, ← rv.length, hx]
    have dr := Draws.tuple (prog := X.prog) (w := X.w) (A := X.A.in1) (I.ok.hd hc) it a hai its.toArray
    exact wpAny_pyNext_enum_endD dr he ⟨hl ▸ hit, p⟩ fun h' eb => ⟨rfl, I.turned (t' := s.toks) (fun b o hb q => eb b o hb q) f0 f1 f3 f4 f5⟩
  self := fun A i s Q E st h => let ⟨⟨_, he⟩, _⟩ := st; wpAny_pyIter_enum he h
section
variable {X : Cx} {G : Gx} {W : WX} {L : Lib} {tg : Expr}
theorem itr_tup {A : Addr → Prop} {ρ : List Addr} {H : Hp} {v : V} {ds : List PyData} (r : Rp G (Av A ρ) H v (.tuple ds)) : ∃ a xs, v = .ref a ∧ SqT G.K H a xs ∧ ItR G A ρ H (Itt G.K a) (.items ds) ∧ ItR G A ρ H (IteT G.K a) (.items (enumD ds)) := by
  have key : ∃ a xs, v = .ref a ∧ SqT G.K H a xs ∧ RpAll G (Av A ρ) H xs ds ∧ ∀ (B : Addr → Prop) (ρ' : List Addr) (H' : Hp), Ext A ρ H ρ' H' → (∀ a, B a → A a ∨ H a = none) → SqT G.K H' a xs := by
    cases r with
    | tup hp na t => exact ⟨_, _, rfl, .inl (.inl hp), t, fun B ρ' H' e hB => .inl (.inl ((avB (B := B) e hB).at_ hp na (by intro φ e; cases e)).1)⟩
    | tupK hk t => exact ⟨_, _, rfl, .inr hk, t, fun _ _ _ _ _ => .inr hk⟩
  obtain ⟨a, xs, ev, hq, t, keep⟩ := key
  refine ⟨a, xs, ev, hq, ?_, ?_⟩
  · intro B ρ' H' h' hAB e hB S
    have hq' := keep B ρ' H' e hB
    have t' := t.keep (avB e hB)
    refine ⟨fun i hi => ?_, ⟨xs, hq', by rw [t.length]; exact Nat.le_refl _⟩⟩
    obtain ⟨v, hv, rv⟩ := t'.get (List.getElem?_eq_getElem hi)
    refine ⟨⟨xs, v, hq', hv⟩, fun x H'' y => ?_⟩
    obtain ⟨e1, y⟩ := y
    subst e1
    have hx := y xs hq'
    rw [hv] at hx; cases hx
    exact ⟨_, List.getElem?_eq_getElem hi, Ext.refl, S, rv⟩
  · intro B ρ' H' h' hAB e hB S
    have hq' := keep B ρ' H' e hB
    have t' := t.keep (avB e hB)
    have hlen : (enumD ds).length = ds.length := by unfold enumD; simp
    rw [hlen]
    refine ⟨fun i hi => ?_, ⟨xs, hq', t.length⟩⟩
    obtain ⟨v, hv, rv⟩ := t'.get (List.getElem?_eq_getElem hi)
    refine ⟨⟨xs, v, hq', hv⟩, fun x H'' y => ?_⟩
    obtain ⟨T, z, ex, hT, eH, y⟩ := y
    subst ex eH
    have hx := y xs hq'
    rw [hv] at hx; cases hx
    refine ⟨Z.pairD i ds[i], by unfold enumD; simp [hi, Z.pairD], Ext.laid hT, S.laid hT, .tup upd_same (S.notAv hT) (.cons (.int _) (.cons (rv.keep (Ext.laid hT).av) .nil))⟩
theorem itr_lst2 {A : Addr → Prop} {ρ : List Addr} {H : Hp} {v : V} {ds : List PyData} (r : Rp G (Av A ρ) H v (.list ds)) : ∃ a xs, v = .ref a ∧ SqL G.K H a xs ∧ ItR G A ρ H (Itl G.K a) (.items ds) ∧ ItR G A ρ H (Ite G.K a) (.items (enumD ds)) := by
  obtain ⟨a, xs, ev, hq, t, keep⟩ := lst_keeps r
  refine ⟨a, xs, ev, hq, ?_, ?_⟩
  · intro B ρ' H' h' hAB e hB S
    have hp' := keep B ρ' H' e hB
    have t' := t.keep (avB (ρ' := ρ') (H' := H') e hB)
    refine ⟨fun i hi => ?_, ⟨xs, hp', by rw [t.length]; exact Nat.le_refl _⟩⟩
    obtain ⟨v, hv, rv⟩ := t'.get (List.getElem?_eq_getElem hi)
    refine ⟨⟨xs, v, hp', hv⟩, fun x H'' y => ?_⟩
    obtain ⟨e1, y⟩ := y
    subst e1
    have hx := y xs hp'
    rw [hv] at hx; cases hx
    exact ⟨_, List.getElem?_eq_getElem hi, Ext.refl, S, rv⟩
  · intro B ρ' H' h' hAB e hB S
    have hp' := keep B ρ' H' e hB
    have t' := t.keep (avB (ρ' := ρ') (H' := H') e hB)
    have hlen : (enumD ds).length = ds.length := by unfold enumD; simp
    rw [hlen]
    refine ⟨fun i hi => ?_, ⟨xs, hp', by rw [t.length]; exact Nat.le_refl _⟩⟩
    obtain ⟨v, hv, rv⟩ := t'.get (List.getElem?_eq_getElem hi)
    refine ⟨⟨xs, v, hp', hv⟩, fun x H'' y => ?_⟩
    obtain ⟨T, z, ex, hT, eH, y⟩ := y
    subst ex eH
    have hx := y xs hp'
    rw [hv] at hx; cases hx
    refine ⟨Z.pairD i ds[i], by unfold enumD; simp [hi, Z.pairD], Ext.laid hT, S.laid hT, .tup upd_same (S.notAv hT) (.cons (.int _) (.cons (rv.keep (Ext.laid hT).av) .nil))⟩
theorem itr_range {A : Addr → Prop} {ρ : List Addr} {H : Hp} (i j : Int) : ItR G A ρ H (Itr i (j - i).toNat) (.items (rangeD i j)) := by
  intro B ρ' H' h' hAB e hB S
  have hl : (rangeD i j).length = (j - i).toNat := by unfold rangeD; simp
  rw [hl]
  refine ⟨fun k hk => ⟨hk, fun x H'' y => ?_⟩, Nat.le_refl _⟩
  obtain ⟨e1, e2⟩ := y
  subst e1 e2
  exact ⟨_, by unfold rangeD; simp [hk], Ext.refl, S, .int _⟩
theorem itr_live {A : Addr → Prop} {ρ : List Addr} {H : Hp} {n : Nat} {a : Addr} (r : ρ[n]? = some a) (len : Nat) : ItR G A ρ H (Itl G.K a) (.live n len) := by
  intro B ρ' H' h' vs hAB e hB S hc hl
  have q := S.cell _ _ _ hc (e.pre _ _ r)
  cases q with
  | @lst xs _ q rv =>
    have hlen := Paired.length rv
    refine ⟨fun i hi => ?_, ⟨xs, .inl (.inl q), by omega⟩⟩
    have hi' : i < vs.length := by omega
    obtain ⟨v, hv, rvv⟩ := paired_get2 rv (List.getElem?_eq_getElem hi')
    refine ⟨⟨xs, v, .inl (.inl q), hv⟩, fun x H'' y => ?_⟩
    obtain ⟨e1, y⟩ := y
    subst e1
    have hx := y xs (.inl (.inl q))
    rw [hv] at hx; cases hx
    exact ⟨rfl, _, List.getElem?_eq_getElem hi', rvv⟩
end
/-! ### a dict's keys walked -/
section
variable {X : Cx} {G : Gx} {W : WX} {L : Lib} {tg : Expr}
/-- the locked dict's keys -/
def ItkD (w : World) (d : Addr) (o : Obj) (xs : List DE) : It :=
  ⟨fun i H => H d = some (.frz o (DX w d xs)) ∧ i < xs.length, fun i H v H' => H' = H ∧ ∃ x, xs[i]? = some x ∧ v = x.2.1, fun i H => H d = some (.frz o (DX w d xs)) ∧ xs.length ≤ i⟩
theorem Inv.frzX {pins : List (Addr × Obj)} {σ : St} {H : Hp} {s : Shared} {w : World} {d : Addr} {o : Obj} {xs : List DE} (I : Inv X pins σ H s) (h : H d = some (.frz o (DX w d xs))) :
    (d == sysModules) = false ∧ s.heap.get? d = some o ∧ o.ExactDict ∧ ∃ (es : Array DictEntry) (ep : Nat), o.data = .dict es ep ∧ es.size = xs.length ∧ ∀ (i : Nat) (x : DE), xs[i]? = some x → ∃ en, es[i]? = some en ∧ RelV x.2.1 en.key := by
  obtain ⟨hd, ⟨hz, hs, _, ys, pr, o', es, ep, ho, hx, hdt, he⟩, _⟩ := I.hok d _ h
  rw [hd] at ho
  cases ho
  refine ⟨hs, hd, hx, es, ep, hdt, ?_, fun i x hx2 => ?_⟩
  · rw [← Array.length_toList, he, List.length_map, Paired.length pr]
  · have hi : i < ys.length := by rw [← Paired.length pr]; exact (List.getElem?_eq_some_iff.mp hx2).1
    obtain ⟨x', h1, h2⟩ := drel_get pr (List.getElem?_eq_getElem hi)
    rw [hx2] at h1; cases h1
    exact ⟨entN w ys[i], by rw [← Array.getElem?_toList, he, List.getElem?_map, List.getElem?_eq_getElem hi]; rfl, h2.2.1⟩
theorem dict_ep' {o : Obj} {es es' : Array DictEntry} {ep ep' : Nat} (h : o.data = .dict es ep) (h' : o.data = .dict es' ep') : es' = es ∧ ep' = ep := by
  rw [h] at h'
  cases h'
  exact ⟨rfl, rfl⟩
theorem turn_keysD {P : Program} {w wd : World} {K : PySem.W.Frag} {d : Addr} {o : Obj} {es : Array DictEntry} {ep : Nat} {xs : List DE} (it : Addr) (hod : o.data = .dict es ep) : Turn P w K tg (ItkD wd d o xs) [it] it (fun i h => h.IsKeyIter it d i xs.length ep) where
  mem := by simp
  obj := fun i h st b hb => by
    have e : b = it := by simpa using hb
    subst e
    obtain ⟨oi, e, c, dd⟩ := st
    exact ⟨oi, e, fun v z => by rw [dd] at z; cases z⟩
  keep := fun i h h' st k => st.at fun oi e => k it (by simp) oi e
  item := by
    intro X hP hw hK hc i pins s σ H E I hf st hg
    subst hP hw hK
    obtain ⟨hd, hi⟩ := hg
    obtain ⟨f0, f1, f2, f3, f4, f5⟩ := hf it (by simp)
    obtain ⟨hs, hgd, hx, es', ep', hdt, hsz, ent⟩ := Inv.frzX I hd
    obtain ⟨rfl, rfl⟩ := dict_ep' hod hdt
    have hkv : xs[i]? = some xs[i] := List.getElem?_eq_getElem hi
    obtain ⟨en, hen, hkey⟩ := ent i _ hkv
    refine next_key_item st hgd hdt hsz hen fun h' st' sb => ?_
    have I1 : Inv X pins σ H { s with heap := h' } := I.turned (t' := s.toks) (fun b ob hb e => (sb.2 b hb).trans e) f0 f1 f3 f4 f5
    obtain ⟨oi, e, c, dd⟩ := id st'
    exact ⟨en.key, rfl, go_of (s := { s with heap := h' }) e c dd (by decide) ⟨_, H, I1, hkey, ⟨rfl, _, hkv, rfl⟩, st', fun b hb => (hf b hb).1⟩⟩
  done := by
    intro X hP hw hK hc i pins s σ H E I hf st hg
    subst hP hw hK
    obtain ⟨hd, hi⟩ := hg
    obtain ⟨f0, f1, f2, f3, f4, f5⟩ := hf it (by simp)
    obtain ⟨hs, hgd, hx, es', ep', hdt, hsz, ent⟩ := Inv.frzX I hd
    obtain ⟨rfl, rfl⟩ := dict_ep' hod hdt
    exact next_key_end (I.ok.hd hc) st hgd hdt hsz hi fun h' eb => ⟨rfl, I.turned (t' := s.toks) (fun b ob hb e => eb b ob hb e) f0 f1 f3 f4 f5⟩
  self := fun A i s Q E st h => by
    refine wpAny_pyIter_slot st.typeIs F.slot_dict_keyiterator_iter (wpAny_call_entry F.slot_dict_keyiterator_iter st.typeIs F.entry_dict_keyiterator_iter ?_ (F.args_dict_keyiterator_iter_1 _))
    show wpAny _ _ (ret (.ref it)) _ _ s
    exact wpAny_pure ⟨_, rfl, "dict_keyiterator", _, st.typeIs, F.slot_dict_keyiterator_next.lookup, h⟩
theorem itr_keys {β : Type} {Rv : V → β → Prop} {A : Addr → Prop} {ρ : List Addr} {H : Hp} {d : Addr} {o : Obj} {xs : List DE} {kvs : List (PyData × β)} (hd : H d = some (.frz o (DX G.w d xs))) (dp : DP G (Av A ρ) H Rv xs kvs) : ItR G A ρ H (ItkD G.w d o xs) (.items (kvs.map (·.1))) := by
  intro B ρ' H' h' hAB e hB S
  have k := avB (ρ' := ρ') (H' := H') e hB
  have hd' := e.frzs _ _ _ hd
  have t' := (dp_keys dp).keep k
  have hl : (kvs.map (·.1)).length = xs.length := by rw [List.length_map, Paired.length dp]
  rw [hl]
  refine ⟨fun i hi => ⟨⟨hd', hi⟩, fun x H'' y => ?_⟩, ⟨hd', Nat.le_refl _⟩⟩
  obtain ⟨e1, z, hz, ez⟩ := y
  subst e1 ez
  obtain ⟨kd, h1, h2⟩ := t'.get' (i := i) (v := z.2.1) (by rw [List.getElem?_map, hz]; rfl)
  exact ⟨kd, h1, Ext.refl, S, h2⟩
theorem Ext.lock {A : Addr → Prop} {ρ : List Addr} {H : Hp} {a : Addr} {φ : Heap → Prop} {od : Obj} (h : H a = some (.ext φ)) (n : ¬ A a ∨ a ∈ ρ) : Ext A ρ H ρ (upd H a (.frz od (.ext φ))) :=
  ⟨fun _ _ h => h, fun _ h => .inl h, fun b u e m => by
    by_cases hb : b = a
    · subst hb
      rw [h] at e; cases e
      rcases n with n | n
      · exact .inr ⟨n, ⟨φ, rfl⟩, od, upd_same⟩
      · exact absurd n m
    · exact .inl (by rw [upd_ne hb]; exact e), fun b e => by
    by_cases hb : b = a
    · rw [hb, upd_same]; simp
    · rw [upd_ne hb]; exact e, fun b ob u e => by
    by_cases hb : b = a
    · rw [hb, h] at e; cases e
    · rw [upd_ne hb]; exact e⟩
theorem Sim.lockD {A : Addr → Prop} {ρ : List Addr} {h : MH} {H : Hp} {a : Addr} {φ : Heap → Prop} {od : Obj} (S : Sim G A ρ h H) (e : H a = some (.ext φ)) (n : ¬ Av A ρ a) : Sim G A ρ h (upd H a (.frz od (.ext φ))) := by
  have E : Ext A ρ H ρ (upd H a (.frz od (.ext φ))) := Ext.lock e (.inl fun z => n (.inl z))
  exact ⟨S.len, S.nd, fun b z => ⟨E.live b (S.far b z).1, (S.far b z).2⟩, fun m c b hc hb =>
    (S.cell m c b hc hb).mv (fun o q => by rw [upd_ne (fun z => n (.inr (by rw [← z]; exact List.mem_of_getElem? hb)))]; exact q) (fun r => r.keep E.av) fun r => r.ext E⟩
theorem set_same {α : Type} {l : List α} {n : Nat} {x : α} (h : l[n]? = some x) : l.set n x = l := by
  apply List.ext_getElem?
  intro i
  by_cases hi : n = i
  · subst hi
    rw [List.getElem?_set_self (List.getElem?_eq_some_iff.mp h).1, h]
  · rw [List.getElem?_set_ne hi]
/-- the iterator over a dict's keys: it is locked from here on -/
theorem iter_d {pins : List (Addr × Obj)} {σ : St} {H : Hp} {s : Shared} {R : It → Hp → Prop} {a : Addr} {xs : List DE} {w : World} {o : Obj} {E : Value → Shared → Prop} (I : Inv X pins σ H s) (hd : H a = some (.frz o (DX w a xs))) (q : R (ItkD w a o xs) H) :
    wpAny (model X.prog X.w) X.A (pyIter (.ref a)) (PIE X pins σ tg R) E s := by
  obtain ⟨hs, hgd, hx, es, ep, hdt, hsz, ent⟩ := Inv.frzX I hd
  refine iter_keys hs hgd hx hdt (pi_one (tk := s.toks) I _ (turn_keysD _ hdt) ⟨_, Heap.get?_push_size _ rfl, rfl, ?_⟩ q)
  rw [hsz] <;> rfl
theorem iter_dict {β : Type} {Rv : Hp → V → β → Prop} {pins : List (Addr × Obj)} {σ : St} {H : Hp} {s : Shared} {R : It → Hp → Prop} {A : Addr → Prop} {ρ : List Addr} {h' : MH} {a : Addr} {xs : List DE} {kvs : List (PyData × β)} {E : Value → Shared → Prop} (I : Inv X pins σ H s) (hd : Rd H a (DX G.w a xs))
    (dp : DP G (Av A ρ) H (Rv H) xs kvs) (rv : ∀ H', Ext A ρ H ρ H' → ∀ x v, Rv H x v → Rv H' x v) (n : ¬ A a ∨ a ∈ ρ) (S : ∀ od, H a = some (DX G.w a xs) → Sim G A ρ h' (upd H a (.frz od (DX G.w a xs)))) (S2 : (∃ od, H a = some (.frz od (DX G.w a xs))) → Sim G A ρ h' H)
    (q : Post G A W σ (fun ρ' H' J src => ItR G A ρ' H' J src) ρ H (.ok (.items (kvs.map (·.1))) h') R) : wpAny (model X.prog X.w) X.A (pyIter (.ref a)) (PIE X pins σ tg R) E s := by
  rcases hd with hd | ⟨od, hd⟩
  · obtain ⟨od, I2⟩ := I.lock hd (show Mut (some (DX G.w a xs)) from trivial)
    have EX : Ext A ρ H ρ (upd H a (.frz od (DX G.w a xs))) := Ext.lock hd n
    refine iter_d I2 upd_same (q ρ _ _ EX (S od hd) (itr_keys (Rv := Rv (upd H a (.frz od (DX G.w a xs)))) upd_same ?_))
    exact Paired.mapP dp fun _ _ z => ⟨z.1, z.2.1.keep EX.av, rv _ EX _ _ z.2.2⟩
  · exact iter_d I hd (q ρ H _ Ext.refl (S2 ⟨od, hd⟩) (itr_keys hd dp))
end
section
variable {X : Cx} {G : Gx} {W : WX} {L : Lib} {tg : Expr}
/-- for .. in e -/
theorem si_seq (hK : X.K = G.K) {a : Ce} {ea : Expr} (ha : SE X G W L a ea) : PI X tg ea (tIs G W (denI L (.seq a))) := ⟨fun pins s σ H R I ⟨A, ρ, en, h, S, E, P⟩ => by
  simp only [denI] at P
  refine thn (ha.run pins s σ H _ I ⟨A, ρ, en, h, S, E, P.bind⟩) fun v s1 ⟨x, H1, I1, r1, u, h1, ρ1, E1, S1, R1, P1⟩ => ?_
  obtain ⟨src, e, P2⟩ := P1.lift
  cases R1 with
  | @d _ d R1 =>
    simp only [seqV, Option.map_eq_some_iff] at e
    obtain ⟨ds, e1, e2⟩ := e
    subst e2
    cases d <;> first | (simp [seqOf] at e1; done) | skip
    · simp only [seqOf, Option.some.injEq] at e1; subst e1
      obtain ⟨p, xs, ex, hq, q1, _⟩ := itr_lst2 R1
      subst ex; cases r1
      exact iter_l I1 (hK ▸ hq) (hK ▸ P2.here S1 q1)
    · simp only [seqOf, Option.some.injEq] at e1; subst e1
      obtain ⟨p, xs, ex, hq, q1, _⟩ := itr_tup R1
      subst ex; cases r1
      exact iter_t I1 (hK ▸ hq) (hK ▸ P2.here S1 q1)
    · simp only [seqOf, Option.some.injEq] at e1; subst e1
      cases R1 with
      | dct hd na t =>
        cases r1
        exact iter_dict (Rv := fun H' => Rp G (Av A ρ1) H') I1 hd t.dp (fun H' EX x v z => z.keep EX.av) (.inl fun z => na (.inl z)) (fun od hd' => S1.lockD hd' na) (fun _ => S1) P2
  | @ref n p R1 =>
    simp only [seqV] at e
    split at e
    · rename_i vs hc
      cases e
      cases r1
      have q := S1.cell _ _ _ hc R1
      cases q with
      | lst q rv =>
        have eh : lockV h1 (.ref n) = h1 := by simp [lockV, hc]
        rw [eh] at P2
        exact iter_l I1 (.inl (.inl q)) (hK ▸ P2.here S1 (itr_live R1 _))
    · rename_i lk kvs hc
      cases e
      cases r1
      have eh : lockV h1 (.ref n) = h1.set n (.dict true kvs) := by simp [lockV, hc]
      rw [eh] at P2
      have mem := List.mem_of_getElem? R1
      cases S1.cell _ _ _ hc R1 with
      | @dict _ xs _ q rv =>
        refine iter_dict (Rv := fun H' => RepV G A ρ1 H') I1 q.rd rv (fun H' EX x v z => z.ext EX) (.inr mem) (fun od hd' => S1.putC R1 (fun ob u z => by rw [hd'] at z; cases z) ?_) (fun ⟨od, hd'⟩ => ?_) P2
        · have EX : Ext A ρ1 H1 ρ1 (upd H1 p (.frz od (DX G.w p xs))) := Ext.lock hd' (.inr mem)
          exact .dict (lk := true) ⟨od, upd_same⟩ (Paired.mapP rv fun _ _ z => ⟨z.1, z.2.1.keep EX.av, z.2.2.ext EX⟩)
        · cases lk with
          | true => rw [set_same hc]; exact S1
          | false => rw [show H1 p = some (DX G.w p xs) from q] at hd'; cases hd'
    · cases e
  | scr _ => simp [seqV] at e
  | exc _ _ => simp [seqV] at e
  | dic _ _ _ _ => simp [seqV] at e⟩
theorem si_range1 {a : Ce} {ea : Expr} {p pos : Pos} (hp : plainE ea = true) (hg : Gl X "range") (hm : X.mg "range" = none) (ha : SE X G W L a ea) : PI X tg (.Call (.Name "range" p) [ea] [] pos) (tIs G W (denI L (.range1 a))) :=
  PI.imp (pi_range1 hg hm (pa_cons ha pa_nil (plain_star hp [] X.env)) (plain_star hp [] X.env)) fun σ H R ⟨A, ρ, en, h, S, E, P⟩ => by
    simp only [denI] at P
    refine ⟨A, ρ, en, h, S, E, P.bind.mono fun x H1 ⟨u, h1, ρ1, E1, S1, R1, P1⟩ => ?_⟩
    show ∃ j : Int, [x] = [.int j] ∧ _
    cases u with
    | d d =>
      cases d with
      | int i =>
        cases R1 with
        | d R1 =>
          dsimp only at P1
          split at P1
          · rename_i hz
            simp only [rgOk, Bool.and_eq_true, decide_eq_true_eq] at hz
            refine ⟨i, by rw [R1.scal_int], hz.1, hz.2, ?_⟩
            have q := P1.here S1 (itr_range (G := G) (A := A) (ρ := ρ1) (H := H1) 0 i)
            simpa using q
          · exact P1.elim
      | _ => exact P1.elim
    | _ => exact P1.elim
theorem si_range2 {a b : Ce} {ea eb : Expr} {p pos : Pos} (hp : plainE ea = true) (hp2 : plainE eb = true) (hg : Gl X "range") (hm : X.mg "range" = none) (ha : SE X G W L a ea) (hb : SE X G W L b eb) : PI X tg (.Call (.Name "range" p) [ea, eb] [] pos) (tIs G W (denI L (.range2 a b))) :=
  PI.imp (pi_range2 hg hm (pa_cons ha (pa_cons hb pa_nil (plain_star hp2 [] X.env)) (plain_star hp [eb] X.env)) (by rw [plain_star hp, plain_star hp2]; rfl) (plain_star hp2 [] X.env)) fun σ H R ⟨A, ρ, en, h, S, E, P⟩ => by
    simp only [denI] at P
    refine ⟨A, ρ, en, h, S, E, P.bind.mono fun x H1 ⟨u, h1, ρ1, E1, S1, R1, P1⟩ => ⟨A, ρ1, en, h1, S1, E.ext E1, P1.bind.mono fun y H2 ⟨u2, h2, ρ2, E2, S2, R2, P2⟩ => ?_⟩⟩
    show ∃ i j : Int, [x, y] = [.int i, .int j] ∧ _
    cases u with
    | d d =>
      cases d with
      | int i =>
        cases u2 with
        | d d2 =>
          cases d2 with
          | int j =>
            cases R1 with
            | d R1 => cases R2 with
              | d R2 =>
                dsimp only at P2
                split at P2
                · rename_i hz
                  simp only [rgOk, Bool.and_eq_true, decide_eq_true_eq] at hz
                  exact ⟨i, j, by rw [R1.scal_int, R2.scal_int], ⟨hz.1.1, hz.1.2, hz.2.1, hz.2.2⟩, P2.here S2 (itr_range _ _)⟩
                · exact P2.elim
          | _ => exact P2.elim
        | _ => exact P2.elim
      | _ => exact P2.elim
    | _ => exact P2.elim
theorem si_enum (hK : X.K = G.K) {a : Ce} {ea : Expr} {p pos tpos : Pos} {elts : List Expr} {kk : Nat} (hp : plainE ea = true) (hg : Gl X "enumerate") (hm : X.mg "enumerate" = none) (ha : SE X G W L a ea) :
    PI X (.Tuple elts kk tpos) (.Call (.Name "enumerate" p) [ea] [] pos) (tIs G W (denI L (.enum a))) := ⟨fun pins s σ H R I ⟨A, ρ, en, h, S, E, P⟩ => by
  simp only [denI] at P
  have args := (pa_cons ha pa_nil (plain_star hp [] X.env)).run pos pins s σ H (fun vs H1 => ∃ x, vs = [x] ∧ ∃ v h1 ρ1, Ext A ρ H ρ1 H1 ∧ Sim G A ρ1 h1 H1 ∧ RepV G A ρ1 H1 x v ∧ Post G A W σ (fun ρ' H' J src => ItR G A ρ' H' J src) ρ1 H1 (match v with
    | .d (.list xs) => .ok (.items (enumD xs)) h1
    | .d (.tuple xs) => .ok (.items (enumD xs)) h1
    | _ => .bad) R) I ⟨A, ρ, en, h, S, E, P.bind.mono fun x H1 q => ⟨x, rfl, q⟩⟩
  refine Call_ (ld_blt I hg hm boot_enumerate (PyProof.Rows.callWith_type1 (thn args fun us s1 ⟨vs, H1, I1, r1, x, ev, v, h1, ρ1, E1, S1, R1, P1⟩ => ?_) (plain_star hp [] X.env) rfl))
  subst ev
  cases r1 with
  | cons r rr =>
    cases rr
    have fin : ∀ {h' : Heap} {J : It} {tn : Nat → Heap → Prop}, (∀ b o, s1.heap.get? b = some o → h'.get? b = some o) → Turn X.prog X.w X.K (.Tuple elts kk tpos) J [s1.heap.objs.size + 1, s1.heap.objs.size] (s1.heap.objs.size + 1) tn → tn 0 h' → R J H1 →
        PIE X pins σ (.Tuple elts kk tpos) R (.ref (s1.heap.objs.size + 1)) { s1 with heap := h' } := fun {h' J tn} hk T st q => by
      refine ⟨_, _, tn, J, H1, rfl, I1.kept (t' := s1.toks) hk, T, st, fun b hb => ?_, q⟩
      have hle : s1.heap.objs.size ≤ b := by
        rcases List.mem_cons.mp hb with z | z
        · rw [z]; exact Nat.le_add_right _ _
        · rw [List.mem_singleton.mp z]; exact Nat.le_refl _
      exact I1.fpOk hle (I1.hok.fresh hle)
    cases v with
    | d d =>
      cases R1 with
      | d R1 =>
        cases d with
        | list ds =>
          obtain ⟨p, xs, ex, hq, _, q1⟩ := itr_lst2 R1
          subst ex; cases r
          obtain ⟨its, rv, p', hz⟩ := I1.list (hK ▸ hq)
          refine call_enumerate_list p'.isList fun h' he hit hsz hk => wpAny_pyIter_enum he ?_
          exact fin hk (turn_enum _ _ _) ⟨⟨_, he⟩, hit, Nat.succ_ne_self _⟩ (hK ▸ P1.here S1 q1)
        | tuple ds =>
          obtain ⟨p, xs, ex, hq, _, q1⟩ := itr_tup R1
          subst ex; cases r
          obtain ⟨its, rv, p', hz⟩ := I1.tuple (hK ▸ hq)
          refine z_call_enum (show s1.heap.IsTuple p its.toArray from p') fun h' he hit hk => wpAny_pyIter_enum he ?_
          exact fin hk (turn_enumT _ _ _) ⟨⟨_, he⟩, hit, Nat.succ_ne_self _⟩ (hK ▸ P1.here S1 q1)
        | _ => exact P1.elim
    | _ => exact P1.elim⟩
end
end L2

set_option Elab.async false
set_option linter.all false
set_option autoImplicit false
set_option maxRecDepth 100000
set_option maxHeartbeats 4000000
/-! Z7c: enumerate(zip(a, b)) of two lists. -/
namespace PySem
open Sem (wp)
open AutoSeq1 (wpAny_loadPart')
/-- a zip in any state -/
abbrev IsZipG (h : Heap) (z TI TO : Addr) (f0 : Value) (f : Bool) : Prop :=
  h.get? z = some { cls := .type "zip", dict := none, data := .fields #[f0, .bool f, .bool false, .ref TI, .ref TO], slots := #[] }
section
variable {prog : Program} {w : World} {A : Around} {E : Value → Shared → Prop} {s : Shared}
theorem zg_dead {z TI TO T : Addr} {f : Bool} {Q : Bool → Shared → Prop} (hz : IsZipG s.heap z TI TO (rawInt T) f) (hT : s.heap.get? T = none) (h : Q true s) : wpAny (model prog w) A (Builtin.SmallTypes.ownedTupleIsFree (.ref z)) Q E s := by
  unfold Builtin.SmallTypes.ownedTupleIsFree
  refine wpAny_bind (wpAny_field hz rfl (x := rawInt T) rfl ?_)
  show wpAny _ _ (loadIfAlive ((T : Int).toNat) >>= _) _ _ _
  rw [Int.toNat_natCast]
  have h' : wpAny (model prog w) A (loadIfAlive T) (fun o s' => o = none ∧ s' = s) E s := by
    have h2 : (s.heap.get? T) = none ∧ s = s := ⟨hT, rfl⟩
    exact fun _ _ _ => h2
  refine wpAny_bind (wpAny_mono h' (fun o s' ⟨e1, e2⟩ => ?_) fun _ _ z => z)
  subst e1 e2
  simp only [Option.isNone_none, if_true]
  exact wpAny_pure h
theorem zg_free {z TI TO : Addr} {f : Bool} {Q : Bool → Shared → Prop} (hz : IsZipG s.heap z TI TO .none f) (h : Q true s) : wpAny (model prog w) A (Builtin.SmallTypes.ownedTupleIsFree (.ref z)) Q E s := by
  unfold Builtin.SmallTypes.ownedTupleIsFree
  exact wpAny_bind (wpAny_field hz rfl (x := .none) rfl (wpAny_pure h))
theorem zipG_next_item {z TI TO i1 i2 l1 l2 : Addr} {f0 : Value} {f : Bool} {k1 k2 : Nat} {xs ys : Array Value} {x y a b : Value} {Q : Value → Shared → Prop} (D : ZipApart z TI TO i1 i2 l1 l2)
    (hz : IsZipG s.heap z TI TO f0 f) (hfree : ∀ (Q : Bool → Shared → Prop) (E : Value → Shared → Prop), Q true s → wpAny (model prog w) A (Builtin.SmallTypes.ownedTupleIsFree (.ref z)) Q E s) (hTI : IsPair s.heap TI (.ref i1) (.ref i2)) (hTO : IsPair s.heap TO a b)
    (h1 : s.heap.IsListIter i1 l1 k1) (h2 : s.heap.IsListIter i2 l2 k2) (hl1 : s.heap.IsList l1 xs) (hl2 : s.heap.IsList l2 ys) (hx : xs[k1]? = some x) (hy : ys[k2]? = some y)
    (hQ : ∀ h', IsZip h' z TI TO (rawInt s.heap.objs.size) → IsPair h' TO x y → h'.IsListIter i1 l1 (k1 + 1) → h'.IsListIter i2 l2 (k2 + 1) → IsPair h' s.heap.objs.size x y → h'.objs.size = s.heap.objs.size + 1 →
      (∀ c o, c ≠ z → c ≠ TO → c ≠ i1 → c ≠ i2 → s.heap.get? c = some o → h'.get? c = some o) → Q (.ref s.heap.objs.size) { s with heap := h' }) :
    wpAny (model prog w) A (Builtin.«zip.__next__» ⟨[.ref z], []⟩) (fun fin s' => ∃ v, fin = .done (.ret v) ∧ Q v s') E s := by
  show wpAny _ _ (field (.ref z) 2 >>= _) _ _ _
  refine wpAny_bind (wpAny_field hz rfl (x := .bool false) rfl ?_)
  show wpAny _ _ (field (.ref z) 3 >>= _) _ _ _
  refine wpAny_bind (wpAny_field hz rfl (x := .ref TI) rfl ?_)
  refine wpAny_bind (wpAny_seqItems hTI rfl ?_)
  show wpAny _ _ (Builtin.SmallTypes.ownedTupleIsFree (.ref z) >>= _) _ _ _
  refine wpAny_bind (hfree _ _ ?_)
  simp only [if_true]
  refine wpAny_bind (wpAny_rule ?_)
  refine wpAny_bind (wpAny_field hz rfl (x := .ref TO) rfl ?_)
  refine wpAny_bind (wpAny_setField_rec hz (by simp) fun h₁ hz₁ hs₁ => ?_)
  replace hz₁ : IsZipG h₁ z TI TO .ellipsis f := hz₁
  refine wpAny_bind ?_
  simp only [List.zipIdx_cons, List.zipIdx_nil, List.forIn_cons, List.forIn_nil]
  refine wpAny_bind (wpAny_bind (wpAny_onRaise ?_))
  show wpAny _ _ (Builtin.SmallTypes.nextOf (.ref i1) >>= _) _ _ _
  refine wpAny_bind (wpAny_nextOf_list_item (h1.extBut hs₁.extBut D.i1z) (hl1.extBut hs₁.extBut D.l1z) hx fun h₂ h1₂ hs₂ => wpAny_pure ?_)
  have hTO₂ : IsPair h₂ TO a b := hs₂.extBut _ _ D.TOi1 (hs₁.extBut _ _ D.TOz hTO)
  refine wpAny_bind (wpAny_seqItems hTO₂ rfl ?_)
  refine wpAny_bind (wpAny_updateSeq_pair hTO₂ fun h₃ hTO₃ hs₃ => ?_)
  replace hTO₃ : IsPair h₃ TO x b := hTO₃
  refine wpAny_bind (wpAny_letGo (wpAny_pure ?_))
  refine wpAny_bind (wpAny_bind (wpAny_onRaise ?_))
  show wpAny _ _ (Builtin.SmallTypes.nextOf (.ref i2) >>= _) _ _ _
  refine wpAny_bind (wpAny_nextOf_list_item (((h2.extBut hs₁.extBut D.i2z).extBut hs₂.extBut D.i12.symm).extBut hs₃.extBut D.TOi2.symm)
    (((hl2.extBut hs₁.extBut D.l2z).extBut hs₂.extBut D.l2i1).extBut hs₃.extBut D.l2TO) hy fun h₄ h2₄ hs₄ => wpAny_pure ?_)
  have hTO₄ : IsPair h₄ TO x b := hs₄.extBut _ _ D.TOi2 hTO₃
  refine wpAny_bind (wpAny_seqItems hTO₄ rfl ?_)
  refine wpAny_bind (wpAny_updateSeq_pair hTO₄ fun h₅ hTO₅ hs₅ => ?_)
  replace hTO₅ : IsPair h₅ TO x y := hTO₅
  refine wpAny_bind (wpAny_letGo (wpAny_pure (wpAny_pure ?_)))
  refine wpAny_bind (wpAny_seqItems hTO₅ rfl ?_)
  refine wpAny_bind (wpAny_newTuple ?_)
  have hsz : h₅.objs.size = s.heap.objs.size := by rw [hs₅.1, hs₄.1, hs₃.1, hs₂.1, hs₁.1]
  have hz₅ : IsZipG h₅ z TI TO .ellipsis f := hs₅.extBut _ _ D.TOz.symm (hs₄.extBut _ _ D.i2z.symm (hs₃.extBut _ _ D.TOz.symm (hs₂.extBut _ _ D.i1z.symm hz₁)))
  have hk₅ : ∀ c o, c ≠ z → c ≠ TO → c ≠ i1 → c ≠ i2 → s.heap.get? c = some o → h₅.get? c = some o := fun c o c1 c2 c3 c4 e =>
    hs₅.extBut _ _ c2 (hs₄.extBut _ _ c4 (hs₃.extBut _ _ c2 (hs₂.extBut _ _ c3 (hs₁.extBut _ _ c1 e))))
  have h1₅ : h₅.IsListIter i1 l1 (k1 + 1) := ((h1₂.extBut hs₃.extBut D.TOi1.symm).extBut hs₄.extBut D.i12).extBut hs₅.extBut D.TOi1.symm
  have h2₅ : h₅.IsListIter i2 l2 (k2 + 1) := h2₄.extBut hs₅.extBut D.TOi2.symm
  have hzlt : z < h₅.objs.size := Heap.lt_size hz₅
  show wpAny _ _ (Builtin.SmallTypes.ownedTupleHandOut (.ref z) (.ref h₅.objs.size) >>= _) _ _ _
  refine wpAny_bind ?_
  unfold Builtin.SmallTypes.ownedTupleHandOut
  have hz₆ : IsZipG (h₅.push { cls := .type "tuple", data := .seq #[x, y] }) z TI TO .ellipsis f := Heap.get?_push_of_some _ hz₅
  refine wpAny_bind (wpAny_setField_rec hz₆ (by simp) fun h₇ hz₇ hs₇ => ?_)
  replace hz₇ : IsZipG h₇ z TI TO (rawInt h₅.objs.size) f := hz₇
  refine wpAny_setField_rec hz₇ (by simp) fun h₈ hz₈ hs₈ => ?_
  replace hz₈ : IsZip h₈ z TI TO (rawInt h₅.objs.size) := hz₈
  have up : ∀ c o, c ≠ z → h₅.get? c = some o → h₈.get? c = some o := fun c o c1 e => hs₈.extBut _ _ c1 (hs₇.extBut _ _ c1 (Heap.get?_push_of_some _ e))
  have hT₈ : IsPair h₈ h₅.objs.size x y := hs₈.extBut _ _ (Nat.ne_of_gt hzlt) (hs₇.extBut _ _ (Nat.ne_of_gt hzlt) (Heap.get?_push_size _ rfl))
  have hz8 : h₈.objs.size = h₅.objs.size + 1 := by rw [hs₈.1, hs₇.1, Heap.size_push]
  rw [hsz] at hz₈ hT₈ hz8
  refine wpAny_pure ⟨_, rfl, ?_⟩
  show Q (.ref h₅.objs.size) _
  rw [hsz]
  exact hQ h₈ hz₈ (up _ _ D.TOz hTO₅) (h1₅.at fun o e => up _ o D.i1z e) (h2₅.at fun o e => up _ o D.i2z e) hT₈ hz8 fun c o c1 c2 c3 c4 e => up c o c1 (hk₅ c o c1 c2 c3 c4 e)
theorem zipG_next_end {z TI TO i1 i2 l1 l2 : Addr} {f0 : Value} {f : Bool} {k1 k2 : Nat} {xs ys : Array Value} {a b : Value} {Q : Fin → Shared → Prop} (hh : A.handled = none) (D : ZipApart z TI TO i1 i2 l1 l2)
    (hz : IsZipG s.heap z TI TO f0 f) (hfree : ∀ (Q : Bool → Shared → Prop) (E : Value → Shared → Prop), Q true s → wpAny (model prog w) A (Builtin.SmallTypes.ownedTupleIsFree (.ref z)) Q E s) (hTI : IsPair s.heap TI (.ref i1) (.ref i2)) (hTO : IsPair s.heap TO a b)
    (h1 : s.heap.IsListIter i1 l1 k1) (h2 : s.heap.IsListIter i2 l2 k2) (hl1 : s.heap.IsList l1 xs) (hl2 : s.heap.IsList l2 ys) (hend : xs[k1]? = none ∨ ys[k2]? = none)
    (hE : ∀ h' e, (∀ c o, c ≠ z → c ≠ TO → c ≠ i1 → c ≠ i2 → s.heap.get? c = some o → h'.get? c = some o) → (∃ o, h'.get? e = some o ∧ o.cls = .type "StopIteration") → E (.ref e) { s with heap := h' }) :
    wpAny (model prog w) A (Builtin.«zip.__next__» ⟨[.ref z], []⟩) Q E s := by
  show wpAny _ _ (field (.ref z) 2 >>= _) _ _ _
  refine wpAny_bind (wpAny_field hz rfl (x := .bool false) rfl ?_)
  show wpAny _ _ (field (.ref z) 3 >>= _) _ _ _
  refine wpAny_bind (wpAny_field hz rfl (x := .ref TI) rfl ?_)
  refine wpAny_bind (wpAny_seqItems hTI rfl ?_)
  show wpAny _ _ (Builtin.SmallTypes.ownedTupleIsFree (.ref z) >>= _) _ _ _
  refine wpAny_bind (hfree _ _ ?_)
  simp only [if_true]
  refine wpAny_bind (wpAny_rule ?_)
  refine wpAny_bind (wpAny_field hz rfl (x := .ref TO) rfl ?_)
  refine wpAny_bind (wpAny_setField_rec hz (by simp) fun h₁ hz₁ hs₁ => ?_)
  replace hz₁ : IsZipG h₁ z TI TO .ellipsis f := hz₁
  refine wpAny_bind ?_
  simp only [List.zipIdx_cons, List.zipIdx_nil, List.forIn_cons, List.forIn_nil]
  refine wpAny_bind (wpAny_bind (wpAny_onRaise ?_))
  show wpAny _ _ (Builtin.SmallTypes.nextOf (.ref i1) >>= _) _ _ _
  cases hx : xs[k1]? with
  | none =>
    refine wpAny_bind (wpAny_nextOf_list_end hh (h1.extBut hs₁.extBut D.i1z) (hl1.extBut hs₁.extBut D.l1z) hx fun h₂ e hs₂ he => ?_)
    obtain ⟨oe, hoe, hce⟩ := he
    have hz₂ : IsZipG h₂ z TI TO .ellipsis f := hs₂ _ _ D.i1z.symm hz₁
    have hez : e ≠ z := fun x => by subst x; rw [hz₂] at hoe; cases hoe; simp at hce
    refine wpAny_setField_rec hz₂ (by simp) fun h₃ _ hs₃ => hE h₃ e (fun c o c1 _ c3 _ x => hs₃.extBut _ _ c1 (hs₂ _ _ c3 (hs₁.extBut _ _ c1 x))) ⟨oe, hs₃.extBut _ _ hez hoe, hce⟩
  | some x =>
    have hy : ys[k2]? = none := by rcases hend with h | h; rw [hx] at h; cases h; exact h
    refine wpAny_bind (wpAny_nextOf_list_item (h1.extBut hs₁.extBut D.i1z) (hl1.extBut hs₁.extBut D.l1z) hx fun h₂ h1₂ hs₂ => wpAny_pure ?_)
    have hTO₂ : IsPair h₂ TO a b := hs₂.extBut _ _ D.TOi1 (hs₁.extBut _ _ D.TOz hTO)
    refine wpAny_bind (wpAny_seqItems hTO₂ rfl ?_)
    refine wpAny_bind (wpAny_updateSeq_pair hTO₂ fun h₃ hTO₃ hs₃ => ?_)
    refine wpAny_bind (wpAny_letGo (wpAny_pure ?_))
    refine wpAny_bind (wpAny_bind (wpAny_onRaise ?_))
    show wpAny _ _ (Builtin.SmallTypes.nextOf (.ref i2) >>= _) _ _ _
    refine wpAny_bind (wpAny_nextOf_list_end hh (((h2.extBut hs₁.extBut D.i2z).extBut hs₂.extBut D.i12.symm).extBut hs₃.extBut D.TOi2.symm)
      (((hl2.extBut hs₁.extBut D.l2z).extBut hs₂.extBut D.l2i1).extBut hs₃.extBut D.l2TO) hy fun h₄ e hs₄ he => ?_)
    obtain ⟨oe, hoe, hce⟩ := he
    have hz₄ : IsZipG h₄ z TI TO .ellipsis f := hs₄ _ _ D.i2z.symm (hs₃.extBut _ _ D.TOz.symm (hs₂.extBut _ _ D.i1z.symm hz₁))
    have hez : e ≠ z := fun x => by subst x; rw [hz₄] at hoe; cases hoe; simp at hce
    refine wpAny_setField_rec hz₄ (by simp) fun h₅ _ hs₅ => hE h₅ e (fun c o c1 c2 c3 c4 x => hs₅.extBut _ _ c1 (hs₄ _ _ c4 (hs₃.extBut _ _ c2 (hs₂.extBut _ _ c3 (hs₁.extBut _ _ c1 x))))) ⟨oe, hs₅.extBut _ _ hez hoe, hce⟩
/-- a zip under an enumerate -/
structure ZipS (h : Heap) (z TI TO i1 i2 l1 l2 : Addr) (k : Nat) : Prop where
  zip : ∃ f0 f, IsZipG h z TI TO f0 f ∧ (f0 = .none ∨ ∃ T : Nat, f0 = rawInt T)
  ti : IsPair h TI (.ref i1) (.ref i2)
  to : ∃ a b, IsPair h TO a b
  i1 : h.IsListIter i1 l1 k
  i2 : h.IsListIter i2 l2 k
theorem ZipS.keep {h h' : Heap} {z TI TO i1 i2 l1 l2 : Addr} {k : Nat} (S : ZipS h z TI TO i1 i2 l1 l2 k) (kp : ∀ b, b ∈ [z, TI, TO, i1, i2] → ∀ o, h.get? b = some o → h'.get? b = some o) : ZipS h' z TI TO i1 i2 l1 l2 k := by
  obtain ⟨⟨f0, f, q1, q2⟩, q3, ⟨a, b, q4⟩, q5, q6⟩ := S
  exact ⟨⟨f0, f, kp z (by simp) _ q1, q2⟩, kp TI (by simp) _ q3, ⟨a, b, kp TO (by simp) _ q4⟩, q5.at fun o e => kp i1 (by simp) o e, q6.at fun o e => kp i2 (by simp) o e⟩
theorem zipS_item {z TI TO i1 i2 l1 l2 : Addr} {k : Nat} {xs ys : Array Value} {x y : Value} {Q : Value → Shared → Prop} (D : ZipApart z TI TO i1 i2 l1 l2) (S : ZipS s.heap z TI TO i1 i2 l1 l2 k)
    (hl1 : s.heap.IsList l1 xs) (hl2 : s.heap.IsList l2 ys) (hx : xs[k]? = some x) (hy : ys[k]? = some y)
    (hQ : ∀ h', ZipS h' z TI TO i1 i2 l1 l2 (k + 1) → IsPair h' s.heap.objs.size x y → h'.objs.size = s.heap.objs.size + 1 → (∀ c o, c ∉ [z, TI, TO, i1, i2] → s.heap.get? c = some o → h'.get? c = some o) → Q (.ref s.heap.objs.size) { s with heap := h' }) :
    wpAny (model prog w) A (Builtin.SmallTypes.nextOf (.ref z)) Q E s := by
  obtain ⟨⟨f0, f, hz, hf⟩, hTI, ⟨a, b, hTO⟩, h1, h2⟩ := S
  have hT : s.TypeIs (.ref z) "zip" := ⟨_, hz, rfl⟩
  unfold Builtin.SmallTypes.nextOf
  refine wpAny_bind (wpAny_callSpecial?_slot (name := Str.ofString "__next__") hT F.slot_zip_next (wpAny_call_entry F.slot_zip_next hT F.entry_zip_next ?_ (F.args_zip_next_1 _)))
  have free : (∀ (Q : Bool → Shared → Prop) (E : Value → Shared → Prop), Q true s → wpAny (model prog w) A.in1 (Builtin.SmallTypes.ownedTupleIsFree (.ref z)) Q E s) → wpAny (model prog w) A.in1 (Builtin.«zip.__next__» ⟨[.ref z], []⟩) (fun fin s' => ∃ v, fin = .done (.ret v) ∧ wpAny (model prog w) A (pure v) Q E s') E s := fun hfree =>
    zipG_next_item D hz hfree hTI hTO h1 h2 hl1 hl2 hx hy fun h' a1 a2 a3 a4 a5 a6 a7 => wpAny_pure (hQ h' ⟨⟨_, _, a1, .inr ⟨_, rfl⟩⟩, a7 _ _ D.TIz D.TITO D.TIi1 D.TIi2 hTI, ⟨_, _, a2⟩, a3, a4⟩ a5 a6 fun c o hc e => a7 c o (fun q => hc (by simp [q])) (fun q => hc (by simp [q])) (fun q => hc (by simp [q])) (fun q => hc (by simp [q])) e)
  rcases hf with rfl | ⟨T, rfl⟩
  · exact free fun Q E h => zg_free hz h
  · cases hTT : s.heap.get? T with
    | none => exact free fun Q E h => zg_dead hz hTT h
    | some oT =>
      exact zip_next_item_held D hz hTT hTI h1 h2 hl1 hl2 hx hy fun h' a1 a3 a4 a5 a6 a7 => wpAny_pure (hQ h' ⟨⟨_, _, a1, .inr ⟨_, rfl⟩⟩, a7 _ _ D.TIz D.TIi1 D.TIi2 hTI, ⟨_, _, a7 _ _ D.TOz D.TOi1 D.TOi2 hTO⟩, a3, a4⟩ a5 a6 fun c o hc e => a7 c o (fun q => hc (by simp [q])) (fun q => hc (by simp [q])) (fun q => hc (by simp [q])) e)
theorem zipS_end {z TI TO i1 i2 l1 l2 : Addr} {k : Nat} {xs ys : Array Value} {Q : Value → Shared → Prop} (hh : A.handled = none) (D : ZipApart z TI TO i1 i2 l1 l2) (S : ZipS s.heap z TI TO i1 i2 l1 l2 k)
    (hl1 : s.heap.IsList l1 xs) (hl2 : s.heap.IsList l2 ys) (hend : xs[k]? = none ∨ ys[k]? = none)
    (hE : ∀ h' e, (∀ c o, c ∉ [z, TI, TO, i1, i2] → s.heap.get? c = some o → h'.get? c = some o) → (∃ o, h'.get? e = some o ∧ o.cls = .type "StopIteration") → E (.ref e) { s with heap := h' }) :
    wpAny (model prog w) A (Builtin.SmallTypes.nextOf (.ref z)) Q E s := by
  obtain ⟨⟨f0, f, hz, hf⟩, hTI, ⟨a, b, hTO⟩, h1, h2⟩ := S
  have hT : s.TypeIs (.ref z) "zip" := ⟨_, hz, rfl⟩
  unfold Builtin.SmallTypes.nextOf
  refine wpAny_bind (wpAny_callSpecial?_slot (name := Str.ofString "__next__") hT F.slot_zip_next (wpAny_call_entry F.slot_zip_next hT F.entry_zip_next ?_ (F.args_zip_next_1 _)))
  have free : (∀ (Q : Bool → Shared → Prop) (E : Value → Shared → Prop), Q true s → wpAny (model prog w) A.in1 (Builtin.SmallTypes.ownedTupleIsFree (.ref z)) Q E s) → wpAny (model prog w) A.in1 (Builtin.«zip.__next__» ⟨[.ref z], []⟩) (fun fin s' => ∃ v, fin = .done (.ret v) ∧ wpAny (model prog w) A (pure v) Q E s') E s := fun hfree =>
    zipG_next_end (show A.in1.handled = none from hh) D hz hfree hTI hTO h1 h2 hl1 hl2 hend fun h' e a7 => hE h' e fun c o hc e => a7 c o (fun q => hc (by simp [q])) (fun q => hc (by simp [q])) (fun q => hc (by simp [q])) (fun q => hc (by simp [q])) e
  rcases hf with rfl | ⟨T, rfl⟩
  · exact free fun Q E h => zg_free hz h
  · cases hTT : s.heap.get? T with
    | none => exact free fun Q E h => zg_dead hz hTT h
    | some oT =>
      exact zip_next_end_held (show A.in1.handled = none from hh) D hz hTT hTI h1 h2 hl1 hl2 hend fun h' e a7 => hE h' e fun c o hc e => a7 c o (fun q => hc (by simp [q])) (fun q => hc (by simp [q])) (fun q => hc (by simp [q])) e
/-- enumerate's next, over any iterator -/
theorem enumG_item {e it : Addr} {i : Int} {old : Value} {Q : Option Value → Shared → Prop} (he : IsEnum s.heap e it i old) (Good : Value → Heap → Prop)
    (hnext : ∀ (A : Around) (R : Value → Shared → Prop) (E : Value → Shared → Prop), (∀ x h1, Good x h1 → R x { s with heap := h1 }) → wpAny (model prog w) A (Builtin.SmallTypes.nextOf (.ref it)) R E s) (hg : ∀ x h1, Good x h1 → IsEnum h1 e it i old)
    (hQ : ∀ x h1 h', Good x h1 → IsEnumOut h' e it (i + 1) x h1.objs.size → h'.get? h1.objs.size = some { cls := .type "tuple", data := .seq #[.int i s.toks, x] } → h'.objs.size = h1.objs.size + 1 →
      (∀ b o, b ≠ e → h1.get? b = some o → h'.get? b = some o) → Q (some (.ref h1.objs.size)) { s with heap := h', toks := s.toks + 1 }) :
    wpAny (model prog w) A (pyNext (.ref e)) Q E s := by
  have hT : s.TypeIs (.ref e) "enumerate" := ⟨_, he, rfl⟩
  unfold pyNext
  refine wpAny_bind (wpAny_attempt (wpAny_callSpecial?_slot (name := Str.ofString "__next__") hT F.slot_enumerate_next
    (wpAny_call_entry F.slot_enumerate_next hT F.entry_enumerate_next ?_ (F.args_enumerate_next_1 _))))
  obtain ⟨hp, g, d, tk, os⟩ := s
  show wpAny _ _ (field (.ref e) 2 >>= _) _ _ _
  refine wpAny_bind (wpAny_field he rfl (x := .ref it) rfl ?_)
  refine wpAny_bind (hnext _ _ _ fun x h₁ good => ?_)
  have he₁ := hg x h₁ good
  show wpAny _ _ (field (.ref e) 3 >>= _) _ _ ⟨h₁, g, d, tk, os⟩
  refine wpAny_bind (wpAny_field he₁ rfl (x := rawInt i) rfl ?_)
  show wpAny _ _ (field (.ref e) 4 >>= _) _ _ ⟨h₁, g, d, tk, os⟩
  refine wpAny_bind (wpAny_field he₁ rfl (x := .none) rfl ?_)
  show wpAny _ _ (mkInt i >>= _) _ _ ⟨h₁, g, d, tk, os⟩
  refine wpAny_bind (wpAny_mkInt ?_)
  show wpAny _ _ (setField (.ref e) 3 (rawInt (i + 1)) >>= _) _ _ ⟨h₁, g, d, tk + 1, os⟩
  refine wpAny_bind (wpAny_setField_rec he₁ (by simp) fun h₂ he₂ hs₂ => ?_)
  replace hs₂ : Heap.SameBut e h₁ h₂ := hs₂
  replace he₂ : IsEnum h₂ e it (i + 1) old := he₂
  show wpAny _ _ (setField (.ref e) 4 .none >>= _) _ _ ⟨h₂, g, d, tk + 1, os⟩
  refine wpAny_bind (wpAny_setField_rec he₂ (by simp) fun h₃ he₃ hs₃ => ?_)
  replace hs₃ : Heap.SameBut e h₂ h₃ := hs₃
  replace he₃ : IsEnum h₃ e it (i + 1) old := he₃
  show wpAny _ _ (newTuple [.int i tk, x] >>= _) _ _ ⟨h₃, g, d, tk + 1, os⟩
  refine wpAny_bind (wpAny_newTuple ?_)
  have he₄ : IsEnum (h₃.push { cls := .type "tuple", data := .seq #[.int i tk, x] }) e it (i + 1) old := Heap.get?_push_of_some _ he₃
  generalize hh₄ : h₃.push { cls := .type "tuple", data := .seq #[.int i tk, x] } = h₄ at he₄
  have hsz : h₃.objs.size = h₁.objs.size := by rw [hs₃.1, hs₂.1]
  have hel : e < h₁.objs.size := Heap.lt_size he₁
  have ht₄ : h₄.get? h₁.objs.size = some { cls := .type "tuple", data := .seq #[.int i tk, x] } := by rw [← hh₄, ← hsz]; exact Heap.get?_push_size _ rfl
  have hz₄ : h₄.objs.size = h₁.objs.size + 1 := by rw [← hh₄, Heap.size_push, hsz]
  have hk₄ : ∀ b o, b ≠ e → h₁.get? b = some o → h₄.get? b = some o := fun b o hbe hb => by
    rw [← hh₄]; exact Heap.get?_push_of_some _ (hs₃.extBut b o hbe (hs₂.extBut b o hbe hb))
  show wpAny _ _ (Builtin.SmallTypes.ownedTupleIsFree (.ref e) >>= _) _ _ ⟨h₄, g, d, tk + 1, os⟩
  rw [hsz]
  clear hh₄ he₃ hs₃ he₂ hs₂ hsz h₃ h₂
  refine wpAny_bind ?_
  · unfold Builtin.SmallTypes.ownedTupleIsFree
    refine wpAny_bind (wpAny_field he₄ rfl (x := .none) rfl (wpAny_pure ?_))
    simp only [if_true]
    refine wpAny_bind (wpAny_rule ?_)
    refine wpAny_bind (wpAny_field he₄ rfl (x := old) rfl ?_)
    refine wpAny_bind (wpAny_setField_rec he₄ (by simp) fun h₅ he₅ hs₅ => ?_)
    replace hs₅ : Heap.SameBut e h₄ h₅ := hs₅
    replace he₅ : IsEnum h₅ e it (i + 1) x := he₅
    show wpAny _ _ (Builtin.SmallTypes.ownedTupleHandOut (.ref e) (.ref h₁.objs.size) >>= _) _ _ ⟨h₅, g, d, tk + 1, os⟩
    refine wpAny_bind ?_
    · unfold Builtin.SmallTypes.ownedTupleHandOut
      refine wpAny_bind (wpAny_setField_rec he₅ (by simp) fun h₆ he₆ hs₆ => ?_)
      replace hs₆ : Heap.SameBut e h₅ h₆ := hs₆
      replace he₆ : IsEnumOut h₆ e it (i + 1) x h₁.objs.size := he₆
      refine wpAny_setField_rec he₆ (by simp) fun h₇ he₇ hs₇ => ?_
      replace hs₇ : Heap.SameBut e h₆ h₇ := hs₇
      replace he₇ : IsEnumOut h₇ e it (i + 1) x h₁.objs.size := he₇
      refine wpAny_bind (wpAny_letGo (wpAny_pure ⟨_, rfl, wpAny_pure (hQ x h₁ h₇ good he₇ ?_ ?_ ?_)⟩))
      · exact hs₇.extBut _ _ (Nat.ne_of_gt hel) (hs₆.extBut _ _ (Nat.ne_of_gt hel) (hs₅.extBut _ _ (Nat.ne_of_gt hel) ht₄))
      · rw [hs₇.1, hs₆.1, hs₅.1, hz₄]
      · exact fun b o hbe hb => hs₇.extBut b o hbe (hs₆.extBut b o hbe (hs₅.extBut b o hbe (hk₄ b o hbe hb)))
theorem enumG_end {e it : Addr} {i : Int} {old : Value} {Q : Option Value → Shared → Prop} (he : IsEnum s.heap e it i old) (Good : Heap → Prop)
    (hnext : ∀ (R : Value → Shared → Prop) (E : Value → Shared → Prop), (∀ h' e, Good h' → (∃ o, h'.get? e = some o ∧ o.cls = .type "StopIteration") → E (.ref e) { s with heap := h' }) → wpAny (model prog w) A.in1 (Builtin.SmallTypes.nextOf (.ref it)) R E s)
    (hQ : ∀ h', Good h' → Q none { s with heap := h' }) :
    wpAny (model prog w) A (pyNext (.ref e)) Q E s := by
  have hT : s.TypeIs (.ref e) "enumerate" := ⟨_, he, rfl⟩
  unfold pyNext
  refine wpAny_bind (wpAny_attempt (wpAny_callSpecial?_slot (name := Str.ofString "__next__") hT F.slot_enumerate_next
    (wpAny_call_entry F.slot_enumerate_next hT F.entry_enumerate_next ?_ (F.args_enumerate_next_1 _))))
  show wpAny _ _ (field (.ref e) 2 >>= _) _ _ _
  refine wpAny_bind (wpAny_field he rfl (x := .ref it) rfl ?_)
  refine wpAny_bind (hnext _ _ fun h' x he' hx' => ?_)
  obtain ⟨o, ho, hc⟩ := hx'
  refine wpAny_bind (wpAny_isInstance (T := "StopIteration") (b := true) ⟨o, ho, hc⟩ isSubtype_stop ?_)
  exact wpAny_pure (hQ _ he')
end
theorem z_enum_newZ {z TI TO : Addr} :
    Meets (Builtin.«enumerate.__new__» ⟨[.type "enumerate", .ref z], []⟩) (fun _ R s => IsZip s.heap z TI TO .none ∧
      R (.ok (.ret (.ref s.heap.objs.size))) { s with heap := s.heap.push { cls := .type "enumerate", data := .fields #[.none, .bool false, .ref z, rawInt 0, .none, .none] } }) :=
  .of_wp fun prog w A R s h => by
    obtain ⟨hp, g, d, tk, os⟩ := s
    obtain ⟨ht, h⟩ := h
    have hsub := sub_enumerate
    have hT : IsZip (Shared.heap ⟨hp, g, d, tk, os⟩) z TI TO .none := ht
    wp_walk using wpAny_loadPart' ht
    refine wpAny_stack_any fun st => wpAny_pure ?_
    split
    · rename_i c _ _ _ _ _
      cases (c == Value.type "enumerate")
      · wp_walk using wpAny_loadPart' ht, wpAny_pyIter_zip hT
        exact ⟨_, rfl, h⟩
      · wp_walk using wpAny_loadPart' ht, wpAny_pyIter_zip hT
        exact ⟨_, rfl, h⟩
    · wp_walk using wpAny_loadPart' ht, wpAny_pyIter_zip hT
      exact ⟨_, rfl, h⟩
theorem z_call_enumZ {prog : Program} {w : World} {A : Around} {E : Value → Shared → Prop} {s : Shared} {z TI TO : Addr} {Q : Value → Shared → Prop} (hT : IsZip s.heap z TI TO .none)
    (h : ∀ h', IsEnum h' s.heap.objs.size z 0 .none → (∀ b o, s.heap.get? b = some o → h'.get? b = some o) → Q (.ref s.heap.objs.size) { s with heap := h' }) :
    wpAny (model prog w) A (call (.type "enumerate") [.ref z]) Q E s := by
  refine callType_new F.called_enumerate (by decide) (F.typeCall_enumerate_1 _) (F.newCall_enumerate_1 _) (fun obj => F.args_object_init_2 obj _) F.entry_enumerate_new z_enum_newZ ⟨hT, ?_⟩
  have he : IsEnum (s.heap.push { cls := .type "enumerate", data := .fields #[.none, .bool false, .ref z, rawInt 0, .none, .none] }) s.heap.objs.size z 0 .none := Heap.get?_push_size _ rfl
  exact ⟨⟨_, he, rfl⟩, h _ he fun b o x => Heap.get?_push_of_some _ x⟩
end PySem

set_option Elab.async false
set_option linter.all false
set_option autoImplicit false
set_option maxRecDepth 100000
set_option maxHeartbeats 4000000
/-! Z7d: zip, enumerate(zip) walked. -/
namespace L2
open PySem PySem.Spec PyProof.Rows Z
/-- enumerate(zip(a, b)) -/
def Itez (K : PySem.W.Frag) (a b : Addr) : It :=
  ⟨fun i H => ∃ (xs ys : List V) (x y : V), SqL K H a xs ∧ SqL K H b ys ∧ xs[i]? = some x ∧ ys[i]? = some y,
    fun i H v H' => ∃ T U x y, v = .ref U ∧ H T = none ∧ upd H T (.tup [x, y]) U = none ∧ H' = upd (upd H T (.tup [x, y])) U (.tup [.int (i : Nat), .ref T]) ∧ (∀ xs, SqL K H a xs → xs[i]? = some x) ∧ ∀ ys, SqL K H b ys → ys[i]? = some y,
    fun i H => ∃ xs ys : List V, SqL K H a xs ∧ SqL K H b ys ∧ (xs.length ≤ i ∨ ys.length ≤ i)⟩
theorem turn_ezip {P : Program} {w : World} {K : PySem.W.Frag} {elts : List Expr} {kk : Nat} {tpos : Pos} {a b e z TI TO i1 i2 : Addr} (D : ZipApart z TI TO i1 i2 a b) (ne : e ∉ [z, TI, TO, i1, i2]) :
    Turn P w K (.Tuple elts kk tpos) (Itez K a b) [e, z, TI, TO, i1, i2] e (fun i h => (∃ old, IsEnum h e z ((i : Nat) : Int) old) ∧ ZipS h z TI TO i1 i2 a b i) where
  mem := by simp
  obj := fun i h st c hc => by
    obtain ⟨⟨old, he⟩, ⟨⟨f0, f, hz, _⟩, hTI, ⟨x, y, hTO⟩, ⟨o1, e1, _, d1⟩, ⟨o2, e2, _, d2⟩⟩⟩ := st
    have e' : c = e ∨ c = z ∨ c = TI ∨ c = TO ∨ c = i1 ∨ c = i2 := by simpa using hc
    rcases e' with q | q | q | q | q | q
    · rw [q]; exact ⟨_, he, fun v q => nomatch q⟩
    · rw [q]; exact ⟨_, hz, fun v q => nomatch q⟩
    · rw [q]; exact ⟨_, hTI, fun v q => nomatch q⟩
    · rw [q]; exact ⟨_, hTO, fun v q => nomatch q⟩
    · rw [q]; exact ⟨o1, e1, fun v q => by rw [d1] at q; cases q⟩
    · rw [q]; exact ⟨o2, e2, fun v q => by rw [d2] at q; cases q⟩
  keep := fun i h h' st k => by
    obtain ⟨⟨old, he⟩, S⟩ := st
    exact ⟨⟨old, k e (by simp) _ he⟩, S.keep fun b hb o q => k b (List.mem_cons_of_mem _ hb) o q⟩
  item := by
    intro X hP hw hK hc i pins s σ H E I hf st hg
    subst hP hw hK
    obtain ⟨⟨old, he⟩, S⟩ := st
    obtain ⟨xs, ys, x, y, hqx, hqy, hx, hy⟩ := hg
    obtain ⟨its, rv, p, _⟩ := I.list hqx
    obtain ⟨its2, rv2, p2, _⟩ := I.list hqy
    obtain ⟨u, hu, ru⟩ := rv.get hx
    obtain ⟨u2, hu2, ru2⟩ := rv2.get hy
    have hel : e < s.heap.objs.size := Heap.lt_size he
    refine enumG_item he (fun x' h1 => x' = .ref s.heap.objs.size ∧ ZipS h1 z TI TO i1 i2 a b (i + 1) ∧ IsPair h1 s.heap.objs.size u u2 ∧ h1.objs.size = s.heap.objs.size + 1 ∧ ∀ c o, c ∉ [z, TI, TO, i1, i2] → s.heap.get? c = some o → h1.get? c = some o)
      (fun A R E hR => zipS_item D S p.isList p2.isList (x := u) (y := u2) (by simpa using hu) (by simpa using hu2) fun h' a1 a2 a3 a4 => hR _ h' ⟨rfl, a1, a2, a3, a4⟩) (fun x' h1 g => g.2.2.2.2 e _ ne he) fun x' h1 h' g hout hT hsz hk => ?_
    obtain ⟨ex, S1, hp1, hs1, hk1⟩ := g
    subst ex
    refine ⟨_, rfl, wpAny_letOwnedTupleGo_enum (s := { s with heap := h', toks := s.toks + 1 }) hout fun h'' he' sb => ?_⟩
    have hT2 : h''.get? h1.objs.size = some { cls := .type "tuple", data := .seq #[.int i s.toks, .ref s.heap.objs.size] } := (sb.2 _ (Nat.ne_of_gt (by rw [hs1]; exact Nat.lt_succ_of_lt hel))).trans hT
    have fresh : H s.heap.objs.size = none := I.hok.fresh (Nat.le_refl _)
    have new1 : ObjOk X.prog X.w (upd H s.heap.objs.size (.tup [x, y])) h1 s.heap.objs.size (.tup [x, y]) :=
      ⟨by show 2 ≤ sizeLine; decide, [u, u2], .cons ru (.cons ru2 .nil), ⟨_, hp1, rfl, _, rfl⟩⟩
    have hf1 : ∀ b ∈ [z, TI, TO, i1, i2], FpOk X pins H b := fun b hb => hf b (List.mem_cons_of_mem _ hb)
    have I1 : Inv X pins σ (upd H s.heap.objs.size (.tup [x, y])) { s with heap := h1 } := I.turnedNew (t' := s.toks) (ch := [z, TI, TO, i1, i2]) (fun c o hb q => hk1 c o hb q) hf1 (Nat.le_refl _) new1
    have hfe : ∀ b ∈ [e], FpOk X pins (upd H s.heap.objs.size (.tup [x, y])) b := fun b hb => by
      have eb : b = e := by simpa using hb
      subst eb
      have q := hf b (by simp)
      exact ⟨by rw [upd_ne (Nat.ne_of_lt hel)]; exact q.1, q.2⟩
    have new2 : ObjOk X.prog X.w (upd (upd H s.heap.objs.size (.tup [x, y])) h1.objs.size (.tup [.int (i : Nat), .ref s.heap.objs.size])) h'' h1.objs.size (.tup [.int (i : Nat), .ref s.heap.objs.size]) :=
      ⟨by show 2 ≤ sizeLine; decide, [.int i s.toks, .ref s.heap.objs.size], .cons ⟨_, rfl⟩ (.cons rfl .nil), ⟨_, hT2, rfl, _, rfl⟩⟩
    have I2 := I1.turnedNew (t' := s.toks + 1) (ch := [e]) (h' := h'') (fun c o hb q => by
      have hce : c ≠ e := by simpa using hb
      exact (sb.2 c hce).trans (hk c o hce q)) hfe (Nat.le_refl _) new2
    refine ⟨.ref h1.objs.size, _, I2, rfl, ⟨s.heap.objs.size, h1.objs.size, x, y, rfl, fresh, I1.hok.fresh (Nat.le_refl _), rfl, fun l hl => by rw [I.list_inj hl hqx]; exact hx, fun l hl => by rw [I.list_inj hl hqy]; exact hy⟩, ⟨⟨.ref s.heap.objs.size, ?_⟩, S1.keep fun c hc o q => (sb.2 c (fun z => ne (z ▸ hc))).trans (hk c o (fun z => ne (z ▸ hc)) q)⟩, fun c hcm => ?_⟩
    · have e1 : ((i + 1 : Nat) : Int) = (i : Int) + 1 := by omega
      rw [e1]; exact he'
    · have hlt : c < s.heap.objs.size := by
        obtain ⟨⟨f0, f, hz, _⟩, hTI, ⟨x, y, hTO⟩, ⟨o1, e1, _, d1⟩, ⟨o2, e2, _, d2⟩⟩ := S
        have e' : c = e ∨ c = z ∨ c = TI ∨ c = TO ∨ c = i1 ∨ c = i2 := by simpa using hcm
        rcases e' with q | q | q | q | q | q
        · rw [q]; exact hel
        · rw [q]; exact Heap.lt_size hz
        · rw [q]; exact Heap.lt_size hTI
        · rw [q]; exact Heap.lt_size hTO
        · rw [q]; exact Heap.lt_size e1
        · rw [q]; exact Heap.lt_size e2
      rw [upd_ne (Nat.ne_of_lt (by rw [hs1]; exact Nat.lt_succ_of_lt hlt)), upd_ne (Nat.ne_of_lt hlt)]
      exact (hf c hcm).1
  done := by
    intro X hP hw hK hc i pins s σ H E I hf st hg
    subst hP hw hK
    obtain ⟨⟨old, he⟩, S⟩ := st
    obtain ⟨xs, ys, hqx, hqy, hend⟩ := hg
    obtain ⟨its, rv, p, _⟩ := I.list hqx
    obtain ⟨its2, rv2, p2, _⟩ := I.list hqy
    have l1 := rv.length
    have l2 := rv2.length
    have hn : its.toArray[i]? = none ∨ its2.toArray[i]? = none := by
      rcases hend with q | q
      · exact .inl (by simp; omega)
      · exact .inr (by simp; omega)
    exact enumG_end he (fun h' => ∀ c o, c ∉ [z, TI, TO, i1, i2] → s.heap.get? c = some o → h'.get? c = some o) (fun R E hE => zipS_end (I.ok.hd hc) D S p.isList p2.isList hn fun h' e' a1 a2 => hE h' e' a1 a2) fun h' hk => ⟨rfl, I.turnedL (t' := s.toks) (ch := [e, z, TI, TO, i1, i2]) (fun c o hb q =>
      hk c o (fun z => hb (List.mem_cons_of_mem _ z)) q) hf⟩
  self := fun A i s Q E st h => let ⟨⟨_, he⟩, _⟩ := st; wpAny_pyIter_enum he h
section
variable {X : Cx} {G : Gx} {W : WX} {L : Lib} {tg : Expr}
theorem zipD_len (xs ys : List PyData) : (zipD xs ys).length = min xs.length ys.length := by
  unfold zipD; simp
theorem zipD_get {xs ys : List PyData} {i : Nat} {x y : PyData} (h1 : xs[i]? = some x) (h2 : ys[i]? = some y) : (zipD xs ys)[i]? = some (.tuple [x, y]) := by
  unfold zipD
  rw [List.getElem?_zipWith, h1, h2]
theorem tup_keeps {A : Addr → Prop} {ρ : List Addr} {H : Hp} {v : V} {ds : List PyData} (r : Rp G (Av A ρ) H v (.tuple ds)) : ∃ a xs, v = .ref a ∧ SqT G.K H a xs ∧ RpAll G (Av A ρ) H xs ds ∧ ∀ (B : Addr → Prop) (ρ' : List Addr) (H' : Hp), Ext A ρ H ρ' H' → (∀ a, B a → A a ∨ H a = none) → SqT G.K H' a xs := by
  cases r with
  | tup hp na t => exact ⟨_, _, rfl, .inl (.inl hp), t, fun B ρ' H' e hB => .inl (.inl ((avB (B := B) e hB).at_ hp na (by intro φ e; cases e)).1)⟩
  | tupK hk t => exact ⟨_, _, rfl, .inr hk, t, fun _ _ _ _ _ => .inr hk⟩
theorem itr_zipL {A : Addr → Prop} {ρ : List Addr} {H : Hp} {v u : V} {ds es : List PyData} (r : Rp G (Av A ρ) H v (.list ds)) (q : Rp G (Av A ρ) H u (.list es)) : ∃ a b xs ys, v = .ref a ∧ u = .ref b ∧ SqL G.K H a xs ∧ SqL G.K H b ys ∧ ItR G A ρ H (Itz G.K a b) (.items (zipD ds es)) ∧ ItR G A ρ H (Itez G.K a b) (.items (enumD (zipD ds es))) := by
  obtain ⟨a, xs, ev, hq, t, keep⟩ := lst_keeps r
  obtain ⟨b, ys, eu, hq2, t2, keep2⟩ := lst_keeps q
  have h1 := t.length
  have h2 := t2.length
  refine ⟨a, b, xs, ys, ev, eu, hq, hq2, ?_, ?_⟩
  · intro B ρ' H' h' hAB e hB S
    have k := avB (ρ' := ρ') (H' := H') e hB
    have hq' := keep B ρ' H' e hB
    have hq2' := keep2 B ρ' H' e hB
    rw [zipD_len]
    refine ⟨fun i hi => ?_, ⟨xs, ys, hq', hq2', by omega⟩⟩
    obtain ⟨x, hx, rx⟩ := (t.keep k).get (List.getElem?_eq_getElem (show i < ds.length by omega))
    obtain ⟨y, hy, ry⟩ := (t2.keep k).get (List.getElem?_eq_getElem (show i < es.length by omega))
    refine ⟨⟨xs, ys, x, y, hq', hq2', hx, hy⟩, fun w H'' yy => ?_⟩
    obtain ⟨T, x', y', ex, hT, eH, f1, f2⟩ := yy
    have e1 := f1 xs hq'; rw [hx] at e1; cases e1
    have e2 := f2 ys hq2'; rw [hy] at e2; cases e2
    subst ex eH
    have kk := (Ext.laid (A := B) (ρ := ρ') (o := .tup [x, y]) hT).av
    exact ⟨_, zipD_get (List.getElem?_eq_getElem _) (List.getElem?_eq_getElem _), Ext.laid hT, S.laid hT, .tup upd_same (S.notAv hT) (.cons (rx.keep kk) (.cons (ry.keep kk) .nil))⟩
  · intro B ρ' H' h' hAB e hB S
    have k := avB (ρ' := ρ') (H' := H') e hB
    have hq' := keep B ρ' H' e hB
    have hq2' := keep2 B ρ' H' e hB
    have hlen : (enumD (zipD ds es)).length = min ds.length es.length := by rw [← zipD_len]; unfold enumD; simp
    rw [hlen]
    refine ⟨fun i hi => ?_, ⟨xs, ys, hq', hq2', by omega⟩⟩
    obtain ⟨x, hx, rx⟩ := (t.keep k).get (List.getElem?_eq_getElem (show i < ds.length by omega))
    obtain ⟨y, hy, ry⟩ := (t2.keep k).get (List.getElem?_eq_getElem (show i < es.length by omega))
    refine ⟨⟨xs, ys, x, y, hq', hq2', hx, hy⟩, fun w H'' yy => ?_⟩
    obtain ⟨T, U, x', y', ex, hT, hU, eH, f1, f2⟩ := yy
    have e1 := f1 xs hq'; rw [hx] at e1; cases e1
    have e2 := f2 ys hq2'; rw [hy] at e2; cases e2
    subst ex eH
    have E1 : Ext B ρ' H' ρ' (upd H' T (.tup [x, y])) := Ext.laid hT
    have S1 : Sim G B ρ' h' (upd H' T (.tup [x, y])) := S.laid hT
    have r1 : Rp G (Av B ρ') (upd H' T (.tup [x, y])) (.ref T) (.tuple [ds[i], es[i]]) := .tup upd_same (S.notAv hT) (.cons (rx.keep E1.av) (.cons (ry.keep E1.av) .nil))
    have E2 : Ext B ρ' (upd H' T (.tup [x, y])) ρ' (upd (upd H' T (.tup [x, y])) U (.tup [.int (i : Nat), .ref T])) := Ext.laid hU
    have hz := zipD_get (xs := ds) (ys := es) (List.getElem?_eq_getElem (show i < ds.length by omega)) (List.getElem?_eq_getElem (show i < es.length by omega))
    have hi' : i < (zipD ds es).length := by rw [zipD_len]; exact hi
    have hz2 : (zipD ds es)[i] = .tuple [ds[i], es[i]] := by rw [List.getElem?_eq_getElem hi'] at hz; exact Option.some.inj hz
    refine ⟨Z.pairD i (zipD ds es)[i], by unfold enumD; simp [hi', Z.pairD], E1.trans E2, S1.laid hU, ?_⟩
    rw [hz2]
    exact .tup upd_same (S1.notAv hU) (.cons (.int _) (.cons (r1.keep E2.av) .nil))
theorem itr_zipT {A : Addr → Prop} {ρ : List Addr} {H : Hp} {v u : V} {ds es : List PyData} (r : Rp G (Av A ρ) H v (.tuple ds)) (q : Rp G (Av A ρ) H u (.tuple es)) : ∃ a b xs ys, v = .ref a ∧ u = .ref b ∧ SqT G.K H a xs ∧ SqT G.K H b ys ∧ ItR G A ρ H (RZ.ItzT G.K a b) (.items (zipD ds es)) := by
  obtain ⟨a, xs, ev, hq, t, keep⟩ := tup_keeps r
  obtain ⟨b, ys, eu, hq2, t2, keep2⟩ := tup_keeps q
  have h1 := t.length
  have h2 := t2.length
  refine ⟨a, b, xs, ys, ev, eu, hq, hq2, ?_⟩
  intro B ρ' H' h' hAB e hB S
  have k := avB (ρ' := ρ') (H' := H') e hB
  have hq' := keep B ρ' H' e hB
  have hq2' := keep2 B ρ' H' e hB
  rw [zipD_len]
  refine ⟨fun i hi => ?_, ⟨xs, ys, hq', hq2', by omega⟩⟩
  obtain ⟨x, hx, rx⟩ := (t.keep k).get (List.getElem?_eq_getElem (show i < ds.length by omega))
  obtain ⟨y, hy, ry⟩ := (t2.keep k).get (List.getElem?_eq_getElem (show i < es.length by omega))
  refine ⟨⟨xs, ys, x, y, hq', hq2', hx, hy⟩, fun w H'' yy => ?_⟩
  obtain ⟨T, x', y', ex, hT, eH, f1, f2⟩ := yy
  have e1 := f1 xs hq'; rw [hx] at e1; cases e1
  have e2 := f2 ys hq2'; rw [hy] at e2; cases e2
  subst ex eH
  have kk := (Ext.laid (A := B) (ρ := ρ') (o := .tup [x, y]) hT).av
  exact ⟨_, zipD_get (List.getElem?_eq_getElem _) (List.getElem?_eq_getElem _), Ext.laid hT, S.laid hT, .tup upd_same (S.notAv hT) (.cons (rx.keep kk) (.cons (ry.keep kk) .nil))⟩
/-- for (x, y) in zip(a, b) -/
theorem si_zip (hK : X.K = G.K) {a b : Ce} {ea eb : Expr} {p pos tpos : Pos} {elts : List Expr} {kk : Nat} (hp : plainE ea = true) (hp2 : plainE eb = true) (hg : Gl X "zip") (hm : X.mg "zip" = none) (ha : SE X G W L a ea) (hb : SE X G W L b eb) :
    PI X (.Tuple elts kk tpos) (.Call (.Name "zip" p) [ea, eb] [] pos) (tIs G W (denI L (.zip a b))) :=
  PI.imp (RZ.pi_zipA hg hm (pa_cons ha (pa_cons hb pa_nil (plain_star hp2 [] X.env)) (plain_star hp [eb] X.env)) (plain_star hp [eb] X.env) (plain_stars (es := [eb]) (by simp [hp2]) pos X.env)) fun σ H R ⟨A, ρ, en, h, S, E, P⟩ => by
    simp only [denI] at P
    refine ⟨A, ρ, en, h, S, E, P.bind.mono fun x H1 ⟨u, h1, ρ1, E1, S1, R1, P1⟩ => ⟨A, ρ1, en, h1, S1, E.ext E1, P1.bind.mono fun y H2 ⟨u2, h2, ρ2, E2, S2, R2, P2⟩ => ?_⟩⟩
    have R1' := R1.ext E2
    cases u with
    | d d =>
      cases u2 with
      | d d2 =>
        cases R1' with
        | d R1' => cases R2 with
          | d R2 =>
            cases d <;> first | exact P2.elim | skip
            · cases d2 <;> first | exact P2.elim | skip
              obtain ⟨p, q, xs, ys, ex, ey, hq, hq2, w1, _⟩ := itr_zipL R1' R2
              subst ex ey
              exact ⟨p, q, xs, ys, rfl, .inl ⟨hK ▸ hq, hK ▸ hq2, hK ▸ P2.here S2 w1⟩⟩
            · cases d2 <;> first | exact P2.elim | skip
              obtain ⟨p, q, xs, ys, ex, ey, hq, hq2, w1⟩ := itr_zipT R1' R2
              subst ex ey
              exact ⟨p, q, xs, ys, rfl, .inr ⟨hK ▸ hq, hK ▸ hq2, hK ▸ P2.here S2 w1⟩⟩
      | _ => (cases d <;> exact P2.elim)
    | _ => exact P2.elim
/-- for i, (x, y) in enumerate(zip(a, b)) -/
theorem si_ezip (hK : X.K = G.K) {a b : Ce} {ea eb : Expr} {p p2 pos pos2 tpos : Pos} {elts : List Expr} {kk : Nat} (hp : plainE ea = true) (hp2 : plainE eb = true) (hg : Gl X "zip") (hm : X.mg "zip" = none) (hg2 : Gl X "enumerate") (hm2 : X.mg "enumerate" = none) (ha : SE X G W L a ea) (hb : SE X G W L b eb) :
    PI X (.Tuple elts kk tpos) (.Call (.Name "enumerate" p2) [.Call (.Name "zip" p) [ea, eb] [] pos] [] pos2) (tIs G W (denI L (.ezip a b))) := ⟨fun pins s σ H R I ⟨A, ρ, en, h, S, E, P⟩ => by
  simp only [denI] at P
  have args := (pa_cons ha (pa_cons hb pa_nil (plain_star hp2 [] X.env)) (plain_star hp [eb] X.env)).run pos pins s σ H (fun vs H2 => ∃ a b xs ys, vs = [.ref a, .ref b] ∧ SqL X.K H2 a xs ∧ SqL X.K H2 b ys ∧ R (Itez X.K a b) H2) I ⟨A, ρ, en, h, S, E, P.bind.mono fun x H1 ⟨u, h1, ρ1, E1, S1, R1, P1⟩ => ⟨A, ρ1, en, h1, S1, E.ext E1, P1.bind.mono fun y H2 ⟨u2, h2, ρ2, E2, S2, R2, P2⟩ => by
    have R1' := R1.ext E2
    cases u with
    | d d =>
      cases u2 with
      | d d2 =>
        cases R1' with
        | d R1' => cases R2 with
          | d R2 =>
            cases d <;> first | exact P2.elim | skip
            cases d2 <;> first | exact P2.elim | skip
            obtain ⟨p, q, xs, ys, ex, ey, hq, hq2, _, w1⟩ := itr_zipL R1' R2
            subst ex ey
            exact ⟨p, q, xs, ys, rfl, hK ▸ hq, hK ▸ hq2, hK ▸ P2.here S2 w1⟩
      | _ => (cases d <;> exact P2.elim)
    | _ => exact P2.elim⟩⟩
  have zipArg : wpAny (model X.prog X.w) X.A (eval (.Call (.Name "zip" p) [ea, eb] [] pos) X.env) (fun v s1 => ∃ (H1 : Hp) (a b : Addr) (xs ys : List V) (z : Addr), v = .ref z ∧ Inv X pins σ H1 s1 ∧ SqL X.K H1 a xs ∧ SqL X.K H1 b ys ∧ R (Itez X.K a b) H1 ∧
      ∃ TI TO i1 i2, ZipApart z TI TO i1 i2 a b ∧ ZipS s1.heap z TI TO i1 i2 a b 0 ∧ IsZip s1.heap z TI TO .none ∧ ∀ c ∈ [z, TI, TO, i1, i2], FpOk X pins H1 c) X.xe s := by
    refine Call_ (ld_blt I hg hm PyProof.Rows.boot_zip (PyProof.Rows.callWith_type1 (thn args fun us s1 ⟨vs, H1, I1, r1, a, b, xs, ys, ev, hqx, hqy, q⟩ => ?_) (plain_star hp [eb] X.env) (plain_stars (es := [eb]) (by simp [hp2]) pos X.env)))
    subst ev
    cases r1 with
    | cons r rr =>
      cases rr with
      | cons r' rr =>
        cases rr
        cases r
        cases r'
        obtain ⟨its, rv, p1, _⟩ := I1.list hqx
        obtain ⟨its2, rv2, p2, _⟩ := I1.list hqy
        refine call_zip_2 p1.isList p2.isList fun h' hz hTI hTO h1 h2 hsz hk => ?_
        have I2 : Inv X pins σ H1 { s1 with heap := h' } := I1.kept (t' := s1.toks) hk
        refine ⟨H1, a, b, xs, ys, _, rfl, I2, hqx, hqy, q, _, _, _, _, PySem.W.ktu_apart s1.heap.objs.size a b p1.lt p2.lt, ⟨⟨_, _, hz, .inl rfl⟩, hTI, ⟨_, _, hTO⟩, h1, h2⟩, hz, fun c hcm => ?_⟩
        have hle : s1.heap.objs.size ≤ c := by
          have e' : c = s1.heap.objs.size + 4 ∨ c = s1.heap.objs.size + 2 ∨ c = s1.heap.objs.size + 3 ∨ c = s1.heap.objs.size ∨ c = s1.heap.objs.size + 1 := by simpa using hcm
          rcases e' with z | z | z | z | z
          · rw [z]; exact Nat.le_add_right _ _
          · rw [z]; exact Nat.le_add_right _ _
          · rw [z]; exact Nat.le_add_right _ _
          · rw [z]; exact Nat.le_refl _
          · rw [z]; exact Nat.le_add_right _ _
        exact I1.fpOk hle (I1.hok.fresh hle)
  have args1 : wpAny (model X.prog X.w) X.A (spliced (backTo pos2 (starEach [.Call (.Name "zip" p) [ea, eb] [] pos] X.env))) (fun vs s1 => ∃ v, vs = [v] ∧ ∃ (H1 : Hp) (a b : Addr) (xs ys : List V) (z : Addr), v = .ref z ∧ Inv X pins σ H1 s1 ∧ SqL X.K H1 a xs ∧ SqL X.K H1 b ys ∧ R (Itez X.K a b) H1 ∧
      ∃ TI TO i1 i2, ZipApart z TI TO i1 i2 a b ∧ ZipS s1.heap z TI TO i1 i2 a b 0 ∧ IsZip s1.heap z TI TO .none ∧ ∀ c ∈ [z, TI, TO, i1, i2], FpOk X pins H1 c) X.xe s := by
    show wpAny _ _ (spliced [(false, eval (.Call (.Name "zip" p) [ea, eb] [] pos) X.env)]) _ _ s
    exact Calls.spliced_cons (thn zipArg fun u s1 q => Calls.spliced_nil ⟨u, rfl, q⟩)
  refine Call_ (ld_blt I hg2 hm2 boot_enumerate (PyProof.Rows.callWith_type1 (thn args1 fun us s1 ⟨v, ev, H1, a, b, xs, ys, z, ez, I1, hqx, hqy, q, TI, TO, i1, i2, D, S1, hz, fp⟩ => ?_) rfl rfl))
  subst ev ez
  refine z_call_enumZ hz fun h' he hk => wpAny_pyIter_enum he ?_
  have lt : ∀ c ∈ [z, TI, TO, i1, i2], c < s1.heap.objs.size := fun c hc => by
    obtain ⟨⟨f0, f, hz, _⟩, hTI, ⟨x, y, hTO⟩, ⟨o1, e1, _, d1⟩, ⟨o2, e2, _, d2⟩⟩ := S1
    have e' : c = z ∨ c = TI ∨ c = TO ∨ c = i1 ∨ c = i2 := by simpa using hc
    rcases e' with q | q | q | q | q
    · rw [q]; exact Heap.lt_size hz
    · rw [q]; exact Heap.lt_size hTI
    · rw [q]; exact Heap.lt_size hTO
    · rw [q]; exact Heap.lt_size e1
    · rw [q]; exact Heap.lt_size e2
  refine ⟨_, _, _, _, H1, rfl, I1.kept (t' := s1.toks) hk, turn_ezip D (fun m => Nat.lt_irrefl _ (lt _ m)), ⟨⟨_, he⟩, S1.keep fun c _ o q => hk c o q⟩, fun c hc => ?_, q⟩
  rcases List.mem_cons.mp hc with hc | hc
  · rw [hc]; exact I1.fpOk (Nat.le_refl _) (I1.hok.fresh (Nat.le_refl _))
  · exact fp c hc⟩
end
end L2

set_option Elab.async false
set_option linter.all false
set_option autoImplicit false
set_option maxRecDepth 100000
set_option maxHeartbeats 4000000
/-! Z8: comprehensions. -/
namespace L2
open PySem PySem.Spec PyProof.Rows Z
section
variable {G : Gx} {A B : Addr → Prop} {ρ : List Addr} {h : MH} {H H' : Hp}
theorem RpAll.keepA (h : ∀ a, B a → A a) {vs : List V} {ds : List PyData} (r : RpAll G A H vs ds) : RpAll G B H vs ds := r.keep (Kp.of (fun a o e n => ⟨e, fun z => n (h a z)⟩) fun _ _ _ e => e)
/-- the small heap stands while its objects and what they lean on stand, another set of strangers -/
theorem Sim.re (S : Sim G A ρ h H) (k : Kp (Av A ρ) (Av B ρ) H H') (kr : ∀ a o, a ∈ ρ → H a = some o → H' a = some o) (far : ∀ a, B a → H' a ≠ none ∧ a ∉ ρ) : Sim G B ρ h H' :=
  ⟨S.len, S.nd, far, fun n c a hc ha => (S.cell n c a hc ha).mv (fun o q => kr a o (List.mem_of_getElem? ha) q) (fun r => r.keep k) fun r => r.re k fun _ _ z => z⟩
theorem EnvR.re (k : Kp (Av A ρ) (Av B ρ) H H') {σ : St} {e : Z.Env} (E : EnvR G A ρ H σ e) : EnvR G B ρ H' σ e :=
  ⟨E.len, fun i v h => let ⟨x, h1, h2⟩ := E.at_ i v h; ⟨x, h1, h2.re k fun _ _ z => z⟩⟩
theorem Ext.less {ρ' : List Addr} (hAB : ∀ a, A a → B a) (e : Ext B ρ H ρ' H') : Ext A ρ H ρ' H' :=
  ⟨e.pre, e.new, fun a o h n => by
    rcases e.keep a o h n with z | ⟨na, r⟩
    · exact .inl z
    · exact .inr ⟨fun z => na (hAB a z), r⟩, e.live, e.frzs⟩
/-- a stranger stays as it is -/
theorem Ext.strg {ρ' : List Addr} (e : Ext A ρ H ρ' H') {a : Addr} {o : HO} (h : H a = some o) (n : a ∉ ρ) (m : A a) : H' a = some o := by
  rcases e.keep a o h n with z | ⟨na, _⟩
  · exact z
  · exact absurd m na
/-- a stranger becomes one of the small heap -/
theorem Sim.adopt {D : Addr} {xs : List V} {vs : List Val} (S : Sim G (fun b => A b ∨ b = D) ρ h H) (hD : H D = some (.lst xs)) (r : RepVs G (fun b => A b ∨ b = D) ρ H xs vs) (nA : ¬ A D) : Sim G A (ρ ++ [D]) (h ++ [.lst vs]) H := by
  have k : Kp (Av (fun b => A b ∨ b = D) ρ) (Av A (ρ ++ [D])) H H := Kp.of (f := fun _ _ _ e => e) fun a o e n => ⟨e, fun z => by
    rcases z with z | z
    · exact n (.inl (.inl z))
    · rcases List.mem_append.mp z with z | z
      · exact n (.inr z)
      · exact n (.inl (.inr (List.mem_singleton.mp z)))⟩
  have pre : ∀ (n : Nat) a, ρ[n]? = some a → (ρ ++ [D])[n]? = some a := fun n a q => by rw [List.getElem?_append_left (List.getElem?_eq_some_iff.mp q).1]; exact q
  have Dρ := (S.far D (.inr rfl)).2
  refine ⟨by simp [S.len], ?_, fun b z => ⟨(S.far b (.inl z)).1, fun m => ?_⟩, fun n c b hc hb => ?_⟩
  · rw [List.nodup_append]
    exact ⟨S.nd, by simp, fun b hb c hc => by rw [List.mem_singleton.mp hc]; exact fun e => Dρ (e ▸ hb)⟩
  · rcases List.mem_append.mp m with m | m
    · exact (S.far b (.inl z)).2 m
    · rw [List.mem_singleton.mp m] at z; exact nA z
  · rcases getElem?_snoc hc with hc | ⟨e1, e2⟩
    · have hlt : n < ρ.length := by rw [S.len]; exact (List.getElem?_eq_some_iff.mp hc).1
      rw [List.getElem?_append_left hlt] at hb
      exact (S.cell n c b hc hb).mv (fun o q => q) (fun r => r.keep k) fun r => r.re k pre
    · subst e1 e2
      rw [← S.len, List.getElem?_append_right (Nat.le_refl _)] at hb
      simp at hb
      subst hb
      exact .lst hD (Paired.mapP r fun _ _ z => z.re k pre)
theorem Ext.adopt {D : Addr} {ρ' : List Addr} (e : Ext A ρ H ρ' H') (hD : H D = none) : Ext A ρ H (ρ' ++ [D]) H' :=
  ⟨fun n a q => by
    have z := e.pre n a q
    rw [List.getElem?_append_left (List.getElem?_eq_some_iff.mp z).1]; exact z, fun a m => by
    rcases List.mem_append.mp m with m | m
    · exact e.new a m
    · rw [List.mem_singleton.mp m]; exact .inr hD, e.keep, e.live, e.frzs⟩
end
/-- an exception's wish in a comprehension's block -/
abbrev W0 : WX := fun _ _ _ _ => False
section
variable {X : Cx} {G : Gx} {W : WX} {L : Lib} {tg iter elt : Expr} {pos : Pos}
abbrev ST1 (X : Cx) (G : Gx) (L : Lib) (c : Ces) (ifs : List Expr) : Prop := PTs X ifs (tT G W0 (denC L c))
theorem PTs.imp {ifs : List Expr} {t t' : TT} (h : PTs X ifs t) (q : ∀ σ H Q, t' σ H Q → t σ H Q) : PTs X ifs t' := ⟨fun pins s σ H Q I r => h.run pins s σ H Q I (q _ _ _ r)⟩
theorem sc_nil : ST1 X G L .nil [] := PTs.imp pts_nil fun σ H Q ⟨A, ρ, en, h, S, E, P⟩ => by
  simp only [denC] at P; exact P.here S rfl
theorem sc_one {a : Ce} {ea : Expr} (ha : ST_ X G W0 L a ea) : ST1 X G L (.cons a .nil) [ea] := PTs.imp (pts_one ha) fun σ H Q ⟨A, ρ, en, h, S, E, P⟩ => by
  simp only [denC] at P; exact ⟨A, ρ, en, h, S, E, P⟩
/-- one turn's meaning -/
def turnC (L : Lib) (t : Ct) (c : Ces) (a : Ce) (own : List Nat) (e : Z.Env) : PyData → MH → Res (Option PyData) := fun x h => match bindT t (.d x) (wipeE e own) with
  | none => .bad
  | some e1 => (denC L c e1 h).bind fun b h => if b then (den L a e1 h).bind fun v h => lift h ((dat v).map some) else .ok none h
def turnV (L : Lib) (t : Ct) (c : Ces) (a : Ce) (own : List Nat) (e : Z.Env) : Val → MH → Res (Option Val) := fun x h => match bindT t x (wipeE e own) with
  | none => .bad
  | some e1 => (denC L c e1 h).bind fun b h => if b then (den L a e1 h).bind fun v h => .ok (some v) h else .ok none h
def compD (L : Lib) (t : Ct) (src : Ci) (c : Ces) (a : Ce) (own : List Nat) : Z.Env → MH → Res Val := fun e h => (denI L src e h).bind fun s h => match s with
  | .items ds => (compRun (turnC L t c a own e) ds h []).bind fun ds h => .ok (.d (.list ds)) h
  | .live n len => (compGo (turnV L t c a own e) (.live n len) len h []).bind fun vs h => lift h ((dats vs).map fun ds => .d (.list ds))
def compDR (L : Lib) (t : Ct) (src : Ci) (c : Ces) (a : Ce) (own : List Nat) : Z.Env → MH → Res Val := fun e h => (denI L src e h).bind fun s h => (compGo (turnV L t c a own e) s s.len h []).bind fun vs h => .ok (.ref h.length) (h ++ [.lst vs])
theorem den_comp (t : Ct) (src : Ci) (c : Ces) (a : Ce) (own : List Nat) (e : Z.Env) (h : MH) : den L (.comp t src c a own) e h = compD L t src c a own e h := by
  rw [den]; rfl
theorem den_compR (t : Ct) (src : Ci) (c : Ces) (a : Ce) (own : List Nat) (e : Z.Env) (h : MH) : den L (.compR t src c a own) e h = compDR L t src c a own e h := by
  rw [den]; rfl
theorem denF_comp (t : Ct) (src : Ci) (c : Ces) (a : Ce) (own : List Nat) (e : Z.Env) (h : MH) : denF L (.comp t src c a own) e h = compD L t src c a own e h := by
  rw [denF]; rfl
theorem compRun_cons {step : PyData → MH → Res (Option PyData)} {x : PyData} {xs : List PyData} {h : MH} {acc : List PyData} {ds : List PyData} {h2 : MH} (e : compRun step (x :: xs) h acc = .ok ds h2) :
    (∃ y h1, step x h = .ok (some y) h1 ∧ acc.length < sizeLine ∧ compRun step xs h1 (acc ++ [y]) = .ok ds h2) ∨ (∃ h1, step x h = .ok none h1 ∧ compRun step xs h1 acc = .ok ds h2) := by
  rw [compRun] at e
  split at e
  · rename_i y h1 hs
    split at e
    · rename_i hz; exact .inl ⟨y, h1, hs, hz, e⟩
    · cases e
  · rename_i h1 hs; exact .inr ⟨h1, hs, e⟩
  · cases e
theorem compRun_not_exc {step : PyData → MH → Res (Option PyData)} {c : Str} {h2 : MH} : ∀ {xs : List PyData} {h : MH} {acc : List PyData}, compRun step xs h acc ≠ .exc c h2
  | [], h, acc, e => by rw [compRun] at e; cases e
  | x :: xs, h, acc, e => by
    rw [compRun] at e
    split at e
    · split at e
      · exact compRun_not_exc e
      · cases e
    · exact compRun_not_exc e
    · cases e
theorem compGo_succ {step : Val → MH → Res (Option Val)} {s : Src} {k : Nat} {h : MH} {acc : List Val} {out : List Val} {h2 : MH} (e : compGo step s (k + 1) h acc = .ok out h2) :
    ∃ x, srcAt h s (s.len - (k + 1)) = some x ∧ ((∃ y h1, step x h = .ok (some y) h1 ∧ acc.length < sizeLine ∧ compGo step s k h1 (acc ++ [y]) = .ok out h2) ∨ (∃ h1, step x h = .ok none h1 ∧ compGo step s k h1 acc = .ok out h2)) := by
  rw [compGo] at e
  split at e
  · cases e
  · rename_i x hx
    refine ⟨x, hx, ?_⟩
    split at e
    · rename_i y h1 hs
      split at e
      · rename_i hz; exact .inl ⟨y, h1, hs, hz, e⟩
      · cases e
    · rename_i h1 hs; exact .inr ⟨h1, hs, e⟩
    · cases e
theorem compGo_not_exc {step : Val → MH → Res (Option Val)} {s : Src} {c : Str} {h2 : MH} : ∀ {k : Nat} {h : MH} {acc : List Val}, compGo step s k h acc ≠ .exc c h2
  | 0, h, acc, e => by
    rw [compGo] at e
    split at e <;> cases e
  | k + 1, h, acc, e => by
    rw [compGo] at e
    split at e
    · cases e
    · split at e
      · split at e
        · exact compGo_not_exc e
        · cases e
      · exact compGo_not_exc e
      · cases e
/-- over data both are one -/
theorem compRun_go {t : Ct} {c : Ces} {a : Ce} {own : List Nat} {en : Z.Env} {ds : List PyData} {out : List PyData} {hf : MH} : ∀ {k : Nat} {h : MH} {acc : List PyData}, k ≤ ds.length → compRun (turnC L t c a own en) (ds.drop (ds.length - k)) h acc = .ok out hf → compGo (turnV L t c a own en) (.items ds) k h (acc.map Val.d) = .ok (out.map Val.d) hf := by
  intro k
  induction k with
  | zero =>
    intro h acc hk e
    rw [Nat.sub_zero, List.drop_length, compRun] at e
    cases e
    rw [compGo]
    simp [srcEnd]
  | succ k ih =>
    intro h acc hk e
    have hlt : ds.length - (k + 1) < ds.length := by omega
    rw [List.drop_eq_getElem_cons hlt] at e
    have e1 : ds.length - (k + 1) + 1 = ds.length - k := by omega
    rw [e1] at e
    have hx : srcAt h (.items ds) ((Src.items ds).len - (k + 1)) = some (.d ds[ds.length - (k + 1)]) := by
      simp only [srcAt, Src.len]
      rw [List.getElem?_eq_getElem hlt]; rfl
    rw [compGo, hx]
    dsimp only
    have key : ∀ r, turnC L t c a own en ds[ds.length - (k + 1)] h = r → (∀ y h1, r = .ok (some y) h1 → turnV L t c a own en (.d ds[ds.length - (k + 1)]) h = .ok (some (.d y)) h1) ∧ (∀ h1, r = .ok none h1 → turnV L t c a own en (.d ds[ds.length - (k + 1)]) h = .ok none h1) := by
      intro r er
      unfold turnC at er
      unfold turnV
      cases hb : bindT t (.d ds[ds.length - (k + 1)]) (wipeE en own) with
      | none => rw [hb] at er; dsimp only at er; subst er; exact ⟨fun _ _ z => by (cases z), fun _ z => by (cases z)⟩
      | some e1 =>
        rw [hb] at er
        dsimp only at er ⊢
        cases hc : denC L c e1 h with
        | bad => rw [hc] at er; subst er; exact ⟨fun _ _ z => by (cases z), fun _ z => by (cases z)⟩
        | exc c' h3 => rw [hc] at er; subst er; exact ⟨fun _ _ z => by (cases z), fun _ z => by (cases z)⟩
        | ok b h3 =>
          rw [hc] at er
          simp only [Res.bind_ok] at er ⊢
          cases b with
          | false =>
            simp only [Bool.false_eq_true, if_false] at er ⊢
            subst er
            exact ⟨fun _ _ z => by (cases z), fun _ z => by (cases z; rfl)⟩
          | true =>
            simp only [if_true] at er ⊢
            cases hv : den L a e1 h3 with
            | bad => rw [hv] at er; subst er; exact ⟨fun _ _ z => by (cases z), fun _ z => by (cases z)⟩
            | exc c' h4 => rw [hv] at er; subst er; exact ⟨fun _ _ z => by (cases z), fun _ z => by (cases z)⟩
            | ok v h4 =>
              rw [hv] at er
              simp only [Res.bind_ok] at er ⊢
              cases hdv : dat v with
              | none => rw [hdv] at er; subst er; exact ⟨fun _ _ z => by (cases z), fun _ z => by (cases z)⟩
              | some dv =>
                rw [hdv] at er
                have ev : v = .d dv := by
                  cases v <;> simp [dat] at hdv
                  rw [hdv]
                subst ev er
                exact ⟨fun _ _ z => by (cases z; rfl), fun _ z => by (cases z)⟩
    rcases compRun_cons e with ⟨y, h1, q1, q2, q3⟩ | ⟨h1, q1, q2⟩
    · rw [(key _ q1).1 y h1 rfl]
      dsimp only
      rw [List.length_map, if_pos q2]
      have := ih (by omega) q3
      simpa using this
    · rw [(key _ q1).2 h1 rfl]
      exact ih (by omega) q2
/-- what is behind a piece that has made a new list, no one else's yet -/
def PostF (G : Gx) (A : Addr → Prop) (W : WX) (σ : St) (ρ : List Addr) (H : Hp) (r : Res Val) (Q : VK) : Prop := match r with
  | .ok v h' => ∀ ρ' H' a xs ds, v = .d (.list ds) → Ext A ρ H ρ' H' → Sim G (fun b => A b ∨ b = a) ρ' h' H' → H a = none → H' a = some (.lst xs) → RpAll G (Av (fun b => A b ∨ b = a) ρ') H' xs ds → Q (.ref a) H'
  | .exc c h' => ∀ ρ' H', Ext A ρ H ρ' H' → Sim G A ρ' h' H' → W (.ref (G.cx c)) none σ H'
  | .bad => False
theorem PostF.ext {A : Addr → Prop} {σ : St} {ρ ρ1 : List Addr} {H H1 : Hp} {r : Res Val} {Q : VK} (p : PostF G A W σ ρ H r Q) (e : Ext A ρ H ρ1 H1) : PostF G A W σ ρ1 H1 r Q := by
  cases r with
  | ok v h => exact fun ρ' H' a xs ds ev e' s hn => p ρ' H' a xs ds ev (e.trans e') s (by
      cases q : H a with
      | none => rfl
      | some o => exact absurd hn (e.live a (by rw [q]; simp)))
  | exc c h => exact fun ρ' H' e' => p ρ' H' (e.trans e')
  | bad => exact p
theorem PostF.bind {α β : Type} {R : List Addr → Hp → β → α → Prop} {A : Addr → Prop} {σ : St} {ρ : List Addr} {H : Hp} {r : Res α} {k : α → MH → Res Val} {Q : VK} (p : PostF G A W σ ρ H (r.bind k) Q) :
    Post G A W σ R ρ H r (fun x H1 => ∃ v h1 ρ1, Ext A ρ H ρ1 H1 ∧ Sim G A ρ1 h1 H1 ∧ R ρ1 H1 x v ∧ PostF G A W σ ρ1 H1 (k v h1) Q) := by
  cases r with
  | ok v h => exact fun ρ' H' x e s rr => ⟨v, h, ρ', e, s, rr, PostF.ext (r := k v h) p e⟩
  | exc c h => exact p
  | bad => exact p
theorem PostF.lift {A : Addr → Prop} {σ : St} {ρ : List Addr} {H : Hp} {o : Option Val} {h : MH} {Q : VK} (p : PostF G A W σ ρ H (Z.lift h o) Q) : ∃ v, o = some v ∧ PostF G A W σ ρ H (.ok v h) Q := by
  cases o with
  | none => exact False.elim p
  | some v => exact ⟨v, rfl, p⟩
theorem Sim.less {A : Addr → Prop} {a : Addr} {ρ : List Addr} {h : MH} {H : Hp} (S : Sim G (fun b => A b ∨ b = a) ρ h H) : Sim G A ρ h H :=
  S.re (Kp.of (fun b o e n => ⟨e, fun z => n (z.elim (fun q => .inl (.inl q)) .inr)⟩) fun _ _ _ e => e) (fun b o _ e => e) fun b z => S.far b (.inl z)
theorem Post.toF {A : Addr → Prop} {σ : St} {ρ : List Addr} {H : Hp} {r : Res Val} {Q : VK} (S0 : ∀ a, A a → H a ≠ none) (p : Post G A W σ (RepV G A) ρ H r Q) : PostF G A W σ ρ H r Q := by
  cases r with
  | ok v h =>
      intro ρ' H' a xs ds ev e s hn hl rp
      subst ev
      refine p ρ' H' _ e s.less (.d (.lst hl (fun z => ?_) (rp.keepA fun b z => z.elim (fun q => .inl (.inl q)) .inr)))
      rcases z with z | z
      · exact S0 a z hn
      · exact (s.far a (.inr rfl)).2 z
  | exc c h => exact p
  | bad => exact p
def tF (G : Gx) (W : WX) (d : Z.Env → MH → Res Val) : TE := fun σ H Q => ∃ A ρ e h, Sim G A ρ h H ∧ EnvR G A ρ H σ e ∧ PostF G A W σ ρ H (d e h) Q
theorem tF_of {d : Z.Env → MH → Res Val} {σ : St} {H : Hp} {Q : VK} (q : tE G W d σ H Q) : tF G W d σ H Q := by
  obtain ⟨A, ρ, e, h, S, E, P⟩ := q
  exact ⟨A, ρ, e, h, S, E, P.toF fun a z => (S.far a z).1⟩
/-- a comprehension's turns -/
theorem comp_core {σ : St} {H1 : Hp} {Q : VK} {A : Addr → Prop} {ρ1 : List Addr} {en : Z.Env} {h1 hf : MH} {t : Ct} {c : Ces} {a : Ce} {own : List Nat} {J : It} {s : Src} {out : List Val} {D : Addr} (hown : ∀ i ∈ tG.slotsT t, i ∈ own) (S1 : Sim G A ρ1 h1 H1) (R1 : ItR G A ρ1 H1 J s) (E : EnvR G A ρ1 H1 σ en)
    (hr : compGo (turnV L t c a own en) s s.len h1 [] = .ok out hf) (hD : H1 D = none)
    (fin : ∀ ρ' H' xs, Ext A ρ1 H1 ρ' H' → Sim G (fun b => A b ∨ b = D) ρ' hf H' → H' D = some (.lst xs) → RepVs G (fun b => A b ∨ b = D) ρ' H' xs out → Q (.ref D) H') :
    ∃ Wv : Nat → Nat → Hp → Prop, (∃ m, Wv 0 m (upd H1 D (.lst []))) ∧ ∀ i m H, Wv i m H → (J.stop i H ∧ Q (.ref D) H) ∨ (J.go i H ∧ ∃ Nx : Hp → Prop, (∀ H', Nx H' → ∃ m', m' < m ∧ Wv (i + 1) m' H') ∧ ∀ x H', J.yld i H x H' →
      tG G t x (wipe σ own) H' fun σ2 H2 => wipe σ2 own = wipe σ own ∧ tT G W0 (denC L c) σ2 H2 fun b H3 => if b = true then tE G W0 (den L a) σ2 H3 fun y H4 => ∃ acc, H4 D = some (.lst acc) ∧ acc.length < sizeLine ∧ Nx (upd H4 D (.lst (acc ++ [y]))) else Nx H3) := by
  let B : Addr → Prop := fun b => A b ∨ b = D
  have hAB : ∀ b, A b → B b := fun b z => .inl z
  have hB : ∀ b, B b → A b ∨ H1 b = none := fun b z => z.elim .inl fun q => .inr (by rw [q]; exact hD)
  have nD : ∀ {b o}, H1 b = some o → b ≠ D := fun {b o} e z => by rw [z, hD] at e; cases e
  have kD : Kp (Av A ρ1) (Av B ρ1) H1 (upd H1 D (.lst [])) := Kp.of (f := Kp.up (nf_none hD)) fun b o e n =>
    ⟨by rw [upd_ne (nD e)]; exact e, fun z => by
      rcases z with (z | z) | z
      · exact n (.inl z)
      · exact nD e z
      · exact n (.inr z)⟩
  have Dρ : D ∉ ρ1 := fun m => S1.tracked m hD
  have S1' : Sim G B ρ1 h1 (upd H1 D (.lst [])) := S1.re kD (fun b o m e => by rw [upd_ne (nD e)]; exact e) fun b z => by
    rcases z with z | z
    · exact ⟨by rw [upd_ne (fun q => (S1.far b z).1 (by rw [q]; exact hD))]; exact (S1.far b z).1, (S1.far b z).2⟩
    · rw [z]; exact ⟨by rw [upd_same]; simp, Dρ⟩
  have E1' : EnvR G B ρ1 (upd H1 D (.lst [])) σ en := E.re kD
  refine ⟨fun i m H' => ∃ ρ' h' acc xs, m = s.len - i ∧ i ≤ s.len ∧ Ext A ρ1 H1 ρ' H' ∧ Sim G B ρ' h' H' ∧ EnvR G B ρ' H' σ en ∧ H' D = some (.lst xs) ∧ RepVs G B ρ' H' xs acc ∧ compGo (turnV L t c a own en) s (s.len - i) h' acc = .ok out hf,
    ⟨s.len, ρ1, h1, [], [], by simp, Nat.zero_le _, Ext.laid hD, S1', E1', upd_same, .nil, by simpa using hr⟩, ?_⟩
  rintro i m H' ⟨ρ', h', acc, xs, rfl, hi, X1, S', E', hDl, rp, hrun⟩
  by_cases hlt : i < s.len
  · have hk : s.len - i = (s.len - (i + 1)) + 1 := by omega
    rw [hk] at hrun
    obtain ⟨v, hv, hcase⟩ := compGo_succ hrun
    have hidx : s.len - (s.len - (i + 1) + 1) = i := by omega
    rw [hidx] at hv
    have walk := walk_at R1 hAB X1 hB S' hlt hv
    refine .inr ⟨walk.1, fun H2 => ∃ ρ' h' acc xs, i + 1 ≤ s.len ∧ Ext A ρ1 H1 ρ' H2 ∧ Sim G B ρ' h' H2 ∧ EnvR G B ρ' H2 σ en ∧ H2 D = some (.lst xs) ∧ RepVs G B ρ' H2 xs acc ∧ compGo (turnV L t c a own en) s (s.len - (i + 1)) h' acc = .ok out hf,
      fun H2 ⟨ρ', h', acc, xs, q1, q2, q3, q4, q5, q6, q7⟩ => ⟨s.len - (i + 1), by omega, ρ', h', acc, xs, rfl, q1, q2, q3, q4, q5, q6, q7⟩, fun x H2 y => ?_⟩
    obtain ⟨X2, S2, rx⟩ := walk.2 x H2 y
    have hDB : ¬ (D ∈ ρ') := (S'.far D (.inr rfl)).2
    have hD2 : H2 D = some (.lst xs) := X2.strg hDl hDB (.inr rfl)
    have E2 : EnvR G B ρ' H2 σ en := E'.ext X2
    have rp2 : RepVs G B ρ' H2 xs acc := RepVs.ext X2 rp
    have X12 : Ext A ρ1 H1 ρ' H2 := X1.trans (X2.less hAB)
    have turn : ∀ r, turnV L t c a own en v h' = r → (∃ y h1, r = .ok (some y) h1) ∨ (∃ h1, r = .ok none h1) → ∃ e1, bindT t v (wipeE en own) = some e1 ∧ ((denC L c e1 h').bind fun b h => if b then (den L a e1 h).bind fun v h => .ok (some v) h else .ok none h) = r := fun r er hr => by
      unfold turnV at er
      split at er
      · rename_i hb
        rcases hr with ⟨y, h1, q⟩ | ⟨h1, q⟩ <;> (rw [q] at er; cases er)
      · rename_i e1 hb; exact ⟨e1, hb, er⟩
    have steps : ∃ r, turnV L t c a own en v h' = r ∧ ((∃ y h1, r = .ok (some y) h1 ∧ acc.length < sizeLine ∧ compGo (turnV L t c a own en) s (s.len - (i + 1)) h1 (acc ++ [y]) = .ok out hf) ∨ (∃ h1, r = .ok none h1 ∧ compGo (turnV L t c a own en) s (s.len - (i + 1)) h1 acc = .ok out hf)) := by
      rcases hcase with ⟨y, h1, q1, q2, q3⟩ | ⟨h1, q1, q2⟩
      · exact ⟨_, q1, .inl ⟨y, h1, rfl, q2, q3⟩⟩
      · exact ⟨_, q1, .inr ⟨h1, rfl, q2⟩⟩
    obtain ⟨r, er, hcase⟩ := steps
    obtain ⟨e1, hb, er2⟩ := turn r er (hcase.elim (fun ⟨y, h1, q, _⟩ => .inl ⟨y, h1, q⟩) fun ⟨h1, q, _⟩ => .inr ⟨h1, q⟩)
    refine ⟨B, ρ', h', wipeE en own, v, e1, S2, E2.wipe_ own, rx, hb, fun σ2 E3 hw => ⟨?_, B, ρ', e1, h', S2, E3, ?_⟩⟩
    · have := hw own hown
      rw [this]
      have ww : ∀ (τ : St) (vs ws : List Nat), (∀ i ∈ vs, i ∈ ws) → wipe (wipe τ vs) ws = wipe τ ws := by
        intro τ vs
        induction vs with
        | nil => intro ws _; rfl
        | cons v vs ih =>
          intro ws hs
          show wipe ((wipe τ vs).set v none) ws = wipe τ ws
          rw [wipe_set (hs v List.mem_cons_self), ih ws fun i hi => hs i (List.mem_cons_of_mem _ hi)]
      exact ww σ own own fun _ h => h
    cases hc : denC L c e1 h' with
    | exc c' h3 =>
      rw [hc] at er2
      simp only [Res.bind_exc] at er2
      rcases hcase with ⟨y, h1, q, _⟩ | ⟨h1, q, _⟩ <;> (rw [q] at er2; cases er2)
    | bad =>
      rw [hc] at er2
      simp only [Res.bind_bad] at er2
      rcases hcase with ⟨y, h1, q, _⟩ | ⟨h1, q, _⟩ <;> (rw [q] at er2; cases er2)
    | ok b h3 =>
      rw [hc] at er2
      simp only [Res.bind_ok] at er2
      intro ρ3 H3 b' X3 S3 eb
      subst eb
      have X13 : Ext A ρ1 H1 ρ3 H3 := X12.trans (X3.less hAB)
      have hD3 : H3 D = some (.lst xs) := X3.strg hD2 hDB (.inr rfl)
      have rp3 : RepVs G B ρ3 H3 xs acc := RepVs.ext X3 rp2
      cases b' with
      | false =>
        simp only [Bool.false_eq_true, if_false] at er2 ⊢
        rcases hcase with ⟨y, h4, q, _⟩ | ⟨h4, q, q2⟩
        · rw [q] at er2; cases er2
        · rw [q] at er2; cases er2
          exact ⟨ρ3, h3, acc, xs, hlt, X13, S3, E2.ext X3, hD3, rp3, q2⟩
      | true =>
        simp only [if_true] at er2 ⊢
        refine ⟨B, ρ3, e1, h3, S3, E3.ext X3, ?_⟩
        cases hv : den L a e1 h3 with
        | exc c' h4 =>
          rw [hv] at er2
          simp only [Res.bind_exc] at er2
          rcases hcase with ⟨y, h1, q, _⟩ | ⟨h1, q, _⟩ <;> (rw [q] at er2; cases er2)
        | bad =>
          rw [hv] at er2
          simp only [Res.bind_bad] at er2
          rcases hcase with ⟨y, h1, q, _⟩ | ⟨h1, q, _⟩ <;> (rw [q] at er2; cases er2)
        | ok v h4 =>
          rw [hv] at er2
          simp only [Res.bind_ok] at er2
          intro ρ4 H4 y X4 S4 ry
          have hDB3 : D ∉ ρ3 := (S3.far D (.inr rfl)).2
          have hDB4 : D ∉ ρ4 := (S4.far D (.inr rfl)).2
          rcases hcase with ⟨y2, h5, q, q2, q3⟩ | ⟨h5, q, _⟩
          · rw [q] at er2
            cases er2
            have hD4 : H4 D = some (.lst xs) := X4.strg hD3 hDB3 (.inr rfl)
            have rp4 : RepVs G B ρ4 H4 xs acc := RepVs.ext X4 rp3
            have kp : Kp (Av B ρ4) (Av B ρ4) H4 (upd H4 D (.lst (xs ++ [y]))) := Kp.of (f := Kp.up fun ob u z => by rw [hD4] at z; cases z) fun b o e n => ⟨by rw [upd_ne (fun (z : b = D) => n (.inl (.inr z)))]; exact e, n⟩
            refine ⟨xs, hD4, by rw [Paired.length rp3]; exact q2, ρ4, h4, acc ++ [v], xs ++ [y], hlt, ?_, ?_, ?_, upd_same, ?_, q3⟩
            · have X14 : Ext A ρ1 H1 ρ4 H4 := X13.trans (X4.less hAB)
              refine ⟨X14.pre, X14.new, fun b o e n => ?_, fun b e => ?_, fun b ob u e => by rw [upd_ne (nD e)]; exact X14.frzs b ob u e⟩
              · unfold Ks; rw [upd_ne (nD e)]; exact X14.keep b o e n
              · by_cases hb : b = D
                · rw [hb, upd_same]; simp
                · rw [upd_ne hb]; exact X14.live b e
            · refine S4.re kp (fun b o m e => by rw [upd_ne (fun (z : b = D) => hDB4 (by rw [← z]; exact m))]; exact e) fun b z => ⟨?_, (S4.far b z).2⟩
              by_cases hb : b = D
              · rw [hb, upd_same]; simp
              · rw [upd_ne hb]; exact (S4.far b z).1
            · exact ((E2.ext X3).ext X4).re kp
            · have ap : ∀ {xs : List V} {acc : List Val} {y : V} {y2 : Val}, RepVs G B ρ4 H4 xs acc → RepV G B ρ4 H4 y y2 → RepVs G B ρ4 H4 (xs ++ [y]) (acc ++ [y2]) := by
                intro xs acc y y2 r1 r2
                induction r1 with
                | nil => exact .cons r2 .nil
                | cons r t ih => exact .cons r ih
              exact Paired.mapP (ap rp4 ry) fun _ _ z => z.re kp fun _ _ z => z
          · rw [q] at er2; cases er2
  · have ei : i = s.len := by omega
    subst ei
    rw [Nat.sub_self, compGo] at hrun
    split at hrun
    · rename_i he
      cases hrun
      exact .inl ⟨walk_stop R1 hAB X1 hB S' he, fin ρ' H' xs X1 S' hDl rp⟩
    · cases hrun
/-- the reading of a comprehension -/
theorem comp_reads {σ : St} {H : Hp} {Q : VK} {A : Addr → Prop} {ρ : List Addr} {en : Z.Env} {h : MH} {t : Ct} {src : Ci} {c : Ces} {a : Ce} {own : List Nat} (hown : ∀ i ∈ tG.slotsT t, i ∈ own) (S : Sim G A ρ h H) (E : EnvR G A ρ H σ en)
    (P : PostF G A W σ ρ H (compD L t src c a own en h) Q) : tLc (tIs G W (denI L src)) (tG G t) (tT G W0 (denC L c)) (tE G W0 (den L a)) own σ H Q := by
  unfold compD at P
  refine ⟨A, ρ, en, h, S, E, P.bind.mono fun J H1 ⟨s, h1, ρ1, E1, S1, R1, P1⟩ D hD => ?_⟩
  cases s with
  | items ds =>
    dsimp only at P1
    cases hr : compRun (turnC L t c a own en) ds h1 [] with
    | bad => rw [hr] at P1; exact P1.elim
    | exc c' h' => exact absurd hr compRun_not_exc
    | ok out hf =>
      rw [hr] at P1
      simp only [Res.bind_ok] at P1
      have go := compRun_go (k := ds.length) (ds := ds) (Nat.le_refl _) (by simpa using hr)
      exact comp_core hown S1 R1 (E.ext E1) go hD fun ρ' H' xs X S' hl r => P1 ρ' H' D xs _ rfl X S' hD hl (RepVs.dats r)
  | live n len =>
    dsimp only at P1
    cases hr : compGo (turnV L t c a own en) (.live n len) len h1 [] with
    | bad => rw [hr] at P1; exact P1.elim
    | exc c' h' => exact absurd hr compGo_not_exc
    | ok out hf =>
      rw [hr] at P1
      simp only [Res.bind_ok] at P1
      obtain ⟨v, ev, P2⟩ := P1.lift
      rw [Option.map_eq_some_iff] at ev
      obtain ⟨ds, e1, e2⟩ := ev
      subst e2
      exact comp_core hown S1 R1 (E.ext E1) hr hD fun ρ' H' xs X S' hl r => P2 ρ' H' D xs _ rfl X S' hD hl (dats_rep r e1)
/-- a list of values, refs too: a new one of the small heap -/
theorem compR_reads {σ : St} {H : Hp} {Q : VK} {A : Addr → Prop} {ρ : List Addr} {en : Z.Env} {h : MH} {t : Ct} {src : Ci} {c : Ces} {a : Ce} {own : List Nat} (hown : ∀ i ∈ tG.slotsT t, i ∈ own) (S : Sim G A ρ h H) (E : EnvR G A ρ H σ en)
    (P : Post G A W σ (RepV G A) ρ H (compDR L t src c a own en h) Q) : tLc (tIs G W (denI L src)) (tG G t) (tT G W0 (denC L c)) (tE G W0 (den L a)) own σ H Q := by
  unfold compDR at P
  refine ⟨A, ρ, en, h, S, E, P.bind.mono fun J H1 ⟨s, h1, ρ1, E1, S1, R1, P1⟩ D hD => ?_⟩
  cases hr : compGo (turnV L t c a own en) s s.len h1 [] with
  | bad => rw [hr] at P1; exact P1.elim
  | exc c' h' => exact absurd hr compGo_not_exc
  | ok out hf =>
    rw [hr] at P1
    simp only [Res.bind_ok] at P1
    refine comp_core hown S1 R1 (E.ext E1) hr hD fun ρ' H' xs X S' hl r => ?_
    have nA : ¬ A D := fun z => (S1.far D z).1 hD
    refine P1 (ρ' ++ [D]) H' _ (X.adopt hD) (S'.adopt hl r nA) (.ref ?_)
    rw [← S'.len, List.getElem?_append_right (Nat.le_refl _)]
    simp
end
end L2

set_option Elab.async false
set_option linter.all false
set_option autoImplicit false
set_option maxRecDepth 100000
set_option maxHeartbeats 4000000
/-! Z9: comprehensions as expressions, calls, statements. -/
namespace L2
open PySem PySem.Spec PyProof.Rows Z
section
variable {α β γ δ : Type} {G : Gx} {A : Addr → Prop} {W : WX} {σ : St} {R : List Addr → Hp → β → α → Prop} {R' : List Addr → Hp → δ → γ → Prop} {ρ ρ1 : List Addr} {H H1 : Hp}
theorem Post.bindE {r : Res α} {k : α → MH → Res γ} {Q : δ → Hp → Prop} (p : Post G A W σ R' ρ H (r.bind k) Q) :
    Post G A W σ R ρ H r (fun x H1 => ∃ v h1 ρ1, r = .ok v h1 ∧ Ext A ρ H ρ1 H1 ∧ Sim G A ρ1 h1 H1 ∧ R ρ1 H1 x v ∧ Post G A W σ R' ρ1 H1 (k v h1) Q) := by
  cases r with
  | ok v h => exact fun ρ' H' x e s rr => ⟨v, h, ρ', rfl, e, s, rr, Post.ext (G := G) (A := A) (W := W) (σ := σ) (R := R') (r := k v h) p e⟩
  | exc c h => exact p
  | bad => exact p
end
theorem dens_len {L : Lib} : ∀ {es : Ces} {e : Z.Env} {h h' : MH} {vs : List Val}, dens L es e h = .ok vs h' → vs.length = es.len
  | .nil, e, h, h', vs, q => by simp only [dens] at q; cases q; rfl
  | .cons a as, e, h, h', vs, q => by
    simp only [dens] at q
    cases ha : den L a e h with
    | ok v h1 =>
      rw [ha] at q
      simp only [Res.bind_ok] at q
      cases hb : dens L as e h1 with
      | ok ws h2 =>
        rw [hb] at q
        simp only [Res.bind_ok, Res.ok.injEq] at q
        obtain ⟨q1, _⟩ := q
        subst q1
        simp [Ces.len, dens_len hb]
      | exc c h2 => rw [hb] at q; cases q
      | bad => rw [hb] at q; cases q
    | exc c h1 => rw [ha] at q; cases q
    | bad => rw [ha] at q; cases q
section
variable {X : Cx} {G : Gx} {W : WX} {L : Lib} {tg iter elt : Expr} {pos : Pos}
theorem se_comp (ok : Okx X G W) {t : Ct} {src : Ci} {c : Ces} {a : Ce} {own : List (Str × Nat)} {scope : Scope} {ifs : List Expr} (hown : ∀ i ∈ tG.slotsT t, i ∈ own.map (·.2)) (hp : plainE iter = true) (hi : PI X tg iter (tIs G W (denI L src))) (blk : BlkOk X.N X.env.scope scope own)
    (hg : ∀ (s : Shared) (H : Hp) (C : Addr) (cl : List (Str × Addr)) (fp : List Addr), PG (X.blk s H scope (compEnvC scope cl C X.env) fp) tg (tG G t))
    (ht : ∀ (s : Shared) (H : Hp) (C : Addr) (cl : List (Str × Addr)) (fp : List Addr), ST1 (X.blk s H scope (compEnvC scope cl C X.env) fp) G L c ifs)
    (he : ∀ (s : Shared) (H : Hp) (C : Addr) (cl : List (Str × Addr)) (fp : List Addr), SE (X.blk s H scope (compEnvC scope cl C X.env) fp) G W0 L a elt) :
    SE X G W L (.comp t src c a (own.map (·.2))) (.ListComp elt [⟨tg, iter, ifs, 0⟩] scope pos) :=
  (pe_lc ok.calm ok.nd hi blk hg ht he (plain_fold hp X.env)).imp fun σ H Q ⟨A, ρ, en, h, S, E, P⟩ => comp_reads hown S E (by rw [den_comp] at P; exact P.toF fun a z => (S.far a z).1)

theorem se_compR (ok : Okx X G W) {t : Ct} {src : Ci} {c : Ces} {a : Ce} {own : List (Str × Nat)} {scope : Scope} {ifs : List Expr} (hown : ∀ i ∈ tG.slotsT t, i ∈ own.map (·.2)) (hp : plainE iter = true) (hi : PI X tg iter (tIs G W (denI L src))) (blk : BlkOk X.N X.env.scope scope own)
    (hg : ∀ (s : Shared) (H : Hp) (C : Addr) (cl : List (Str × Addr)) (fp : List Addr), PG (X.blk s H scope (compEnvC scope cl C X.env) fp) tg (tG G t))
    (ht : ∀ (s : Shared) (H : Hp) (C : Addr) (cl : List (Str × Addr)) (fp : List Addr), ST1 (X.blk s H scope (compEnvC scope cl C X.env) fp) G L c ifs)
    (he : ∀ (s : Shared) (H : Hp) (C : Addr) (cl : List (Str × Addr)) (fp : List Addr), SE (X.blk s H scope (compEnvC scope cl C X.env) fp) G W0 L a elt) :
    SE X G W L (.compR t src c a (own.map (·.2))) (.ListComp elt [⟨tg, iter, ifs, 0⟩] scope pos) :=
  (pe_lc ok.calm ok.nd hi blk hg ht he (plain_fold hp X.env)).imp fun σ H Q ⟨A, ρ, en, h, S, E, P⟩ => compR_reads hown S E (by rw [den_compR] at P; exact P)

/-! ### calls of defs -/
/-- what a def promises, by its meaning -/
def spF (G : Gx) (g : FnS) (n : Nat) : Sp := fun vs H Q E => vs.length = n ∧ ∃ A ρ h us, Sim G A ρ h H ∧ RepVs G A ρ H vs us ∧ Post G A (fun c d _ H' => E c d H') [] (RepV G A) ρ H (g us h) Q
/-- a def of the text that keeps its meaning's promise, seen from X -/
structure CallG (X : Cx) (G : Gx) (x : Str) (n : Nat) (g : FnS) : Prop where
  ex : ∃ f fd ps k, ps.length = n ∧ FnOk X.prog X.w X.K X.mg X.base (L2.CX X.prog X.w) k f fd ps (spF G g n) ∧ Room k X.A ∧ X.mg x = some (.ref f) ∧ PySem.W.keepIn X.K (.ref f) = true ∧ Binds X.K fd ps []
theorem Post.wish {G : Gx} {A : Addr → Prop} {W W' : WX} {σ σ' : St} {α β : Type} {R : List Addr → Hp → β → α → Prop} {ρ : List Addr} {H : Hp} {r : Res α} {Q : β → Hp → Prop} (p : Post G A W σ R ρ H r Q) (h : ∀ c H, W c none σ H → W' c none σ' H) : Post G A W' σ' R ρ H r Q := by
  cases r with
  | ok v h => exact p
  | exc c hh => exact fun ρ' H' e s => h _ _ (p ρ' H' e s)
  | bad => exact p
theorem se_call {x : Str} {g : FnS} {k n : Nat} {es : Ces} {xs : List Expr} {p : Pos} (tk : Takes X W) (c : CallG X G x n g) (hg : Gl X x) (hdb : (x == ("__debug__" : Str)) = false) (hl : L.fn[k]? = some g) (hn : es.len = n) (hx : xs.length = n) (hp : xs.all plainE = true) (ha : SA X G W L es xs) :
    SE X G W L (.call k es) (.Call (.Name x p) xs [] pos) := by
  obtain ⟨f, fd, ps, lv, hps, F, hr, hm, hk, hb⟩ := c.ex
  have reads : ∀ σ H Q, tE G W (den L (.call k es)) σ H Q → tCallS (spF G g n) (WE W) (tAs G W (dens L es)) σ H Q := fun σ H Q ⟨A, ρ, en, h, S, E, P⟩ => by
    simp only [den, hl] at P
    refine ⟨A, ρ, en, h, S, E, P.bindE.mono fun vs H1 ⟨us, h1, ρ1, e, E1, S1, R1, P1⟩ => ⟨?_, A, ρ1, h1, us, S1, R1, P1.wish fun c H z => z⟩⟩
    rw [Paired.length R1, dens_len e, hn]
  cases xs with
  | nil =>
    refine PE.imp (t := tCallS (spF G g n) (WE W) tNil) ⟨fun pins s σ H Q I h => ?_⟩ fun σ H Q q => ?_
    · refine wpAny_Call_Name_kw (ld_glob I hg hm ?_ hdb)
      exact PySem.W.callWith_K0 I.kIn hk (run_fnS (us := []) F hr hb (passAt tk σ) I .nil h)
    · obtain ⟨A, ρ, en, h, S, E, P⟩ := q
      simp only [den, hl] at P
      cases es with
      | nil =>
        simp only [dens, Res.bind_ok] at P
        exact ⟨by rw [← hn]; rfl, A, ρ, h, [], S, .nil, P.wish fun c H z => z⟩
      | cons a as =>
        simp only [Ces.len] at hn
        simp only [List.length_nil] at hx
        omega
  | cons e es' =>
    simp only [List.all_cons, Bool.and_eq_true] at hp
    exact (pe_callS F hr hg hm hk hb (fun σ => passAt tk σ) ha hdb (plain_star hp.1 es' X.env) (plain_stars hp.2 pos X.env)).imp reads
end
end L2

set_option Elab.async false
set_option linter.all false
set_option autoImplicit false
set_option maxRecDepth 100000
set_option maxHeartbeats 4000000
/-! Z9b: built-ins called, statements. -/
namespace L2
open PySem PySem.Spec PyProof.Rows Z
section
variable {X : Cx} {G : Gx} {W : WX} {L : Lib} {tg iter elt : Expr} {pos p : Pos}
theorem blt_reads {b : Bfn} {es : Ces} {σ : St} {H : Hp} {Q : VK} (q : tE G W (den L (.blt b es)) σ H Q) : tCB (rBlt G b) (tAs G W (dens L es)) σ H Q := by
  obtain ⟨A, ρ, en, h, S, E, P⟩ := q
  simp only [den] at P
  refine ⟨A, ρ, en, h, S, E, P.bind.mono fun vs H1 ⟨us, h1, ρ1, E1, S1, R1, P1⟩ => ?_⟩
  obtain ⟨z, e, P2⟩ := P1.lift
  exact ⟨A, ρ1, h1, us, z, S1, R1, e, P2⟩
theorem se_bltF {b : Bfn} {id : String} {x : Str} {es : Ces} {e : Expr} {xs : List Expr} (hc : CallR X (.builtin id) (rBlt G b)) (hg : Gl X x) (hm : X.mg x = none) (hv : bootBuiltins x = some (.builtin id)) (hn : x ≠ "__name__") (hdb : (x == ("__debug__" : Str)) = false)
    (hp : (e :: xs).all plainE = true) (ha : SA X G W L es (e :: xs)) : SE X G W L (.blt b es) (.Call (.Name x p) (e :: xs) [] pos) := by
  simp only [List.all_cons, Bool.and_eq_true] at hp
  exact (pe_callB hc hg hm hv ha hn hdb (plain_star hp.1 xs X.env) (plain_stars hp.2 pos X.env)).imp fun σ H Q q => blt_reads q
theorem se_bltT {b : Bfn} {T : String} {x : Str} {es : Ces} {e : Expr} {xs : List Expr} (hc : CallR X (.type T) (rBlt G b)) (hg : Gl X x) (hm : X.mg x = none) (hv : bootBuiltins x = some (.type T)) (hn : x ≠ "__name__") (hdb : (x == ("__debug__" : Str)) = false)
    (hp : (e :: xs).all plainE = true) (ha : SA X G W L es (e :: xs)) : SE X G W L (.blt b es) (.Call (.Name x p) (e :: xs) [] pos) := by
  simp only [List.all_cons, Bool.and_eq_true] at hp
  exact (pe_callTy hc hg hm hv ha hn hdb (plain_star hp.1 xs X.env) (plain_stars hp.2 pos X.env)).imp fun σ H Q q => blt_reads q
theorem se_isi (ok : Okx X G W) {b : Bfn} (hb : isiB b = true) {a : Ce} {ea : Expr} {y : Str} {p2 : Pos} (hp : plainE ea = true) (hg : Gl X "isinstance") (hm : X.mg "isinstance" = none) (hg2 : Gl X y) (hm2 : X.mg y = none) (hv2 : bootBuiltins y = some (.type (tyN b))) (hn2 : y ≠ "__name__") (hdb2 : (y == ("__debug__" : Str)) = false)
    (ha : SE X G W L a ea) : SE X G W L (.blt b (.cons a .nil)) (.Call (.Name "isinstance" p) [ea, .Name y p2] [] pos) := by
  have pa := pa_cons ha (pa_cons (pe_bltn (v := .ty (tyN b)) (pos := p2) hg2 hm2 hv2 rfl hn2 hdb2) pa_nil (plain_star rfl [] X.env)) (plain_star hp [.Name y p2] X.env)
  refine (pe_callB (cb_isi ok.hK b hb) hg hm boot_isinstance pa (by decide) (by decide) (plain_star hp _ X.env) (plain_stars rfl pos X.env)).imp fun σ H Q ⟨A, ρ, en, h, S, E, P⟩ => ?_
  simp only [den, dens, Res.bind_ok] at P
  refine ⟨A, ρ, en, h, S, E, ?_⟩
  cases hd : den L a en h with
  | ok v h1 =>
    rw [hd] at P
    simp only [Res.bind_ok] at P
    obtain ⟨z, e, P2⟩ := P.lift
    intro ρ1 H1 x E1 S1 R1
    exact ⟨x, rfl, A, ρ1, h1, [v], z, S1, .cons R1 .nil, e, Post.ext P2 E1⟩
  | exc c h1 => rw [hd] at P; exact P
  | bad => rw [hd] at P; exact P

/-! ### statements -/
abbrev SS (X : Cx) (G : Gx) (W : WX) (L : Lib) (c : Cs) (e : Stmt) : Prop := PS X e (tS G W (Z.exec L c))
abbrev SSs (X : Cx) (G : Gx) (W : WX) (L : Lib) (c : Css) (e : List Stmt) : Prop := PSs X e (tS G W (Z.execs L c))
theorem ofR_post {α β : Type} {R : List Addr → Hp → β → α → Prop} {A : Addr → Prop} {ρ : List Addr} {H : Hp} {σ : St} {en : Z.Env} {r : Res α} {k : α → MH → RS} {D : Ends} (E : EnvR G A ρ H σ en) (p : PostS G A W ρ H (ofR en r k) D) :
    Post G A W σ R ρ H r fun x H1 => ∃ v h1 ρ1, Ext A ρ H ρ1 H1 ∧ Sim G A ρ1 h1 H1 ∧ R ρ1 H1 x v ∧ PostS G A W ρ1 H1 (k v h1) D := by
  cases r with
  | ok v h => exact fun ρ' H' x e s rr => ⟨v, h, ρ', e, s, rr, PostS.ext (r := k v h) p e⟩
  | exc c h => exact fun ρ' H' e s => p ρ' H' σ e s (E.ext e)
  | bad => exact p
theorem ss_nil : SSs X G W L .nil [] := pss_nil.imp fun D σ H ⟨A, ρ, en, h, S, E, P⟩ => by
  simp only [Z.execs] at P; exact P ρ H σ Ext.refl S E
theorem PostS.andThen {A : Addr → Prop} {ρ : List Addr} {H : Hp} {r : RS} {k : Z.Env → MH → RS} {D : Ends} (p : PostS G A W ρ H (r.andThen k) D) :
    PostS G A W ρ H r { D with nx := fun σ1 H1 => ∃ e1 h1 ρ1, Sim G A ρ1 h1 H1 ∧ EnvR G A ρ1 H1 σ1 e1 ∧ PostS G A W ρ1 H1 (k e1 h1) D } := by
  cases r with
  | next e h => exact fun ρ' H' σ' x s E => ⟨e, h, ρ', s, E, PostS.ext (r := k e h) p x⟩
  | ret v h => exact p
  | brk e h => exact p
  | cont e h => exact p
  | exc c e h => exact p
  | bad => exact p
theorem PostS.mono {A : Addr → Prop} {ρ : List Addr} {H : Hp} {r : RS} {D D' : Ends} (p : PostS G A W ρ H r D) (h1 : ∀ σ H, D.nx σ H → D'.nx σ H) (h2 : ∀ v H, D.rt v H → D'.rt v H) (h3 : ∀ σ H, D.bk σ H → D'.bk σ H) (h4 : ∀ σ H, D.ct σ H → D'.ct σ H) : PostS G A W ρ H r D' := by
  cases r with
  | next e h => exact fun ρ' H' σ' x s E => h1 _ _ (p ρ' H' σ' x s E)
  | ret v h => exact fun ρ' H' σ' x s E => h2 _ _ (p ρ' H' σ' x s E)
  | brk e h => exact fun ρ' H' σ' x s E => h3 _ _ (p ρ' H' σ' x s E)
  | cont e h => exact fun ρ' H' σ' x s E => h4 _ _ (p ρ' H' σ' x s E)
  | exc c e h => exact p
  | bad => exact p
theorem ss_cons {c : Cs} {cs : Css} {s : Stmt} {ss : List Stmt} (h1 : SS X G W L c s) (h2 : SSs X G W L cs ss) : SSs X G W L (.cons c cs) (s :: ss) :=
  (pss_cons h1 h2).imp fun D σ H ⟨A, ρ, en, h, S, E, P⟩ => by
    simp only [Z.execs] at P
    exact ⟨A, ρ, en, h, S, E, PostS.mono P.andThen (fun σ1 H1 ⟨e1, h1, ρ1, S1, E1, P1⟩ => ⟨A, ρ1, e1, h1, S1, E1, P1⟩) (fun _ _ z => z) (fun _ _ z => z) fun _ _ z => z⟩
theorem toE_post {A : Addr → Prop} {ρ : List Addr} {H : Hp} {o : Option Z.Env} {h : MH} {D : Ends} (p : PostS G A W ρ H (toE o h) D) : ∃ e, o = some e ∧ PostS G A W ρ H (.next e h) D := by
  cases o with
  | none => exact p.elim
  | some e => exact ⟨e, rfl, p⟩
def noComp : Expr → Bool
  | .ListComp .. | .SetComp .. | .DictComp .. => false
  | _ => true
theorem noComp_swaps {e : Expr} (h : noComp e = true) (t : Option Expr) (l : Nat) (env : PySem.Env) : swapsWith e t l env = pure false := by
  cases e <;> first | rfl | (simp [noComp] at h)
theorem set_reads {i : Nat} {a : Ce} {t : TE} {D : Ends} {σ : St} {H : Hp} (hq : ∀ Q, tE G W (den L a) σ H Q → t σ H Q) (q : tS G W (Z.exec L (.set i a)) D σ H) : tAsg t (gName i) D σ H := by
  obtain ⟨A, ρ, en, h, S, E, P⟩ := q
  simp only [Z.exec] at P
  refine hq _ ⟨A, ρ, en, h, S, E, (ofR_post E P).mono fun x H1 ⟨v, h1, ρ1, E1, S1, R1, P1⟩ => ?_⟩
  obtain ⟨e1, he, P2⟩ := toE_post P1
  exact P2 ρ1 H1 _ Ext.refl S1 ((E.ext E1).set_ R1 he)
theorem ss_set {i : Nat} {x : Str} {a : Ce} {ea : Expr} {p2 : Pos} (hN : X.N.Nodup) (hi : X.N[i]? = some x) (hx : Loc X.env.scope x) (hf : X.fn x = true ∨ X.env.scope.names.lookup x = some .local) (hs : swapsWith ea (some (.Name x p2)) pos.line X.env = pure false) (ha : SE X G W L a ea) :
    SS X G W L (.set i a) (.Assign [.Name x p2] ea pos) := (ps_set hN hi hx ha hs hf).imp fun D σ H q => set_reads (fun Q z => z) q
theorem ss_setlc (ok : Okx X G W) {i : Nat} {y : Str} {py spos : Pos} {t : Ct} {src : Ci} {c : Ces} {a : Ce} {own : List (Str × Nat)} {scope : Scope} {ifs : List Expr} (hy : X.N[i]? = some y) (hyl : X.env.scope.names.lookup y = some .local)
    (hsw : swapsWith (.ListComp elt [⟨tg, iter, ifs, 0⟩] scope pos) (some (.Name y py)) spos.line X.env = pure true) (hown : ∀ i ∈ tG.slotsT t, i ∈ own.map (·.2)) (hp : plainE iter = true) (hi : PI X tg iter (tIs G W (denI L src))) (blk : BlkOk X.N X.env.scope scope own)
    (hg : ∀ (s : Shared) (H : Hp) (C : Addr) (cl : List (Str × Addr)) (fp : List Addr), PG (X.blk s H scope (compEnvC scope cl C X.env) fp) tg (tG G t))
    (ht : ∀ (s : Shared) (H : Hp) (C : Addr) (cl : List (Str × Addr)) (fp : List Addr), ST1 (X.blk s H scope (compEnvC scope cl C X.env) fp) G L c ifs)
    (he : ∀ (s : Shared) (H : Hp) (C : Addr) (cl : List (Str × Addr)) (fp : List Addr), SE (X.blk s H scope (compEnvC scope cl C X.env) fp) G W0 L a elt) :
    SS X G W L (.set i (.comp t src c a (own.map (·.2)))) (.Assign [.Name y py] (.ListComp elt [⟨tg, iter, ifs, 0⟩] scope pos) spos) :=
  (ps_setLc ok.calm ok.nd hy hyl hsw hi blk hg ht he (plain_fold hp X.env)).imp fun D σ H q => set_reads (fun Q ⟨A, ρ, en, h, S, E, P⟩ => comp_reads hown S E (by rw [den_comp] at P; exact P.toF fun a z => (S.far a z).1)) q
theorem ss_expr {a : Ce} {ea : Expr} (hn : noComp ea = true) (ha : SE X G W L a ea) : SS X G W L (.expr a) (.Expr ea pos) := (ps_expr ha (noComp_swaps hn _ _ _)).imp fun D σ H ⟨A, ρ, en, h, S, E, P⟩ => by
  simp only [Z.exec] at P
  exact ⟨A, ρ, en, h, S, E, (ofR_post E P).mono fun x H1 ⟨v, h1, ρ1, E1, S1, R1, P1⟩ => P1 ρ1 H1 σ Ext.refl S1 (E.ext E1)⟩
theorem ss_ret {a : Ce} {ea : Expr} (ha : SE X G W L a ea) : SS X G W L (.ret a) (.Return (some ea) pos) := (ps_ret ha).imp fun D σ H ⟨A, ρ, en, h, S, E, P⟩ => by
  simp only [Z.exec] at P
  exact ⟨A, ρ, en, h, S, E, (ofR_post E P).mono fun x H1 ⟨v, h1, ρ1, E1, S1, R1, P1⟩ => P1 ρ1 H1 x Ext.refl S1 R1⟩
theorem ss_pass : SS X G W L .pass (.Pass pos) := ps_pass.imp fun D σ H ⟨A, ρ, en, h, S, E, P⟩ => by
  simp only [Z.exec] at P; exact P ρ H σ Ext.refl S E
theorem ss_ite {c : Ce} {a b : Css} {ec : Expr} {sa sb : List Stmt} (hc : ST_ X G W L c ec) (ha : SSs X G W L a sa) (hb : SSs X G W L b sb) : SS X G W L (.ite c a b) (.If ec sa sb pos) := (ps_if hc ha hb).imp fun D σ H ⟨A, ρ, en, h, S, E, P⟩ => by
  simp only [Z.exec] at P
  refine ⟨A, ρ, en, h, S, E, ?_⟩
  unfold denT
  cases hd : den L c en h with
  | ok v h1 =>
    rw [hd] at P
    simp only [ofR_ok, Res.bind_ok] at P ⊢
    cases hv : truth v with
    | none => rw [hv] at P; exact P.elim
    | some k =>
      rw [hv] at P
      intro ρ' H' x e1 s1 ex
      subst ex
      cases x with
      | true => simp only [if_true]; exact ⟨A, ρ', en, h1, s1, E.ext e1, PostS.ext P e1⟩
      | false => simp only [Bool.false_eq_true, if_false]; exact ⟨A, ρ', en, h1, s1, E.ext e1, PostS.ext P e1⟩
  | exc c' h1 => rw [hd] at P; exact fun ρ' H' e s => P ρ' H' σ e s (E.ext e)
  | bad => rw [hd] at P; exact P
theorem ss_raise {x m : Str} {j : Nat} {p2 p3 : Pos} {C : Addr} {bmB : List Value} {B newId initId : String} (ok : Okx X G W) (tk : Takes X W) (F : ExcBaseFacts B newId initId bmB) (q : PySem.W.excIn X.K C bmB newId = true) (gC : X.mg x = some (.ref C)) (kC : PySem.W.keepIn X.K (.ref C) = true) (r : Raises X (.ref C)) (hg : Gl X x)
    (hdb : (x == ("__debug__" : Str)) = false) (hC : G.cx x = C) : SS X G W L (.raise x) (.Raise (some (.Call (.Name x p) [.Constant (.str m) j p2] [] p3)) none pos) :=
  (ps_raise ok.calm tk (pmk_own F q gC kC r hg hdb)).imp fun D σ H ⟨A, ρ, en, h, S, E, P⟩ => by
    simp only [Z.exec] at P
    have z := P ρ H σ Ext.refl S E
    rw [hC] at z
    exact z
/-- for -/
theorem ss_for (ok : Okx X G W) (hpo : PassesOwn (model X.prog X.w) X.A X.env X.xe) {t : Ct} {src : Ci} {b : Css} {body : List Stmt} (hp : plainE iter = true) (hi : PI X tg iter (tIs G W (denI L src))) (hg : PG X tg (tG G t)) (hb : SSs X G W L b body) :
    SS X G W L (.for_ t src b) (.For tg iter body [] pos) := (ps_for hpo ok.calm hi hg hb (plain_fold hp X.env)).imp fun D σ H ⟨A, ρ, en, h, S, E, P⟩ => by
  simp only [Z.exec] at P
  refine ⟨A, ρ, en, h, S, E, (ofR_post E P).mono fun J H1 ⟨s, h1, ρ1, E1, S1, R1, P1⟩ => ?_⟩
  cases s with
  | items ds =>
    dsimp only at P1
    have E1' := E.ext E1
    refine ⟨fun i m σ' H' => ∃ ρ' e' h', m = ds.length - i ∧ i ≤ ds.length ∧ Ext A ρ1 H1 ρ' H' ∧ Sim G A ρ' h' H' ∧ EnvR G A ρ' H' σ' e' ∧ PostS G A W ρ' H' (forRun t (Z.execs L b) (ds.drop i) e' h') D,
      ⟨ds.length, ρ1, en, h1, by simp, Nat.zero_le _, Ext.refl, S1, E1', by simpa using P1⟩, ?_⟩
    rintro i m σ' H' ⟨ρ', e', h', rfl, hi, X1, S', E', P'⟩
    have walk := R1 A ρ' H' h' (fun _ z => z) X1 (fun _ z => .inl z) S'
    by_cases hlt : i < ds.length
    · refine .inr ⟨(walk.1 i hlt).1, fun σ2 H2 => ∃ ρ' e' h', i + 1 ≤ ds.length ∧ Ext A ρ1 H1 ρ' H2 ∧ Sim G A ρ' h' H2 ∧ EnvR G A ρ' H2 σ2 e' ∧ PostS G A W ρ' H2 (forRun t (Z.execs L b) (ds.drop (i + 1)) e' h') D,
        fun σ2 H2 ⟨ρ', e', h', q1, q2, q3, q4, q5⟩ => ⟨ds.length - (i + 1), by omega, ρ', e', h', rfl, q1, q2, q3, q4, q5⟩, fun x H2 y => ?_⟩
      obtain ⟨d, hd, X2, S2, rx⟩ := (walk.1 i hlt).2 x H2 y
      have hdrop : ds.drop i = d :: ds.drop (i + 1) := by
        rw [List.drop_eq_getElem_cons hlt]
        congr 1
        rw [List.getElem?_eq_getElem hlt] at hd
        exact Option.some.inj hd
      rw [hdrop, forRun] at P'
      cases hbd : bindT t (.d d) e' with
      | none => rw [hbd] at P'; exact P'.elim
      | some e1 =>
        rw [hbd] at P'
        dsimp only at P'
        have X12 : Ext A ρ1 H1 ρ' H2 := X1.trans X2
        refine ⟨A, ρ', h', e', .d d, e1, S2, E'.ext X2, .d rx, hbd, fun σ3 E3 _ => ⟨A, ρ', e1, h', S2, E3, ?_⟩⟩
        have P2 := PostS.ext P' X2
        cases hr : Z.execs L b e1 h' with
        | next e2 h2 => rw [hr] at P2; exact fun ρ4 H4 σ4 X4 S4 E4 => ⟨ρ4, e2, h2, hlt, X12.trans X4, S4, E4, PostS.ext P2 X4⟩
        | cont e2 h2 => rw [hr] at P2; exact fun ρ4 H4 σ4 X4 S4 E4 => ⟨ρ4, e2, h2, hlt, X12.trans X4, S4, E4, PostS.ext P2 X4⟩
        | brk e2 h2 => rw [hr] at P2; exact P2
        | ret v h2 => rw [hr] at P2; exact P2
        | exc c e2 h2 => rw [hr] at P2; exact P2
        | bad => rw [hr] at P2; exact P2
    · have ei : i = ds.length := by omega
      subst ei
      rw [List.drop_length, forRun] at P'
      exact .inl ⟨walk.2, P' ρ' H' σ' Ext.refl S' E'⟩
  | live n len =>
    dsimp only at P1
    have E1' := E.ext E1
    refine ⟨fun i m σ' H' => ∃ ρ' e' h', m = len - i ∧ i ≤ len ∧ Ext A ρ1 H1 ρ' H' ∧ Sim G A ρ' h' H' ∧ EnvR G A ρ' H' σ' e' ∧ PostS G A W ρ' H' (forLive t n len (Z.execs L b) (len - i) e' h') D,
      ⟨len, ρ1, en, h1, by simp, Nat.zero_le _, Ext.refl, S1, E1', by simpa using P1⟩, ?_⟩
    rintro i m σ' H' ⟨ρ', e', h', rfl, hi, X1, S', E', P'⟩
    by_cases hlt : i < len
    · have hk : len - i = (len - (i + 1)) + 1 := by omega
      rw [hk, forLive] at P'
      split at P'
      · rename_i vs hc
        split at P'
        · rename_i hl
          have walk := R1 A ρ' H' h' vs (fun _ z => z) X1 (fun _ z => .inl z) S' hc hl
          have hidx : len - (len - (i + 1) + 1) = i := by omega
          rw [hidx] at P'
          refine .inr ⟨(walk.1 i hlt).1, fun σ2 H2 => ∃ ρ' e' h', i + 1 ≤ len ∧ Ext A ρ1 H1 ρ' H2 ∧ Sim G A ρ' h' H2 ∧ EnvR G A ρ' H2 σ2 e' ∧ PostS G A W ρ' H2 (forLive t n len (Z.execs L b) (len - (i + 1)) e' h') D,
            fun σ2 H2 ⟨ρ', e', h', q1, q2, q3, q4, q5⟩ => ⟨len - (i + 1), by omega, ρ', e', h', rfl, q1, q2, q3, q4, q5⟩, fun x H2 y => ?_⟩
          obtain ⟨eH, v, hv, rx⟩ := (walk.1 i hlt).2 x H2 y
          subst eH
          rw [hv] at P'
          dsimp only at P'
          cases hbd : bindT t v e' with
          | none => rw [hbd] at P'; exact P'.elim
          | some e1 =>
            rw [hbd] at P'
            dsimp only at P'
            refine ⟨A, ρ', h', e', v, e1, S', E', rx, hbd, fun σ3 E3 _ => ⟨A, ρ', e1, h', S', E3, ?_⟩⟩
            cases hr : Z.execs L b e1 h' with
            | next e2 h2 => rw [hr] at P'; exact fun ρ4 H4 σ4 X4 S4 E4 => ⟨ρ4, e2, h2, hlt, X1.trans X4, S4, E4, PostS.ext P' X4⟩
            | cont e2 h2 => rw [hr] at P'; exact fun ρ4 H4 σ4 X4 S4 E4 => ⟨ρ4, e2, h2, hlt, X1.trans X4, S4, E4, PostS.ext P' X4⟩
            | brk e2 h2 => rw [hr] at P'; exact P'
            | ret v h2 => rw [hr] at P'; exact P'
            | exc c e2 h2 => rw [hr] at P'; exact P'
            | bad => rw [hr] at P'; exact P'
        · exact P'.elim
      · exact P'.elim
    · have ei : i = len := by omega
      subst ei
      rw [Nat.sub_self, forLive] at P'
      split at P'
      · rename_i vs hc
        split at P'
        · rename_i hl
          have walk := R1 A ρ' H' h' vs (fun _ z => z) X1 (fun _ z => .inl z) S' hc hl
          exact .inl ⟨walk.2, P' ρ' H' σ' Ext.refl S' E'⟩
        · exact P'.elim
      · exact P'.elim
/-- while -/
theorem ss_while (ok : Okx X G W) (hpo : PassesOwn (model X.prog X.w) X.A X.env X.xe) {c : Ce} {b : Css} {ec : Expr} {body : List Stmt} (hc : ST_ X G W L c ec) (hb : SSs X G W L b body) : SS X G W L (.while_ c b) (.While ec body [] pos) :=
  (ps_while hpo hc hb).imp fun D σ H ⟨A, ρ, en, h, S, E, P⟩ => by
  simp only [Z.exec] at P
  refine ⟨fun m σ' H' => ∃ ρ' e' h', Sim G A ρ' h' H' ∧ EnvR G A ρ' H' σ' e' ∧ PostS G A W ρ' H' (whileRun (den L c) (Z.execs L b) m e' h') D, ⟨L.fuel, ρ, en, h, S, E, P⟩, ?_⟩
  rintro m σ' H' ⟨ρ', e', h', S', E', P'⟩
  cases m with
  | zero => rw [whileRun] at P'; exact P'.elim
  | succ m =>
    rw [whileRun] at P'
    refine ⟨A, ρ', e', h', S', E', ?_⟩
    unfold denT
    cases hd : den L c e' h' with
    | exc c' h1 => rw [hd] at P'; exact fun ρ2 H2 X2 S2 => P' ρ2 H2 σ' X2 S2 (E'.ext X2)
    | bad => rw [hd] at P'; exact P'
    | ok v h1 =>
      rw [hd] at P'
      simp only [Res.bind_ok]
      cases v with
      | d d =>
        cases d with
        | bool k =>
          intro ρ2 H2 k' X2 S2 ek
          subst ek
          cases k' with
          | false => simp only [Bool.false_eq_true, if_false]; exact P' ρ2 H2 σ' X2 S2 (E'.ext X2)
          | true =>
            simp only [if_true]
            dsimp only at P'
            refine ⟨fun σ3 H3 => ∃ ρ' e' h', Sim G A ρ' h' H3 ∧ EnvR G A ρ' H3 σ3 e' ∧ PostS G A W ρ' H3 (whileRun (den L c) (Z.execs L b) m e' h') D, fun σ3 H3 z => ⟨m, Nat.lt_succ_self m, z⟩, A, ρ2, e', h1, S2, E'.ext X2, ?_⟩
            have P2 := PostS.ext P' X2
            cases hr : Z.execs L b e' h1 with
            | next e2 h2 => rw [hr] at P2; exact fun ρ4 H4 σ4 X4 S4 E4 => ⟨ρ4, e2, h2, S4, E4, PostS.ext P2 X4⟩
            | cont e2 h2 => rw [hr] at P2; exact fun ρ4 H4 σ4 X4 S4 E4 => ⟨ρ4, e2, h2, S4, E4, PostS.ext P2 X4⟩
            | brk e2 h2 => rw [hr] at P2; exact P2
            | ret v h2 => rw [hr] at P2; exact P2
            | exc c e2 h2 => rw [hr] at P2; exact P2
            | bad => rw [hr] at P2; exact P2
        | _ => exact P'.elim
      | _ => exact P'.elim
end
end L2

set_option Elab.async false
set_option linter.all false
set_option autoImplicit false
set_option maxRecDepth 100000
set_option maxHeartbeats 4000000
/-! Z9c: objects of the small heap: made, changed; several targets. -/
namespace L2
open PySem PySem.Spec PyProof.Rows Z
section
variable {G : Gx} {A : Addr → Prop} {ρ : List Addr} {H : Hp} {h : MH}
theorem RpAll.pair {B : Addr → Prop} {R : V → Val → Prop} (k : ∀ x d, Rp G B H x d → R x (.d d)) : ∀ {xs : List V} {ds : List PyData}, RpAll G B H xs ds → Paired R xs (ds.map Val.d)
  | _, _, .nil => .nil
  | _, _, .cons r t => .cons (k _ _ r) (RpAll.pair k t)
/-- a new list becomes one of the small heap -/
theorem Sim.alloc {a : Addr} {xs : List V} {ds : List PyData} (S : Sim G (fun b => A b ∨ b = a) ρ h H) (na : ¬ A a) (hl : H a = some (.lst xs)) (r : RpAll G (Av (fun b => A b ∨ b = a) ρ) H xs ds) : Sim G A (ρ ++ [a]) (h ++ [.lst (ds.map .d)]) H :=
  S.adopt hl (r.pair fun x d r => .d r) na
theorem Sim.push {q : Addr} {xs : List V} {vs : List Val} (S : Sim G A ρ h H) (hq : H q = none) (r : RepVs G A ρ H xs vs) : Sim G A (ρ ++ [q]) (h ++ [.lst vs]) (upd H q (.lst xs)) :=
  S.pushC hq (.lst upd_same (RepVs.ext (Ext.push hq) r))
theorem not_frz {a : Addr} {xs : List V} (hl : H a = some (.lst xs)) : ∀ ob u, H a ≠ some (.frz ob u) := fun ob u e => by rw [hl] at e; cases e
/-- a list of the small heap is changed -/
theorem Sim.put {n : Nat} {a : Addr} {vs' : List Val} {xs xs' : List V} (S : Sim G A ρ h H) (hr : ρ[n]? = some a) (hl : H a = some (.lst xs)) (rv : RepVs G A ρ H xs' vs') : Sim G A ρ (h.set n (.lst vs')) (upd H a (.lst xs')) :=
  S.putC hr (not_frz hl) (.lst upd_same (Paired.mapP rv fun _ _ z => z.re (Kp.put (List.mem_of_getElem? hr) (not_frz hl)) fun _ _ z => z))
theorem Paired.app {α β : Type} {R : α → β → Prop} : ∀ {xs xs' : List α} {ys ys' : List β}, Paired R xs ys → Paired R xs' ys' → Paired R (xs ++ xs') (ys ++ ys')
  | _, _, _, _, .nil, s => s
  | _, _, _, _, .cons r t, s => .cons r (Paired.app t s)
theorem Paired.set_ {α β : Type} {R : α → β → Prop} {x : α} {y : β} (q : R x y) : ∀ {xs : List α} {ys : List β} (i : Nat), Paired R xs ys → Paired R (xs.set i x) (ys.set i y)
  | _, _, _, .nil => .nil
  | _, _, 0, .cons _ t => .cons q t
  | _, _, i + 1, .cons r t => .cons r (Paired.set_ q i t)
theorem Paired.dropLast_ {α β : Type} {R : α → β → Prop} : ∀ {xs : List α} {ys : List β}, Paired R xs ys → Paired R xs.dropLast ys.dropLast
  | _, _, .nil => .nil
  | _, _, .cons _ .nil => .nil
  | _, _, .cons r (.cons r2 t) => by
    rw [List.dropLast_cons₂, List.dropLast_cons₂]
    exact .cons r (Paired.dropLast_ (.cons r2 t))
end
section
variable {X : Cx} {G : Gx} {W : WX} {L : Lib} {tg iter elt : Expr} {pos p : Pos}
abbrev SF (X : Cx) (G : Gx) (W : WX) (L : Lib) (c : Ce) (e : Expr) : Prop := PE X e (tF G W (denF L c))
theorem sf_comp (ok : Okx X G W) {t : Ct} {src : Ci} {c : Ces} {a : Ce} {own : List (Str × Nat)} {scope : Scope} {ifs : List Expr} (hown : ∀ i ∈ tG.slotsT t, i ∈ own.map (·.2)) (hp : plainE iter = true) (hi : PI X tg iter (tIs G W (denI L src))) (blk : BlkOk X.N X.env.scope scope own)
    (hg : ∀ (s : Shared) (H : Hp) (C : Addr) (cl : List (Str × Addr)) (fp : List Addr), PG (X.blk s H scope (compEnvC scope cl C X.env) fp) tg (tG G t))
    (ht : ∀ (s : Shared) (H : Hp) (C : Addr) (cl : List (Str × Addr)) (fp : List Addr), ST1 (X.blk s H scope (compEnvC scope cl C X.env) fp) G L c ifs)
    (he : ∀ (s : Shared) (H : Hp) (C : Addr) (cl : List (Str × Addr)) (fp : List Addr), SE (X.blk s H scope (compEnvC scope cl C X.env) fp) G W0 L a elt) :
    SF X G W L (.comp t src c a (own.map (·.2))) (.ListComp elt [⟨tg, iter, ifs, 0⟩] scope pos) :=
  (pe_lc ok.calm ok.nd hi blk hg ht he (plain_fold hp X.env)).imp fun σ H Q ⟨A, ρ, en, h, S, E, P⟩ => comp_reads hown S E (by rw [denF_comp] at P; exact P)
/-- a list just laid -/
theorem PostF.lay {A : Addr → Prop} {σ : St} {ρ : List Addr} {H : Hp} {h : MH} {xs : List V} {ds : List PyData} {Q : VK} (P : PostF G A W σ ρ H (.ok (.d (.list ds)) h) Q) (S : Sim G A ρ h H) (r : RpAll G (Av A ρ) H xs ds) : ∀ q, H q = none → Q (.ref q) (upd H q (.lst xs)) := fun q hq => by
  have nin : q ∉ ρ := fun m => S.tracked m hq
  have k : Kp (Av A ρ) (Av (fun b => A b ∨ b = q) ρ) H (upd H q (.lst xs)) := Kp.of (f := Kp.up (nf_none hq)) fun b o e n => ⟨by rw [upd_ne (ne_of_none e hq)]; exact e, fun z => by
    rcases z with (z | z) | z
    · exact n (.inl z)
    · rw [z, hq] at e; cases e
    · exact n (.inr z)⟩
  refine P ρ _ q xs ds rfl (Ext.laid hq) (S.re k (fun b o _ e => by rw [upd_ne (ne_of_none e hq)]; exact e) fun b z => ?_) hq upd_same (r.keep k)
  rcases z with z | z
  · exact ⟨by rw [upd_ne (fun (e : b = q) => (S.far b z).1 (by rw [e]; exact hq))]; exact (S.far b z).1, (S.far b z).2⟩
  · rw [z]; exact ⟨by rw [upd_same]; simp, nin⟩
theorem sf_lst {es : Ces} {xs : List Expr} (ha : SA X G W L es xs) : SF X G W L (.lst es) (.List xs pos) :=
  (pe_lst ha).imp fun σ H Q ⟨A, ρ, en, h, S, E, P⟩ => by
    simp only [denF] at P
    refine ⟨A, ρ, en, h, S, E, P.bind.mono fun ys H1 ⟨vs, h1, ρ1, E1, S1, R1, P1⟩ => ?_⟩
    obtain ⟨v, e, P2⟩ := P1.lift
    rw [Option.bind_eq_some_iff] at e
    obtain ⟨ds, e1, e2⟩ := e
    split at e2
    · rename_i hz
      cases e2
      have r := dats_rep R1 e1
      exact ⟨by rw [r.length]; simpa [lOk] using hz, P2.lay S1 r⟩
    · cases e2
theorem sf_add {a b : Ce} {ea eb : Expr} (ha : SE X G W L a ea) (hb : SE X G W L b eb) : SF X G W L (.bin .add a b) (.BinOp ea .Add eb pos) :=
  (pe_op op_catR ha hb).imp fun σ H Q ⟨A, ρ, en, h, S, E, P⟩ => by
    simp only [denF] at P
    refine ⟨A, ρ, en, h, S, E, P.bind.mono fun x H1 ⟨v, h1, ρ1, E1, S1, R1, P1⟩ => ⟨A, ρ1, en, h1, S1, E.ext E1, P1.bind.mono fun y H2 ⟨w, h2, ρ2, E2, S2, R2, P2⟩ => ?_⟩⟩
    obtain ⟨z, e, P3⟩ := P2.lift
    rw [Option.bind_eq_some_iff] at e
    obtain ⟨d1, e1, e⟩ := e
    rw [Option.bind_eq_some_iff] at e
    obtain ⟨d2, e2, e⟩ := e
    split at e
    · rename_i xs ys
      rw [Option.map_eq_some_iff] at e
      obtain ⟨d3, e3, e⟩ := e
      subst e
      simp only [binD] at e3
      split at e3
      · rename_i hz
        cases e3
        obtain ⟨p, us, ex, hp, tp⟩ := (asD_rep S2 (R1.ext E2) e1).list
        obtain ⟨q, ws, ey, hq, tq⟩ := (asD_rep S2 R2 e2).list
        exact ⟨p, q, us, ws, ex, ey, hp, hq, by rw [tp.length, tq.length]; simpa [lOk] using hz, P3.lay S2 (tp.append tq)⟩
      · cases e3
    · cases e
theorem call_list_any (hc : X.calm = true) : CallR X (.type "list") (fun xs H Q => (∃ p ys, xs = [.ref p] ∧ (SqL X.K H p ys ∨ SqT X.K H p ys) ∧ ∀ l, H l = none → Q (.ref l) (upd H l (.lst ys))) ∨ ∃ (a : Addr) (w : World) (ys : List DE), xs = [.ref a] ∧ Rd H a (DX w a ys) ∧ ∀ p, H p = none → Q (.ref p) (upd H p (.lst (ys.map (·.2.1))))) :=
  fun pins s σ H xs us Q I r h => h.elim (fun h => call_list_of pins s σ H xs us Q I r h) fun h => z_list hc pins s σ H xs us Q I r h
/-- list(..) -/
theorem sf_list (hK : X.K = G.K) (hca : X.calm = true) {x : Str} {es : Ces} {e : Expr} {xs : List Expr} (hg : Gl X x) (hm : X.mg x = none) (hv : bootBuiltins x = some (.type "list")) (hn : x ≠ "__name__") (hdb : (x == ("__debug__" : Str)) = false)
    (hp : (e :: xs).all plainE = true) (ha : SA X G W L es (e :: xs)) : SF X G W L (.blt .list es) (.Call (.Name x p) (e :: xs) [] pos) := by
  simp only [List.all_cons, Bool.and_eq_true] at hp
  refine (pe_callTy (call_list_any hca) hg hm hv ha hn hdb (plain_star hp.1 xs X.env) (plain_stars hp.2 pos X.env)).imp fun σ H Q ⟨A, ρ, en, h, S, E, P⟩ => ?_
  simp only [denF] at P
  refine ⟨A, ρ, en, h, S, E, P.bind.mono fun vs H1 ⟨us, h1, ρ1, E1, S1, R1, P1⟩ => ?_⟩
  obtain ⟨z, e, P2⟩ := P1.lift
  have gen : (asDs h1 us).bind (fun ds => (bltD .list ds).map Val.d) = some z → (∃ p ys, vs = [V.ref p] ∧ (SqL X.K H1 p ys ∨ SqT X.K H1 p ys) ∧ ∀ l, H1 l = none → Q (.ref l) (upd H1 l (.lst ys))) ∨ ∃ (a : Addr) (w : World) (ys : List DE), vs = [.ref a] ∧ Rd H1 a (DX w a ys) ∧ ∀ p, H1 p = none → Q (.ref p) (upd H1 p (.lst (ys.map (·.2.1)))) := fun e => by
    obtain ⟨ds, w, pd, e1, e2⟩ := blt_one S1 R1 e
    subst e2
    cases pd with
    | nil => simp [bltD] at e1
    | @cons _ d _ _ rd t =>
      cases t with
      | cons _ _ => simp [bltD] at e1
      | nil =>
        cases d <;> first | (simp [bltD] at e1; done) | skip
        · simp only [bltD, Option.some.injEq] at e1; subst e1
          obtain ⟨p, ys, ex, hp, tp⟩ := rd.sql
          subst ex
          exact .inl ⟨p, ys, rfl, .inl (hK ▸ hp), P2.lay S1 tp⟩
        · simp only [bltD, Option.some.injEq] at e1; subst e1
          obtain ⟨p, ys, ex, hp, tp⟩ := rd.tuple
          subst ex
          exact .inl ⟨p, ys, rfl, .inr (hK ▸ hp), P2.lay S1 tp⟩
        · simp only [bltD, Option.some.injEq] at e1; subst e1
          obtain ⟨p, ys, ex, hp, tp⟩ := rd.dict
          subst ex
          exact .inr ⟨p, _, ys, rfl, hp, P2.lay S1 (dp_keys tp.dp)⟩
  cases R1 with
  | nil => exact gen (by simpa [bltV] using e)
  | cons r t =>
    cases t with
    | cons _ _ => exact gen (by unfold bltV at e; simpa using e)
    | nil =>
      cases r with
      | d r => exact gen (by unfold bltV at e; simpa using e)
      | ref r => exact gen (by unfold bltV at e; simpa using e)
      | exc _ _ => exact gen (by unfold bltV at e; simpa using e)
      | dic _ _ _ _ => exact gen (by unfold bltV at e; simpa using e)
      | @scr p ns r =>
        simp only [bltV, Option.some.injEq] at e
        subst e
        exact .inl ⟨p, _, rfl, .inl (hK ▸ r.sq), P2.lay S1 (RpAll.ofInts ns)⟩
/-- a new list as an object of the small heap -/
theorem se_alloc {a : Ce} {ea : Expr} (ha : SF X G W L a ea) : SE X G W L (.alloc a) ea := ha.imp fun σ H Q ⟨A, ρ, en, h, S, E, P⟩ => by
  simp only [den] at P
  refine ⟨A, ρ, en, h, S, E, ?_⟩
  cases hd : denF L a en h with
  | exc c h1 => rw [hd] at P; exact P
  | bad => rw [hd] at P; exact P
  | ok v h1 =>
    rw [hd] at P
    simp only [Res.bind_ok] at P
    intro ρ' H' q xs ds ev X1 S1 hn hl rp
    subst ev
    simp only [allocV] at P
    have nA : ¬ A q := fun z => (S.far q z).1 hn
    have S2 := S1.alloc nA hl rp
    exact P _ H' _ (X1.adopt hn) S2 (.ref (by rw [← S1.len]; simp))

/-- a list display of any values -/
theorem se_lstR {es : Ces} {xs : List Expr} (ha : SA X G W L es xs) : SE X G W L (.lstR es) (.List xs pos) :=
  (pe_lst ha).imp fun σ H Q ⟨A, ρ, en, h, S, E, P⟩ => by
    simp only [den] at P
    refine ⟨A, ρ, en, h, S, E, P.bind.mono fun ys H1 ⟨vs, h1, ρ1, E1, S1, R1, P1⟩ => ?_⟩
    split at P1
    · rename_i hz
      refine ⟨by rw [Paired.length R1]; simpa [lOk] using hz, fun q hq => ?_⟩
      exact P1 (ρ1 ++ [q]) _ _ (Ext.push hq) (S1.push hq R1) (.ref (by rw [← S1.len]; simp))
    · exact P1.elim
/-- a tuple display of any values -/
theorem se_tupR {es : Ces} {xs : List Expr} {k : Nat} (ha : SA X G W L es xs) : SE X G W L (.tupR es) (.Tuple xs k pos) :=
  (pe_tup ha).imp fun σ H Q ⟨A, ρ, en, h, S, E, P⟩ => by
    simp only [den] at P
    refine ⟨A, ρ, en, h, S, E, P.bind.mono fun ys H1 ⟨vs, h1, ρ1, E1, S1, R1, P1⟩ => ?_⟩
    split at P1
    · rename_i hz
      refine ⟨by rw [Paired.length R1]; simpa [lOk] using hz, fun q hq => ?_⟩
      exact P1 (ρ1 ++ [q]) _ _ (Ext.push hq) (S1.pushC hq (.tup upd_same (RepVs.ext (Ext.push hq) R1))) (.ref (by rw [← S1.len]; simp))
    · exact P1.elim
end
end L2

set_option Elab.async false
set_option linter.all false
set_option autoImplicit false
set_option maxRecDepth 100000
set_option maxHeartbeats 4000000
/-! Z9d: append, pop, stores at a place, +=, several targets. -/
namespace L2
open PySem PySem.Spec PyProof.Rows Z
section
variable {X : Cx} {G : Gx} {W : WX} {L : Lib} {pos p apos : Pos}
def baseB : Expr → Bool
  | .Call (.Name _ _) [] [] _ => false
  | _ => true
theorem base_ok {o : Expr} (h : baseB o = true) (f : Str) (env : PySem.Env) (w : Sem Value) : attributeBase o f env w = w := by
  unfold attributeBase
  split
  · simp [baseB] at h
  · rfl
theorem lstAt_rep {A : Addr → Prop} {ρ : List Addr} {H : Hp} {h : MH} {x : V} {v : Val} (S : Sim G A ρ h H) (r : RepV G A ρ H x v) (e : lstAt h v = true) : ∃ n a xs vs, v = .ref n ∧ x = .ref a ∧ ρ[n]? = some a ∧ h[n]? = some (.lst vs) ∧ H a = some (.lst xs) ∧ RepVs G A ρ H xs vs := by
  cases r with
  | d r => simp [lstAt] at e
  | scr _ => simp [lstAt] at e
  | exc _ _ => simp [lstAt] at e
  | dic _ _ _ _ => simp [lstAt] at e
  | @ref n a r =>
    simp only [lstAt] at e
    split at e
    · rename_i vs hc
      cases S.cell _ _ _ hc r with
      | lst q rv => exact ⟨n, a, _, vs, rfl, rfl, r, hc, q, rv⟩
    · cases e
/-- xs.append(e) -/
theorem se_append {o a : Ce} {eo ea : Expr} (hb : baseB eo = true) (hp : plainE ea = true) (hl : (apos.endLine == pos.line) = true) (ho : SE X G W L o eo) (ha : SE X G W L a ea) :
    SE X G W L (.mst .append o (.cons a .nil)) (.Call (.Attribute eo "append" apos) [ea] [] pos) :=
  (pe_bm PySem.F.plainAttrs_list PySem.F.slot_list_append PySem.F.type_list_append mt_append ho (pa_cons ha pa_nil (plain_star hp [] X.env)) (base_ok hb _ _ _) (by rw [plain_star hp]; rfl) hl (plain_star hp [] X.env) rfl).imp
  fun σ H Q ⟨A, ρ, en, h, S, E, P⟩ => by
    simp only [den, dens, Res.bind_ok] at P
    refine ⟨A, ρ, en, h, S, E, P.bind.mono fun x H1 ⟨v, h1, ρ1, E1, S1, R1, P1⟩ => ?_⟩
    split at P1
    · rename_i hla
      obtain ⟨n, q, xs, vs, ev, ex, hr, hc, hq, rv⟩ := lstAt_rep S1 R1 (show lstAt h1 v = true from hla)
      subst ev ex
      refine ⟨.inl ⟨rfl, xs, .inl (.inl hq)⟩, A, ρ1, en, h1, S1, E.ext E1, ?_⟩
      cases hd : den L a en h1 with
      | exc c h2 => rw [hd] at P1; exact P1
      | bad => rw [hd] at P1; exact P1
      | ok w h2 =>
        rw [hd] at P1
        simp only [Res.bind_ok] at P1
        intro ρ2 H2 y X2 S2 R2
        split at P1
        · rename_i z h3 hm
          simp only [mstV] at hm
          split at hm
          · rename_i vs2 hc2
            split at hm
            · rename_i hz
              cases hm
              have hr2 := X2.pre _ _ hr
              cases S2.cell _ _ _ hc2 hr2 with
              | @lst xs2 _ q2 rv2 =>
                refine ⟨q, xs2, y, rfl, rfl, q2, by rw [Paired.length rv2]; exact hz, ?_⟩
                have m := List.mem_of_getElem? hr2
                exact P1 ρ2 _ .non (X2.trans (Ext.put m (not_frz q2))) (S2.put hr2 q2 (Paired.app rv2 (.cons R2 .nil))) (.d .non)
            · cases hm
          · cases hm
        · exact P1.elim
    · exact P1.elim
/-- xs.pop() -/
theorem se_pop {o : Ce} {eo : Expr} (hb : baseB eo = true) (hl : (apos.endLine == pos.line) = true) (ho : SE X G W L o eo) :
    SE X G W L (.mst .pop o .nil) (.Call (.Attribute eo "pop" apos) [] [] pos) :=
  (pe_bm0 PySem.F.plainAttrs_list PySem.F.slot_list_pop PySem.F.type_list_pop mt_pop ho (base_ok hb _ _ _) hl).imp
  fun σ H Q ⟨A, ρ, en, h, S, E, P⟩ => by
    simp only [den, dens, Res.bind_ok] at P
    refine ⟨A, ρ, en, h, S, E, P.bind.mono fun x H1 ⟨v, h1, ρ1, E1, S1, R1, P1⟩ => ?_⟩
    split at P1
    · rename_i hla
      obtain ⟨n, q, xs, vs, ev, ex, hr, hc, hq, rv⟩ := lstAt_rep S1 R1 (show lstAt h1 v = true from hla)
      subst ev ex
      refine ⟨.inl ⟨rfl, xs, .inl (.inl hq)⟩, ?_⟩
      split at P1
      · rename_i z h3 hm
        simp only [mstV, hc] at hm
        split at hm
        · rename_i w hw
          cases hm
          obtain ⟨y, hy, ry⟩ := paired_get2 rv hw
          refine ⟨q, xs, y, rfl, rfl, hq, by rw [Paired.length rv]; exact hy, ?_⟩
          have m := List.mem_of_getElem? hr
          exact P1 ρ1 _ y (Ext.put m (not_frz hq)) (S1.put hr hq (Paired.dropLast_ rv)) (ry.ext (Ext.put m (not_frz hq)))
        · cases hm
      · exact P1.elim
    · exact P1.elim
/-- o[i] = e -/
def plainSub : Expr → Bool
  | .Slice .. => false
  | _ => true
def rSetZ (G : Gx) (W : WX) : TSet := fun o i v H Q => ∃ A ρ h x y z h4, Sim G A ρ h H ∧ RepV G A ρ H o x ∧ RepV G A ρ H i y ∧ RepV G A ρ H v z ∧ subV h x y z = some h4 ∧ ∀ H', Ext A ρ H ρ H' → Sim G A ρ h4 H' → Q H'
theorem set_Z {X : Cx} {G : Gx} {W : WX} (ok : Okx X G W) : PSet X (rSetZ G W) := by
  intro pins s σ H o i v ov iv u Q I ro ri rv hh
  obtain ⟨A, ρ, h, x, y, z, h4, S, rx, ry, rz, e, q⟩ := hh
  cases rx with
  | d _ => simp [subV] at e
  | scr _ => simp [subV] at e
  | exc _ _ => simp [subV] at e
  | dic _ _ _ _ => simp [subV] at e
  | @ref n p r =>
    have m := List.mem_of_getElem? r
    cases ry with
    | ref _ => simp [subV] at e
    | scr _ => simp [subV] at e
    | exc _ _ => simp [subV] at e
    | dic _ _ _ _ => simp [subV] at e
    | @d _ dd R3 =>
      simp only [subV] at e
      split at e
      · rename_i vs hc
        cases dd <;> first | (simp at e; done) | skip
        have ez := R3.scal_int
        subst ez
        rw [Option.map_eq_some_iff] at e
        obtain ⟨j, hj, eh⟩ := e
        subst eh
        cases S.cell _ _ _ hc r with
        | @lst xs _ q3 rv2 =>
          exact set_list pins s σ H _ _ v ov iv u Q I ro ri rv ⟨p, xs, _, j, rfl, rfl, q3, by rw [Paired.length rv2]; exact hj, q _ (Ext.put m (not_frz q3)) (S.put r q3 (Paired.set_ rz j rv2))⟩
      · rename_i kvs hc
        split at e
        · rename_i hz
          cases e
          simp only [Bool.and_eq_true, decide_eq_true_eq] at hz
          cases S.cell _ _ _ hc r with
          | @dict _ xs _ q3 rv2 =>
            replace q3 : H p = some (DX G.w p xs) := q3
            cases ro
            refine z_set (Nat.lt_of_le_of_lt (Nat.add_le_add_left (by decide) _) ok.hu) I ok.hK ok.hw q3 rv2 hz.1 hz.2 ri R3 rv fun kk s' ek I' => ⟨_, I', q _ (Ext.put m (fun ob u z => by rw [q3] at z; cases z)) (S.putC r (fun ob u z => by rw [q3] at z; cases z) ?_)⟩
            have k := Kp.put (H := H) (o := DX G.w p (xput xs kk i v)) (A := A) m (fun ob u z => by rw [q3] at z; cases z)
            exact .dict (lk := false) upd_same (dp_put rv2 ek (fun z => z.keep k) (fun z => z.re k fun _ _ z => z) (R3.keep k) (rz.re k fun _ _ z => z))
        · cases e
      · cases e
theorem ss_sub (ok : Okx X G W) {o i a : Ce} {eo ei ea : Expr} {tp : Pos} (hi : plainE ei = true) (ho : SE X G W L o eo) (hix : SE X G W L i ei) (ha : SE X G W L a ea) : SS X G W L (.sub o i a) (.Assign [.Subscript eo ei tp] ea pos) :=
  (ps_asg ha (pg_sub ho hix (set_Z ok) (by intro v; cases ei <;> first | rfl | (simp [plainE] at hi))) (by cases ea <;> rfl) (by cases ea <;> rfl) (by rfl)).imp fun D σ H ⟨A, ρ, en, h, S, E, P⟩ => by
    simp only [Z.exec] at P
    refine ⟨A, ρ, en, h, S, E, (ofR_post E P).mono fun x H1 ⟨v, h1, ρ1, E1, S1, R1, P1⟩ => ⟨A, ρ1, en, h1, S1, E.ext E1, (ofR_post (E.ext E1) P1).mono fun y H2 ⟨w, h2, ρ2, E2, S2, R2, P2⟩ => ⟨A, ρ2, en, h2, S2, (E.ext E1).ext E2, (ofR_post ((E.ext E1).ext E2) P2).mono fun z H3 ⟨u, h3, ρ3, E3, S3, R3, P3⟩ => ?_⟩⟩⟩
    split at P3
    · rename_i h4 hs
      exact ⟨A, ρ3, h3, w, u, v, h4, S3, R2.ext E3, R3, (R1.ext E2).ext E3, hs, fun H' X' S' => P3 ρ3 H' σ X' S' ((((E.ext E1).ext E2).ext E3).ext X')⟩
    · exact P3.elim
def rExtR : R2 := fun x y H Q => ∃ l b xs zs, x = .ref l ∧ y = .ref b ∧ H l = some (.lst xs) ∧ Rd H b (.lst zs) ∧ xs.length + zs.length ≤ sizeLine ∧ Q (.ref l) (upd H l (.lst (xs ++ zs)))
theorem iop_extR : OpR X (inplaceOp .Add) rExtR := by
  intro pins s σ H x y v u Q I rx ry h
  obtain ⟨l, b, xs, zs, rfl, rfl, hH, hB, hz, q⟩ := h
  cases rx
  cases ry
  obtain ⟨z, its, n, r, hl, e⟩ := I.lstM hH
  obtain ⟨z2, its2, n2, r2, hl2, e2⟩ := lstR I hB
  have hsz : its.toArray.size + its2.toArray.size ≤ sizeLine := by rw [List.size_toArray, List.size_toArray]; omega
  have hlong : ¬ (!its.toArray.isEmpty && Builtin.List.listTooLong (its.toArray.size + its2.toArray.size)) = true := by
    rw [notLongL hsz, Bool.and_false]
    exact Bool.false_ne_true
  refine iadd_road ⟨_, e, rfl⟩ ⟨_, e2, rfl⟩ (call_meets PySem.F.slot_list_iadd ⟨_, e, rfl⟩ PySem.F.entry_list_iadd (PySem.F.args_list_iadd_2 _ _)
    (AutoSeq1.list___iadd___list_list_0 l its.toArray n b its2.toArray n2 hlong (by rw [List.size_toArray]; omega) (by omega)) ⟨e, e2, ?_⟩)
  refine ⟨.ref l, _, I.lset (its' := its ++ its2) (t' := s.toks) hH e (by simp) (r.append r2) ?_, rfl, q⟩
  rw [List.length_append]
  omega
/-- a list that is changed no more -/
theorem se_lock {a : Ce} {ea : Expr} (ha : SE X G W L a ea) : SE X G W L (.lock a) ea := ⟨fun pins s σ H Q I ⟨A, ρ, en, h, S, E, P⟩ => by
  simp only [den] at P
  refine thn (ha.run pins s σ H _ I ⟨A, ρ, en, h, S, E, P.bind⟩) fun u s1 ⟨x, H1, I1, rx, v, h1, ρ1, E1, S1, R1, P1⟩ => ?_
  cases hl : lockL h1 v with
  | none => rw [hl] at P1; exact P1.elim
  | some q =>
    obtain ⟨d, h2⟩ := q
    rw [hl] at P1
    dsimp only at P1
    cases R1 with
    | d R1 =>
      simp only [lockL, Option.some.injEq, Prod.mk.injEq] at hl
      obtain ⟨e1, e2⟩ := hl
      subst e1 e2
      exact ⟨x, H1, I1, rx, P1.here S1 (.d R1)⟩
    | scr _ => simp [lockL] at hl
    | exc _ _ => simp [lockL] at hl
    | dic _ _ _ _ => simp [lockL] at hl
    | @ref n p R1 =>
      simp only [lockL] at hl
      split at hl
      · rename_i vs hc
        rw [Option.map_eq_some_iff] at hl
        obtain ⟨ds, e1, e2⟩ := hl
        simp only [Prod.mk.injEq] at e2
        obtain ⟨e2, e3⟩ := e2
        subst e2 e3
        cases S1.cell _ _ _ hc R1 with
        | @lst xs _ q rv =>
          obtain ⟨od, I2⟩ := I1.lock q (show Mut (some (.lst xs)) from trivial)
          have m := List.mem_of_getElem? R1
          have nf := not_frz q
          have t := (dats_rep rv e1).keep (Kp.put (o := .frz od (.lst xs)) m nf)
          exact ⟨_, _, I2, rx, P1 ρ1 _ _ (Ext.put m nf) (S1.putC R1 nf (.fro ⟨od, upd_same⟩ t)) (.d (.lstF ⟨od, upd_same⟩ t))⟩
      · rename_i ds hc
        simp only [Option.some.injEq, Prod.mk.injEq] at hl
        obtain ⟨e1, e2⟩ := hl
        subst e1 e2
        cases S1.cell _ _ _ hc R1 with
        | fro q rv => exact ⟨_, H1, I1, rx, P1.here S1 (.d (.lstF q rv))⟩
      · cases hl⟩
/-- x += e -/
def rAug (G : Gx) (W : WX) : TIp := fun x y H Q => ∃ A ρ h v w r h1, Sim G A ρ h H ∧ RepV G A ρ H x v ∧ RepV G A ρ H y w ∧ augV h v w = some (r, h1) ∧ Post G A W [] (RepV G A) ρ H (.ok r h1) Q
theorem ip_aug : PIp X .Add (rAug G W) := by
  intro pins s σ H x y v u Q I rx ry hh
  obtain ⟨A, ρ, h, a, b, r, h1, S, ra, rb, e, P⟩ := hh
  cases ra with
  | scr _ => simp [augV] at e
  | exc _ _ => simp [augV] at e
  | dic _ _ _ _ => simp [augV] at e
  | @d _ da ra =>
    cases da <;> first | (simp [augV] at e; done) | skip
    cases rb with
    | scr _ => simp [augV] at e
    | exc _ _ => simp [augV] at e
    | dic _ _ _ _ => simp [augV] at e
    | ref _ => simp [augV] at e
    | @d _ db rb =>
      cases db <;> first | (simp [augV] at e; done) | skip
      simp only [augV, Option.some.injEq, Prod.mk.injEq] at e
      obtain ⟨e1, e2⟩ := e
      subst e1 e2
      have := ra.scal_int; have := rb.scal_int; subst_vars
      exact ip_add pins s σ H _ _ v u Q I rx ry ⟨_, _, rfl, rfl, P.here S (.d (.int _))⟩
  | @ref n q r' =>
    simp only [augV] at e
    split at e
    · rename_i vs ys hc hy
      split at e
      · rename_i hz
        simp only [Option.some.injEq, Prod.mk.injEq] at e
        obtain ⟨e1, e2⟩ := e
        subst e1 e2
        cases S.cell _ _ _ hc r' with
        | @lst xs _ q3 rv =>
          obtain ⟨b', zs, ey, hb, tb⟩ := (asD_rep S rb hy).list
          subst ey
          have m := List.mem_of_getElem? r'
          exact iop_extR pins s σ H _ _ v u Q I rx ry ⟨q, b', xs, zs, rfl, rfl, q3, hb, by rw [Paired.length rv, tb.length]; simpa [lOk] using hz,
            P ρ _ _ (Ext.put m (not_frz q3)) (S.put r' q3 (Paired.app rv (tb.pair fun x d r => .d r))) (.ref r')⟩
      · cases e
    · cases e
theorem ss_aug {i : Nat} {x : Str} {a : Ce} {ea : Expr} {p2 : Pos} (hN : X.N.Nodup) (hi : X.N[i]? = some x) (hx : Loc X.env.scope x) (hf : X.fn x = true ∨ X.env.scope.names.lookup x = some .local) (ha : SE X G W L a ea) :
    SS X G W L (.aug i a) (.AugAssign (.Name x p2) .Add ea pos) := (ps_aug hN hi hx ha (ip_aug (G := G) (W := W)) hf).imp fun D σ H ⟨A, ρ, en, h, S, E, P⟩ => by
  simp only [Z.exec] at P
  split at P
  · rename_i v hv
    obtain ⟨x, hx, rx⟩ := E.at_ i v hv
    refine ⟨x, hx, A, ρ, en, h, S, E, (ofR_post E P).mono fun y H1 ⟨w, h1, ρ1, E1, S1, R1, P1⟩ => ?_⟩
    split at P1
    · rename_i r h2 hau
      refine ⟨A, ρ1, h1, v, w, r, h2, S1, rx.ext E1, R1, hau, fun ρ2 H2 z X2 S2 R2 => ?_⟩
      obtain ⟨e1, he, P2⟩ := toE_post P1
      exact P2 ρ2 H2 _ X2 S2 (((E.ext E1).ext X2).set_ R2 he)
    · exact P1.elim
  · exact P.elim
def noTuple : Expr → Bool
  | .Tuple .. => false
  | _ => true
theorem noTuple_stores {e : Expr} (h : noTuple e = true) (ts : List Expr) (env : PySem.Env) : swappedStores ts e env = pure none := by
  unfold swappedStores
  split
  · rename_i hh
    split at hh
    · simp [noTuple] at h
    · simp [noTuple] at h
    · cases hh
  · rfl
/-- (a, b) = e -/
theorem ss_asg {t : Ct} {tg ea : Expr} {a : Ce} (hc : noComp ea = true) (ht : swappedStores [tg] ea X.env = pure none) (h1 : (assignEach [tg] X.env).map (·.2) = [assign tg X.env]) (hg : PG X tg (tG G t)) (ha : SE X G W L a ea) : SS X G W L (.asg t a) (.Assign [tg] ea pos) :=
  (ps_asg ha hg (noComp_swaps hc _ _ _) ht h1).imp fun D σ H ⟨A, ρ, en, h, S, E, P⟩ => by
    simp only [Z.exec] at P
    refine ⟨A, ρ, en, h, S, E, (ofR_post E P).mono fun x H1 ⟨v, h1, ρ1, E1, S1, R1, P1⟩ => ?_⟩
    obtain ⟨e1, he, P2⟩ := toE_post P1
    exact ⟨A, ρ1, h1, en, v, e1, S1, E.ext E1, R1, he, fun σ' E' _ => P2 ρ1 H1 σ' Ext.refl S1 E'⟩
/-- targets in a row, a value for each -/
def tGsV (G : Gx) (ts : List Ct) : TGs := fun vs σ H Q => ∃ A ρ h e ws e', Sim G A ρ h H ∧ EnvR G A ρ H σ e ∧ RepVs G A ρ H vs ws ∧ bindAllV ts ws e = some e' ∧ ∀ σ', EnvR G A ρ H σ' e' → Q σ' H
theorem sgsV_nil : PGs X [] (tGsV G []) := ⟨fun pins s σ H vs us Q I r ⟨A, ρ, h, e, ds, e', S, E, rp, b, k⟩ => by
  refine pgs_nil.run pins s σ H vs us Q I r ?_
  cases rp with
  | nil => simp only [bindAllV, Option.some.injEq] at b; subst b; exact ⟨rfl, k σ E⟩
  | cons _ _ => simp [bindAllV] at b⟩
theorem sgsV_cons {t : Ct} {ts : List Ct} {e : Expr} {es : List Expr} (h1 : PG X e (tG G t)) (h2 : PGs X es (tGsV G ts)) (hs : (assignEach (e :: es) X.env).map (·.2) = assign e X.env :: (assignEach es X.env).map (·.2)) : PGs X (e :: es) (tGsV G (t :: ts)) :=
  ⟨fun pins s σ H vs us Q I r ⟨A, ρ, h, en, ds, e', S, E, rp, b, k⟩ => by
    refine (pgs_cons h1 h2 hs).run pins s σ H vs us Q I r ?_
    cases rp with
    | nil => simp [bindAllV] at b
    | cons r1 rt =>
      simp only [bindAllV] at b
      rw [Option.bind_eq_some_iff] at b
      obtain ⟨e1, b1, b2⟩ := b
      exact ⟨_, _, rfl, A, ρ, h, en, _, e1, S, E, r1, b1, fun σ1 E1 w1 => ⟨A, ρ, h, e1, _, e', S, E1, rt, b2, fun σ2 E2 => k σ2 E2⟩⟩⟩
theorem bindAllV_len : ∀ {ts : List Ct} {ws : List Val} {e e' : Z.Env}, bindAllV ts ws e = some e' → ws.length = ts.length
  | [], [], _, _, _ => rfl
  | [], _ :: _, _, _, h => by simp [bindAllV] at h
  | _ :: _, [], _, _, h => by simp [bindAllV] at h
  | t :: ts, w :: ws, e, e', h => by
    simp only [bindAllV] at h
    rw [Option.bind_eq_some_iff] at h
    obtain ⟨e1, _, h2⟩ := h
    simp [bindAllV_len h2]
/-- (a, b) = (e1, e2), values of any kind -/
theorem ss_asgs (ok : Okx X G W) {ts : List Ct} {tgs xs : List Expr} {es : Ces} {k k2 : Nat} {pt pt2 : Pos} (ht : swappedStores [.Tuple tgs k pt] (.Tuple xs k2 pt2) X.env = pure none) (h : PGs X tgs (tGsV G ts)) (hl : (assignEach tgs X.env).length = ts.length) (hst : (assignEach tgs X.env).findIdx? (·.1) = none) (hn : ts.length ≤ 100) (ha : SA X G W L es xs) :
    SS X G W L (.asgs ts es) (.Assign [.Tuple tgs k pt] (.Tuple xs k2 pt2) pos) :=
  (ps_asg (pe_tup ha) (pg_tup ok.calm h hl hst) (by rfl) ht (by rfl)).imp fun D σ H ⟨A, ρ, en, h, S, E, P⟩ => by
    simp only [Z.exec] at P
    refine ⟨A, ρ, en, h, S, E, (ofR_post E P).mono fun vs H1 ⟨ws, h1, ρ1, E1, S1, R1, P1⟩ => ?_⟩
    obtain ⟨e1, he, P2⟩ := toE_post P1
    have hlen := bindAllV_len he
    exact ⟨by rw [Paired.length R1, hlen]; exact Nat.le_trans hn (by decide), fun p hp => ⟨p, vs, rfl, .inl (.inl upd_same), by rw [Paired.length R1, hlen], A, ρ1, h1, en, ws, e1, S1.laid hp, (E.ext E1).ext (Ext.laid hp), RepVs.ext (Ext.laid hp) R1, he, fun σ' E' => P2 ρ1 _ σ' (Ext.laid hp) (S1.laid hp) E'⟩⟩
/-- a, b = e1, e2 -/
theorem setAll_two {e e' : Z.Env} {i j : Nat} {vs : List Val} (h : setAll e [i, j] vs = some e') : ∃ v w e1, vs = [v, w] ∧ setE e i v = some e1 ∧ setE e1 j w = some e' := by
  match vs, h with
  | [], h => simp [setAll] at h
  | [_], h => simp [setAll] at h
  | [v, w], h =>
    simp only [setAll] at h
    rw [Option.bind_eq_some_iff] at h
    obtain ⟨e1, h1, h2⟩ := h
    rw [Option.bind_eq_some_iff] at h2
    obtain ⟨e2, h3, h4⟩ := h2
    cases h4
    exact ⟨v, w, e1, rfl, h1, h3⟩
  | _ :: _ :: _ :: _, h => simp [setAll] at h
theorem setAll_three {e e' : Z.Env} {i j k : Nat} {vs : List Val} (h : setAll e [i, j, k] vs = some e') : ∃ v w u e1 e2, vs = [v, w, u] ∧ setE e i v = some e1 ∧ setE e1 j w = some e2 ∧ setE e2 k u = some e' := by
  match vs, h with
  | [], h => simp [setAll] at h
  | [_], h => simp [setAll] at h
  | [_, _], h => simp [setAll] at h
  | [v, w, u], h =>
    simp only [setAll] at h
    rw [Option.bind_eq_some_iff] at h
    obtain ⟨e1, h1, h2⟩ := h
    rw [Option.bind_eq_some_iff] at h2
    obtain ⟨e2, h3, h4⟩ := h2
    rw [Option.bind_eq_some_iff] at h4
    obtain ⟨e3, h5, h6⟩ := h4
    cases h6
    exact ⟨v, w, u, e1, e2, rfl, h1, h3, h5⟩
  | _ :: _ :: _ :: _ :: _, h => simp [setAll] at h
def starE : Expr → Bool
  | .Starred .. => true
  | _ => false
theorem ss_par2 (ok : Okx X G W) {i j : Nat} {x y : Str} {es : Ces} {a b : Expr} {px py pt : Pos} {kt k2 : Nat} {pt2 : Pos} (hi : X.N[i]? = some x) (hj : X.N[j]? = some y) (hij : i ≠ j) (hx : X.env.scope.names.lookup x = some .local) (hy : X.env.scope.names.lookup y = some .local)
    (hw : swappedStores [.Tuple [.Name x px, .Name y py] kt pt] (.Tuple [a, b] k2 pt2) X.env = pure (some [x, y])) (ha : SA X G W L es [a, b]) :
    SS X G W L (.par [i, j] es) (.Assign [.Tuple [.Name x px, .Name y py] kt pt] (.Tuple [a, b] k2 pt2) pos) :=
  (ps_par ok.calm ok.nd hi hj hij hx hy ha hw).imp fun D σ H ⟨A, ρ, en, h, S, E, P⟩ => by
    simp only [Z.exec] at P
    refine ⟨A, ρ, en, h, S, E, (ofR_post E P).mono fun vs H1 ⟨us, h1, ρ1, E1, S1, R1, P1⟩ => ?_⟩
    obtain ⟨e', he, P2⟩ := toE_post P1
    obtain ⟨v, w, e1, eu, q1, q2⟩ := setAll_two he
    subst eu
    cases R1 with
    | cons r1 t => cases t with
      | cons r2 t => cases t with
        | nil => exact ⟨_, _, rfl, P2 ρ1 H1 _ Ext.refl S1 (((E.ext E1).set_ r1 q1).set_ r2 q2)⟩
theorem ss_par3 (ok : Okx X G W) {i j k : Nat} {x y z : Str} {es : Ces} {a b c : Expr} {px py pz pt : Pos} {kt k2 : Nat} {pt2 : Pos} (hi : X.N[i]? = some x) (hj : X.N[j]? = some y) (hk : X.N[k]? = some z) (hij : i ≠ j) (hik : i ≠ k) (hjk : j ≠ k) (hx : X.env.scope.names.lookup x = some .local) (hy : X.env.scope.names.lookup y = some .local) (hz : X.env.scope.names.lookup z = some .local)
    (hw : swappedStores [.Tuple [.Name x px, .Name y py, .Name z pz] kt pt] (.Tuple [a, b, c] k2 pt2) X.env = pure (some [x, y, z])) (ha : SA X G W L es [a, b, c]) :
    SS X G W L (.par [i, j, k] es) (.Assign [.Tuple [.Name x px, .Name y py, .Name z pz] kt pt] (.Tuple [a, b, c] k2 pt2) pos) :=
  (L2.ps_par3 ok.calm ok.nd hi hj hk hij hik hjk hx hy hz ha hw).imp fun D σ H ⟨A, ρ, en, h, S, E, P⟩ => by
    simp only [Z.exec] at P
    refine ⟨A, ρ, en, h, S, E, (ofR_post E P).mono fun vs H1 ⟨us, h1, ρ1, E1, S1, R1, P1⟩ => ?_⟩
    obtain ⟨e', he, P2⟩ := toE_post P1
    obtain ⟨v, w, u, e1, e2, eu, q1, q2, q3⟩ := setAll_three he
    subst eu
    cases R1 with
    | cons r1 t => cases t with
      | cons r2 t => cases t with
        | cons r3 t => cases t with
          | nil => exact ⟨_, _, _, rfl, P2 ρ1 H1 _ Ext.refl S1 ((((E.ext E1).set_ r1 q1).set_ r2 q2).set_ r3 q3)⟩
/-- the same through a tuple -/
def gAll (is : List Nat) : TGs := fun vs σ H Q => ∃ σ', setAllS σ is vs = some σ' ∧ Q σ' H
where setAllS : St → List Nat → List V → Option St
  | σ, [], [] => some σ
  | σ, i :: is, v :: vs => setAllS (σ.set i (some v)) is vs
  | _, _, _ => none
end
end L2

set_option Elab.async false
set_option linter.all false
set_option autoImplicit false
set_option maxRecDepth 100000
set_option maxHeartbeats 4000000
/-! Z9e: dict displays with text keys. -/
namespace L2
open PySem PySem.Spec PyProof.Rows Z
def tK_ (k : Str) : TE := fun _ H Q => Q (.str k) H
section
variable {X : Cx} {G : Gx} {W : WX} {L : Lib}
def trsD (G : Gx) (W : WX) (L : Lib) : List Str → Ces → List (TE × TE)
  | k :: ks, .cons a as => (tK_ k, tE G W (den L a)) :: trsD G W L ks as
  | _, _ => []
theorem pairs_reads {A : Addr → Prop} {σ : St} {en : Z.Env} : ∀ {es : Ces} {ks : List Str} {ρ : List Addr} {h : MH} {H : Hp} {Q : List V → Hp → Prop} {QP : List (V × V) → Hp → Prop}, ks.length = es.len → Sim G A ρ h H → EnvR G A ρ H σ en → Post G A W σ (RepVs G A) ρ H (dens L es en h) Q →
    (∀ ys H', ys.length = ks.length → Q ys H' → QP ((ks.zip ys).map fun q => (V.str q.1, q.2)) H') → tPairs (trsD G W L ks es) σ H QP
  | .nil, [], ρ, h, H, Q, QP, _, S, E, P, hq => by
    simp only [dens] at P
    exact hq [] H rfl (P.here S .nil)
  | .nil, _ :: _, _, _, _, _, _, hl, _, _, _, _ => by simp [Ces.len] at hl
  | .cons _ _, [], _, _, _, _, _, hl, _, _, _, _ => by simp [Ces.len] at hl
  | .cons a as, k :: ks, ρ, h, H, Q, QP, hl, S, E, P, hq => by
    simp only [dens] at P
    simp only [trsD, tPairs, tK_]
    refine ⟨A, ρ, en, h, S, E, P.bind.mono fun y H1 ⟨v, h1, ρ1, E1, S1, R1, P1⟩ => ?_⟩
    refine pairs_reads (ρ := ρ1) (h := h1) (Q := fun ys H' => ∃ ρ2, RepV G A ρ2 H' y v ∧ Q (y :: ys) H') (by simpa [Ces.len] using hl) S1 (E.ext E1) ?_ fun ys H' hlen q => ?_
    · cases hd : dens L as en h1 with
      | bad => rw [hd] at P1; exact P1.elim
      | exc c h2 => rw [hd] at P1; exact P1
      | ok ws h2 =>
        rw [hd] at P1
        simp only [Res.bind_ok] at P1
        intro ρ2 H2 ys X2 S2 R2
        exact ⟨ρ2, R1.ext X2, P1 ρ2 H2 (y :: ys) X2 S2 (.cons (R1.ext X2) R2)⟩
    · obtain ⟨_, _, q2⟩ := q
      exact hq (y :: ys) H' (by simp [hlen]) q2
theorem merge_new : ∀ (more acc : List (L2.Key × V)), ((acc ++ more).map (·.1)).Nodup → mergeK acc more = acc ++ more
  | [], acc, _ => by simp [mergeK]
  | q :: more, acc, hn => by
    have hq : valV acc q.1 = none := by
      unfold valV
      rw [Option.map_eq_none_iff, List.find?_eq_none]
      intro z hz
      simp only [decide_eq_true_eq]
      intro e
      rw [List.map_append, List.nodup_append] at hn
      exact hn.2.2 z.1 (List.mem_map_of_mem hz) q.1 (by simp) e
    have e1 : mergeK acc (q :: more) = mergeK (putK acc q.1 q.2) more := rfl
    rw [e1, putK_new q.2 hq, merge_new more (acc ++ [(q.1, q.2)]) (by simpa using hn)]
    simp
theorem se_dict {ks : List Str} {es : Ces} {pos : Pos} {keys : List (Option Expr)} {values : List Expr} (h : PPs X pos keys values (trsD G W L ks es)) (hes : ks.length = es.len) (hall : keys.all (·.isSome) = true) (hl : keys.length = values.length) (h0 : keys ≠ []) (h15 : keys.length ≤ 15) :
    SE X G W L (.dict ks es) (.Dict keys values pos) := (pe_disp h hall hl h0 h15).imp fun σ H Q ⟨A, ρ, en, h, S, E, P⟩ => by
  simp only [den] at P
  intro p hp
  have nin : p ∉ ρ := fun m => S.tracked m hp
  have nA : ¬ A p := fun z => (S.far p z).1 hp
  have k : Kp (Av A ρ) (Av (fun b => A b ∨ b = p) ρ) H (upd H p (.dK [])) := Kp.of (f := Kp.up (nf_none hp)) fun b o e n => ⟨by rw [upd_ne (ne_of_none e hp)]; exact e, fun z => by
    rcases z with (z | z) | z
    · exact n (.inl z)
    · rw [z, hp] at e; cases e
    · exact n (.inr z)⟩
  have S' : Sim G (fun b => A b ∨ b = p) ρ h (upd H p (.dK [])) := S.re k (fun b o _ e => by rw [upd_ne (ne_of_none e hp)]; exact e) fun b z => by
    rcases z with z | z
    · exact ⟨by rw [upd_ne (fun (e : b = p) => nA (e ▸ z))]; exact (S.far b z).1, (S.far b z).2⟩
    · rw [z]; exact ⟨by rw [upd_same]; simp, nin⟩
  have E' : EnvR G (fun b => A b ∨ b = p) ρ (upd H p (.dK [])) σ en := ⟨E.len, fun i v hv => let ⟨y, h1, h2⟩ := E.at_ i v hv; ⟨y, h1, h2.re k fun _ _ z => z⟩⟩
  have toA : ∀ {ρ' : List Addr} {h' : MH} {H' : Hp}, Sim G (fun b => A b ∨ b = p) ρ' h' H' → Sim G A ρ' h' H' := fun S2 => S2.re (Kp.of (fun a o e n => ⟨e, fun z => n (z.imp .inl id)⟩) fun _ _ _ e => e) (fun a o _ e => e) fun a z => S2.far a (.inl z)
  have up : ∀ {ρ' : List Addr} {H' : Hp}, Ext (fun b => A b ∨ b = p) ρ (upd H p (.dK [])) ρ' H' → Ext A ρ H ρ' H' := fun x => (Ext.laid (o := .dK []) hp).trans (x.less fun _ z => .inl z)
  refine pairs_reads (A := fun b => A b ∨ b = p) (Q := fun ys H2 => ∃ (vs : List Val) (h1 : MH) (ρ1 : List Addr), Ext (fun b => A b ∨ b = p) ρ (upd H p (.dK [])) ρ1 H2 ∧ Sim G (fun b => A b ∨ b = p) ρ1 h1 H2 ∧ RepVs G (fun b => A b ∨ b = p) ρ1 H2 ys vs ∧ dens L es en h = .ok vs h1) hes S' E' ?_ fun ys H2 hlen ⟨vs, h1, ρ1, X1, S1, R1, hd⟩ => ?_
  · cases hd : dens L es en h with
    | bad => rw [hd] at P; exact P
    | exc c h2 =>
      rw [hd] at P
      exact fun ρ' H' x s => P ρ' H' (up x) (toA s)
    | ok ws h2 => exact fun ρ' H' ys x s r => ⟨ws, h2, ρ', x, s, r, rfl⟩
  · rw [hd] at P
    simp only [Res.bind_ok] at P
    obtain ⟨v, e, P2⟩ := P.lift
    rw [Option.bind_eq_some_iff] at e
    obtain ⟨ds, e1, e2⟩ := e
    split at e2
    · rename_i hz
      cases e2
      unfold dicOk at hz
      simp only [Bool.and_eq_true, decide_eq_true_eq] at hz
      have hp2 : H2 p = some (.dK []) := X1.strg upd_same nin (.inr rfl)
      have r := dats_rep R1 e1
      have np1 : p ∉ ρ1 := X1.notin upd_same nin
      refine ⟨hp2, (ks.zip ys).map fun q => (.inr q.1, q.2), by simp [List.map_map, Function.comp_def, kV], by simp; omega, ?_⟩
      rw [merge_new _ [] (by
        simp only [List.nil_append, List.map_map, Function.comp_def]
        have hm : (ks.zip ys).map (fun q => (Sum.inr q.1 : L2.Key)) = ks.map Sum.inr := by
          have h2 := congrArg (List.map (Sum.inr : Str → L2.Key)) (List.map_fst_zip (l₁ := ks) (l₂ := ys) (by omega))
          rw [List.map_map] at h2
          exact h2
        rw [hm]
        exact hz.2.map (f := Sum.inr) (fun a b hab e => hab (Sum.inr.inj e)))]
      have kk : Kp (Av (fun b => A b ∨ b = p) ρ1) (Av A ρ1) H2 (upd H2 p (.dK ((ks.zip ys).map fun q => (.inr q.1, q.2)))) := Kp.of (f := Kp.up fun ob u z => by rw [hp2] at z; cases z) fun b o e n => ⟨by rw [upd_ne (fun (q : b = p) => n (.inl (.inr q)))]; exact e, fun z => n (z.imp .inl id)⟩
      have S2 : Sim G A ρ1 h1 (upd H2 p (.dK ((ks.zip ys).map fun q => (.inr q.1, q.2)))) := S1.re kk (fun b o m e => by rw [upd_ne (fun (q : b = p) => np1 (q ▸ m))]; exact e) fun b z => ⟨by rw [upd_ne (fun (e : b = p) => nA (e ▸ z))]; exact (S1.far b (.inl z)).1, (S1.far b (.inl z)).2⟩
      have X2 : Ext A ρ H ρ1 (upd H2 p (.dK ((ks.zip ys).map fun q => (.inr q.1, q.2)))) := by
        have x := up X1
        refine ⟨x.pre, x.new, fun b o e n => ?_, fun b e => ?_, fun b ob u e => by rw [upd_ne (ne_of_none e hp)]; exact x.frzs b ob u e⟩
        · unfold Ks; rw [upd_ne (ne_of_none e hp)]; exact x.keep b o e n
        · unfold upd; split
          · simp
          · exact x.live b e
      refine P2 ρ1 _ _ X2 S2 (.dic ?_ (fun z => z.elim nA np1) (by simpa using hz.1.1.1) (r.keep kk))
      simp [upd_same]
    · cases e2
end
end L2

set_option Elab.async false
set_option linter.all false
set_option autoImplicit false
set_option maxRecDepth 100000
set_option maxHeartbeats 4000000
/-! Z9f: methods of dicts and lists, dict displays. -/
namespace L2
open PySem PySem.Spec PyProof.Rows Z
/-! ### setdefault over keys that stand in the heap -/
section
variable {prog : Program} {w : World} {K : Type} [DecidableEq K] {knd : HeapKind prog w K} {A : Around} {E : Value → Shared → Prop} {s : Shared}
theorem sdH_core {d a : Addr} {xs : List (K × Addr × Value)} {k : K} {v : Value} {Q : Value → Shared → Prop} (hu : knd.room A) (hkey : knd.is s.heap k a) (hm : s.heap.DictOfH knd d xs)
    (h1 : ∀ p tk, atKey xs k = some p → Q p.2 { s with toks := tk }) (h2 : atKey xs k = none → ∀ h' tk, h'.DictOfH knd d (storedH xs k a v) → Heap.SameBut d s.heap h' → Q v { s with heap := h', toks := tk }) (hsz : xs.length ≤ sizeLine) :
    wpAny (model prog w) A (dictSetDefault d (.ref a) v) Q E s := by
  obtain ⟨o, es, ep, ho, hc, hd, he, his, hn⟩ := hm
  unfold dictSetDefault; try with_reducible refine wpAny_holding ?_
  refine wpAny_bind (knd.pyHash hu hkey ?_); refine wpAny_bind (wpAny_dictFind_heap (s := { s with toks := s.toks + knd.draws k }) hu hkey ho hd he his hn ?_ ?_)
  · intro hno
    have hz := atKey_none_of_get hno
    have hnot : k ∉ xs.map (·.1) := not_mem_keys_of_get hno
    refine wpAny_bind (wpAny_rule (wpAny_bind (wpAny_updateDictKeys (hz := by have e := size_of_entries he; omega) (s := { s with toks := s.toks + knd.draws k }) ho hd (wpAny_pure (h2 hz _ _ ⟨_, _, ep + 1, Heap.get?_update_self _ ho (Obj.isFreed_of_dict (Obj.data_mapDictKeys hd _)), hc.mapDictKeys _, Obj.data_mapDictKeys hd _, ?_, ?_, ?_⟩ (Heap.SameBut.update ..))))))
    · rw [storedH_new hz]; simp [he, entryOfKey]
    · rw [storedH_new hz]
      intro x hx; rcases List.mem_append.mp hx with hx | hx
      · exact knd.keeps (his x hx) ho hd (Heap.SameBut.update ..)
      · rw [List.mem_singleton.mp hx]; exact knd.keeps hkey ho hd (Heap.SameBut.update ..)
    · rw [storedH_new hz, List.map_append, List.nodup_append]
      refine ⟨hn, by simp, fun x hx y hy => ?_⟩
      have ey : y = k := by simpa using hy
      exact fun e => hnot (ey ▸ e ▸ hx)
  · intro j p hj
    have e : es[j]? = some (entryOfKey knd (k, p)) := by rw [entry_at he j, hj]; rfl
    refine wpAny_bind (wpAny_dictEntries (s := { s with toks := s.toks + knd.draws k }) ho hd ?_)
    rw [e]
    exact wpAny_bind (wpAny_rule (wpAny_pure (h1 p _ (atKey_of_get hn hj))))
theorem sdH_meets {d a : Addr} {k : K} (hd : (d == sysModules) = false) (v : Value) :
    MeetsIn prog w (Builtin.«dict.setdefault» ⟨[.ref d, .ref a, v], []⟩) (fun A R s => knd.room A.in1 ∧ ∃ xs, knd.is s.heap k a ∧ s.heap.DictOfH knd d xs ∧ xs.length ≤ sizeLine ∧ (∀ p tk, atKey xs k = some p → R (.ok (.ret p.2)) { s with toks := tk }) ∧
      (atKey xs k = none → ∀ h' tk, h'.DictOfH knd d (storedH xs k a v) → Heap.SameBut d s.heap h' → R (.ok (.ret v)) { s with heap := h', toks := tk })) :=
  .of_wp fun A R s ⟨hu, xs, hkey, hm, hz, h1, h2⟩ => by
    unfold Builtin.«dict.setdefault»; refine wpAny_bind ?_
    unfold Builtin.Dict.keyAndDefault; refine wpAny_bind (wpAny_notOrdered_dict hm.typeIs ?_)
    show wpAny _ _ (pure (d, Value.ref a, some v)) _ _ s
    refine wpAny_pure ?_
    show wpAny _ _ (if (d == sysModules) = true then _ else (dictSetDefault d (.ref a) v >>= _)) _ _ s
    rw [if_neg (by rw [hd]; exact Bool.false_ne_true)]
    exact wpAny_bind (sdH_core hu hkey hm (fun p tk hp => wpAny_pure ⟨p.2, rfl, h1 p tk hp⟩) (fun hn h' tk hm' hs' => wpAny_pure ⟨v, rfl, h2 hn h' tk hm' hs'⟩) hz)
end
section
variable {X : Cx} {pins : List (Addr × Obj)} {σ : St} {H : Hp} {s : Shared} {a : Addr} {xs : List DE} {β : Type} {kvs : List (PyData × β)} {G : Gx} {B : Addr → Prop} {Rv : V → β → Prop} {y : V} {u : Value} {kd : PyData} {A : Around} {E : Value → Shared → Prop}
/-- d.setdefault(k, v) -/
theorem z_setd {Q : Value → Shared → Prop} {v : V} {r : Value} (hu : A.units + 9 < cLine) (I : Inv X pins σ H s) (hK : X.K = G.K) (hw : X.w = G.w) (hd : H a = some (DX G.w a xs)) (dp : DP G B H Rv xs kvs) (ok : kOk kvs kd = true) (hl : kvs.length < sizeLine) (ry : RelV y u) (rk : Rp G B H y kd) (rv : RelV v r)
    (h1 : ∀ s' x w' b, Inv X pins σ H s' → dget kvs kd = some b → RelV x w' → Rv x b → Q w' s')
    (h2 : ∀ kk s', keyN kd = some kk → dget kvs kd = none → Inv X pins σ (upd H a (DX G.w a (xput xs kk y v))) s' → Q r s') : wpAny (model X.prog X.w) A (call (.builtin "dict.setdefault") [.ref a, u, r]) Q E s := by
  obtain ⟨hz, hs, kk, ek, ways⟩ := dk_ways I hK hw (.inl hd) dp ok ry rk
  have hlx : xs.length < sizeLine := by rw [Paired.length dp]; exact hl
  have hlp := xput_len xs kk y v
  cases ways with
  | t e1 e2 hk pr dd =>
    subst e1 e2
    refine call_meetsIn PySem.F.slot_dict_setdefault dd.typeIs PySem.F.entry_dict_setdefault (PySem.F.args_dict_setdefault_3 _ _ _) (sdH_meets (knd := nestedKind X.prog X.w) (k := kk) hs r) ⟨room8 hu, _, hk, dd, by rw [← Paired.length pr]; exact hz, fun p tk hp => ?_, fun hn h' tk dd' hsb => ?_⟩
    · rcases dp_find dp ek with ⟨q1, q2⟩ | ⟨x, v', q1, q2, q3⟩ <;> rcases t_find pr kk with ⟨z1, z2⟩ | ⟨x', p', z1, z2, z3⟩ <;> rw [q1] at z1
      · rw [hp] at z2; cases z2
      · cases z1
      · cases z1
      · cases z1
        rw [hp] at z2; cases z2
        exact h1 _ _ _ _ (I.tok _) q2 z3 q3
    · refine h2 kk _ ek ?_ (dx_write I hw hd hsb (dx_ofT (P := X.prog) (xput_T pr kk _ rv) (by omega) hs dd'))
      rcases dp_find dp ek with ⟨q1, q2⟩ | ⟨x, v', q1, q2, q3⟩ <;> rcases t_find pr kk with ⟨z1, z2⟩ | ⟨x', p', z1, z2, z3⟩ <;> rw [q1] at z1
      · exact q2
      · cases z1
      · cases z1
      · rw [hn] at z2; cases z2
  | k e1 e2 hk pr dd =>
    subst e1 e2
    refine call_meetsIn PySem.F.slot_dict_setdefault dd.typeIs PySem.F.entry_dict_setdefault (PySem.F.args_dict_setdefault_3 _ _ _) (kt_meets_setdefault (mixKind X.prog X.w) a hk hs r) ⟨_, dd, by rw [← Paired.length pr]; exact hz, fun w' hp => ?_, fun hn h' dd' hsb => ?_⟩
    · rcases dp_find dp ek with ⟨q1, q2⟩ | ⟨x, v', q1, q2, q3⟩ <;> rcases k_find pr _ with ⟨z1, z2⟩ | ⟨x', p', z1, z2, z3⟩ <;> rw [q1] at z1
      · rw [hp] at z2; cases z2
      · cases z1
      · cases z1
      · cases z1
        rw [hp] at z2; cases z2
        exact h1 _ _ _ _ (I.tok _) q2 z3 q3
    · refine h2 _ _ ek ?_ (dx_write I hw hd hsb (dx_ofK (P := X.prog) (xput_K pr _ rv) (by omega) hs dd'))
      rcases dp_find dp ek with ⟨q1, q2⟩ | ⟨x, v', q1, q2, q3⟩ <;> rcases k_find pr _ with ⟨z1, z2⟩ | ⟨x', p', z1, z2, z3⟩ <;> rw [q1] at z1
      · exact q2
      · cases z1
      · cases z1
      · rw [hn] at z2; cases z2
/-- a store into the dict of a display -/
theorem z_dset {Q : Unit → Shared → Prop} {v : V} {r : Value} (hu : A.units + 8 < cLine) (I : Inv X pins σ H s) (hK : X.K = G.K) (hw : X.w = G.w) (hd : H a = some (DX G.w a xs)) (dp : DP G B H Rv xs kvs) (ok : kOk kvs kd = true) (hl : kvs.length < sizeLine) (ry : RelV y u) (rk : Rp G B H y kd) (rv : RelV v r)
    (h : ∀ kk s', keyN kd = some kk → Inv X pins σ (upd H a (DX G.w a (xput xs kk y v))) s' → Q () s') : wpAny (model X.prog X.w) A (dictSet a u r) Q E s := by
  obtain ⟨hz, hs, kk, ek, ways⟩ := dk_ways I hK hw (.inl hd) dp ok ry rk
  have hlx : xs.length < sizeLine := by rw [Paired.length dp]; exact hl
  have hlp := xput_len xs kk y v
  cases ways with
  | t e1 e2 hk pr dd =>
    subst e1 e2
    refine wpAny_dictSet_heap (hsz := by rw [← Paired.length pr]; exact hz) (show (nestedKind X.prog X.w).room A from hu) hk dd fun h' dd' hsb => h kk _ ek ?_
    exact dx_write I hw hd hsb (dx_ofT (P := X.prog) (xput_T pr kk _ rv) (by omega) hs dd')
  | k e1 e2 hk pr dd =>
    subst e1 e2
    refine wpAny_dictSet_pairs (hsz := by rw [← Paired.length pr]; exact hz) hk dd fun h' dd' hsb => h _ _ ek ?_
    exact dx_write I hw hd hsb (dx_ofK (P := X.prog) (xput_K pr _ rv) (by omega) hs dd')
end

/-! ### a method of a dict called with two arguments -/
section
variable {X : Cx} {G : Gx} {W : WX} {L : Lib} {pos apos : Pos}
theorem dicOf_rep {A : Addr → Prop} {ρ : List Addr} {h : MH} {H : Hp} (S : Sim G A ρ h H) {v : Val} {x : V} {kvs : List (PyData × Val)} (r : RepV G A ρ H x v) (e : dicOf h v = some kvs) :
    ∃ a xs, x = .ref a ∧ Rd H a (DX G.w a xs) ∧ DP G (Av A ρ) H (RepV G A ρ H) xs kvs := by
  cases r with
  | @d _ d r =>
    cases d <;> first | (simp [dicOf, dicR] at e; done) | skip
    simp only [dicOf, Option.some.injEq] at e
    subst e
    cases r with
    | @dct a xs kvs q n t =>
      refine ⟨a, xs, rfl, q, ?_⟩
      have := RpD.dp t
      clear q n
      induction this with
      | nil => exact .nil
      | cons z u ih => exact .cons ⟨z.1, z.2.1, .d z.2.2⟩ (ih (DP.rpd u))
  | scr _ => simp [dicOf, dicR] at e
  | exc _ _ => simp [dicOf, dicR] at e
  | dic _ _ _ _ => simp [dicOf, dicR] at e
  | @ref n a r =>
    simp only [dicOf, dicR] at e
    split at e
    · rename_i lk kvs' hc
      cases e
      cases S.cell _ _ _ hc r with
      | dict q rv => exact ⟨a, _, rfl, q.rd, rv⟩
    · cases e
theorem dx_obj {pins : List (Addr × Obj)} {σ : St} {H : Hp} {s : Shared} {a : Addr} {w : World} {xs : List DE} (I : Inv X pins σ H s) (hd : Rd H a (DX w a xs)) : s.TypeIs (.ref a) "dict" ∧ ∀ b, Value.ref a = .ref b → ∃ ob, s.heap.get? b = some ob ∧ ob.dict = none := by
  obtain ⟨⟨_, _, _, ys, _, o, es, ep, ho, hx, _⟩, _⟩ := hd.ok I.hok
  refine ⟨⟨o, ho, hx.1⟩, fun b e => ?_⟩
  cases e
  exact ⟨o, ho, hx.2.1⟩
theorem m2_of {eo ea eb : Expr} {m : Str} (hb : baseB eo = true) (hpa : plainE ea = true) (hpb : plainE eb = true) (hl : (apos.endLine == pos.line) = true) : M2 X eo m apos ea eb pos where
  base := base_ok hb _ _ _
  few := by rw [plain_star hpa, plain_star hpb]; rfl
  line := hl
  trees := by rw [plain_star hpa, plain_star hpb]; rfl
theorem pe_dm2 {m : Str} {id : String} (slot : Slot "dict" m id) (hty : typeOf (.builtin id) = pure (.type "method_descriptor")) {eo ea eb : Expr} {to ta tb : TE} (ho : PE X eo to) (ha : PE X ea ta) (hb : PE X eb tb) (m2 : M2 X eo m apos ea eb pos) {r : V → V → V → Hp → VK → Prop}
    (hr : ∀ (pins : List (Addr × Obj)) (s : Shared) (σ : St) (H : Hp) (x y z : V) (u v w : Value) (Q : VK), Inv X pins σ H s → RelV x u → RelV y v → RelV z w → r x y z H Q → wpAny (model X.prog X.w) X.A (call (.builtin id) [u, v, w]) (EP X pins σ Q) X.xe s) :
    PE X (.Call (.Attribute eo m apos) [ea, eb] [] pos) (fun σ H Q => to σ H fun x H1 => (∃ a w xs, x = .ref a ∧ Rd H1 a (DX w a xs)) ∧ ta σ H1 fun y H2 => tb σ H2 fun z H3 => r x y z H3 Q) := ⟨fun pins s σ H Q I h => by
  refine wpAny_Call_method m2.base m2.few m2.line PySem.F.plainAttrs_dict slot hty (thn (ho.run pins s σ H _ I h) fun u s1 ⟨x, H1, I1, rx, ⟨a, w, xs, ex, rd⟩, q1⟩ => ?_)
  subst ex; cases rx
  obtain ⟨t1, t2⟩ := dx_obj I1 rd
  refine ⟨t1, t2, ?_⟩
  rw [m2.trees]; refine Calls.callWith_builtin rfl (Calls.evalArgs_plain (Calls.spliced_cons (thn (ha.run pins s1 σ H1 _ I1 q1) fun v s2 ⟨y, H2, I2, ry, q2⟩ => Calls.spliced_cons (thn (hb.run pins s2 σ H2 _ I2 q2) fun w' s3 ⟨z, H3, I3, rz, q3⟩ => Calls.spliced_nil ?_))))
  exact hr pins s3 σ H3 (.ref a) y z (.ref a) v w' Q I3 (show RelV (.ref a) (.ref a) from rfl) ry rz q3⟩
/-- what a dict's method of two is asked, from its meaning -/
theorem m2_reads {σ : St} {H : Hp} {Q : VK} {A : Addr → Prop} {ρ : List Addr} {en : Z.Env} {h : MH} {o a b : Ce} {k : MH → Val → Bool} {f : Val → List Val → MH → Res Val} (S : Sim G A ρ h H) (E : EnvR G A ρ H σ en)
    (P : Post G A W σ (RepV G A) ρ H ((den L o en h).bind fun x h => if k h x then (dens L (.cons a (.cons b .nil)) en h).bind fun vs h => f x vs h else .bad) Q)
    {r : V → V → V → Hp → VK → Prop} (hk : ∀ {ρ h H x v}, Sim G A ρ h H → RepV G A ρ H x v → k h v = true → ∃ a w xs, x = .ref a ∧ Rd H a (DX w a xs))
    (hr : ∀ {ρ h H x v y p z q}, Sim G A ρ h H → RepV G A ρ H x v → RepV G A ρ H y p → RepV G A ρ H z q → Post G A W σ (RepV G A) ρ H (f v [p, q] h) Q → r x y z H Q) :
    tE G W (den L o) σ H fun x H1 => (∃ a w xs, x = .ref a ∧ Rd H1 a (DX w a xs)) ∧ tE G W (den L a) σ H1 fun y H2 => tE G W (den L b) σ H2 fun z H3 => r x y z H3 Q := by
  refine ⟨A, ρ, en, h, S, E, P.bind.mono fun x H1 ⟨v, h1, ρ1, E1, S1, R1, P1⟩ => ?_⟩
  split at P1
  · rename_i hkk
    refine ⟨hk S1 R1 hkk, A, ρ1, en, h1, S1, E.ext E1, ?_⟩
    simp only [dens] at P1
    cases ha : den L a en h1 with
    | bad => rw [ha] at P1; exact P1.elim
    | exc c h2 => rw [ha] at P1; exact P1
    | ok p h2 =>
      rw [ha] at P1; simp only [Res.bind_ok] at P1
      intro ρ2 H2 y X2 S2 R2
      refine ⟨A, ρ2, en, h2, S2, (E.ext E1).ext X2, ?_⟩
      cases hb : den L b en h2 with
      | bad => rw [hb] at P1; exact P1.elim
      | exc c h3 => rw [hb] at P1; exact Post.ext (r := .exc c h3) P1 X2
      | ok q h3 =>
        rw [hb] at P1; simp only [Res.bind_ok] at P1
        intro ρ3 H3 z X3 S3 R3
        exact hr S3 ((R1.ext X2).ext X3) (R2.ext X3) R3 (Post.ext (Post.ext P1 X2) X3)
  · exact P1.elim
def rGet2 (G : Gx) (W : WX) : V → V → V → Hp → VK → Prop := fun x y z H Q => ∃ A ρ h σ v p q w, Sim G A ρ h H ∧ RepV G A ρ H x v ∧ RepV G A ρ H y p ∧ RepV G A ρ H z q ∧ mthV h .get2 v [p, q] = some w ∧ Post G A W σ (RepV G A) ρ H (.ok w h) Q
theorem se_get2 (ok : Okx X G W) {o a b : Ce} {eo ea eb : Expr} (hb : baseB eo = true) (hpa : plainE ea = true) (hpb : plainE eb = true) (hl : (apos.endLine == pos.line) = true) (ho : SE X G W L o eo) (ha : SE X G W L a ea) (hb2 : SE X G W L b eb) :
    SE X G W L (.mth .get2 o (.cons a (.cons b .nil))) (.Call (.Attribute eo "get" apos) [ea, eb] [] pos) :=
  (pe_dm2 (r := rGet2 G W) PySem.F.slot_dict_get PySem.F.type_dict_get ho ha hb2 (m2_of hb hpa hpb hl) (fun pins s σ H x y z u v w Q I rx ry rz ⟨A, ρ, h, σ', v', p, q, z', S, Rx, Ry, Rz, e, P⟩ => by
    simp only [mthV] at e
    cases Ry with
    | ref _ => simp at e
    | scr _ => simp at e
    | exc _ _ => simp at e
    | dic _ _ _ _ => simp at e
    | @d _ kd Ry =>
      dsimp only at e
      rw [Option.bind_eq_some_iff] at e
      obtain ⟨kvs, e1, e2⟩ := e
      split at e2
      · rename_i hok
        cases e2
        obtain ⟨a, xs, ex, rd, dp⟩ := dicOf_rep S Rx e1
        subst ex; cases rx
        exact z_getD (Nat.lt_of_le_of_lt (Nat.add_le_add_left (by decide) _) ok.hu) I ok.hK ok.hw rd dp hok ry Ry rz Rz fun w' s' x' I' rw' rv => ⟨x', H, I', rw', P.here S rv⟩
      · cases e2)).imp fun σ H Q ⟨A, ρ, en, h, S, E, P⟩ => by
    simp only [den] at P
    refine m2_reads (f := fun x vs h => lift h (mthV h .get2 x vs)) S E P (fun S R k => ?_) fun S Rx Ry Rz P => ?_
    · obtain ⟨kvs, e⟩ := Option.isSome_iff_exists.mp (show (dicOf _ _).isSome = true from k)
      obtain ⟨a, xs, ex, rd, _⟩ := dicOf_rep S R e
      exact ⟨a, _, xs, ex, rd⟩
    · obtain ⟨w, e, P2⟩ := P.lift
      exact ⟨A, _, _, σ, _, _, _, w, S, Rx, Ry, Rz, e, P2⟩
def rSetd (G : Gx) (W : WX) : V → V → V → Hp → VK → Prop := fun x y z H Q => ∃ A ρ h σ v p q w h2, Sim G A ρ h H ∧ RepV G A ρ H x v ∧ RepV G A ρ H y p ∧ RepV G A ρ H z q ∧ mstV h .setdef v [p, q] = some (w, h2) ∧ Post G A W σ (RepV G A) ρ H (.ok w h2) Q
theorem se_setdef (ok : Okx X G W) {o a b : Ce} {eo ea eb : Expr} (hb : baseB eo = true) (hpa : plainE ea = true) (hpb : plainE eb = true) (hl : (apos.endLine == pos.line) = true) (ho : SE X G W L o eo) (ha : SE X G W L a ea) (hb2 : SE X G W L b eb) :
    SE X G W L (.mst .setdef o (.cons a (.cons b .nil))) (.Call (.Attribute eo "setdefault" apos) [ea, eb] [] pos) :=
  (pe_dm2 (r := rSetd G W) PySem.F.slot_dict_setdefault PySem.F.type_dict_setdefault ho ha hb2 (m2_of hb hpa hpb hl) (fun pins s σ H x y z u v w Q I rx ry rz ⟨A, ρ, h, σ', v', p, q, z', h2, S, Rx, Ry, Rz, e, P⟩ => by
    cases Rx with
    | d _ => simp [mstV] at e
    | scr _ => simp [mstV] at e
    | exc _ _ => simp [mstV] at e
    | dic _ _ _ _ => simp [mstV] at e
    | @ref n t r =>
      have m := List.mem_of_getElem? r
      cases Ry with
      | ref _ => simp [mstV] at e
      | scr _ => simp [mstV] at e
      | exc _ _ => simp [mstV] at e
      | dic _ _ _ _ => simp [mstV] at e
      | @d _ kd Ry =>
        simp only [mstV] at e
        split at e
        · rename_i kvs hc
          split at e
          · rename_i hz
            simp only [Bool.and_eq_true, decide_eq_true_eq] at hz
            cases S.cell _ _ _ hc r with
            | @dict _ xs _ q3 rv2 =>
              replace q3 : H t = some (DX G.w t xs) := q3
              cases rx
              have nf : ∀ ob u, H t ≠ some (.frz ob u) := fun ob u z => by rw [q3] at z; cases z
              refine z_setd (Nat.lt_of_le_of_lt (Nat.add_le_add_left (by decide) _) ok.hu) I ok.hK ok.hw q3 rv2 hz.1 hz.2 ry Ry rz (fun s' x' w' b I' eg rw' rv => ?_) fun kk s' ek eg I' => ?_
              · rw [eg] at e; cases e
                exact ⟨x', H, I', rw', P.here S rv⟩
              · rw [eg] at e; cases e
                have k := Kp.put (H := H) (o := DX G.w t (xput xs kk y z)) (A := A) m nf
                exact ⟨z, _, I', rz, P ρ _ z (Ext.put m nf) (S.putC r nf (.dict (lk := false) upd_same (dp_put rv2 ek (fun z => z.keep k) (fun z => z.re k fun _ _ z => z) (Ry.keep k) (Rz.re k fun _ _ z => z)))) (Rz.re k fun _ _ z => z)⟩
          · cases e
        · cases e)).imp fun σ H Q ⟨A, ρ, en, h, S, E, P⟩ => by
    simp only [den] at P
    refine m2_reads (k := fun h x => mstAt h .setdef x) (f := fun x vs h => match mstV h .setdef x vs with
      | some (r, h1) => .ok r h1
      | none => .bad) S E P (fun S R k => ?_) fun S Rx Ry Rz P => ?_
    · cases R with
      | d _ => simp [mstAt, dicAt] at k
      | scr _ => simp [mstAt, dicAt] at k
      | exc _ _ => simp [mstAt, dicAt] at k
      | dic _ _ _ _ => simp [mstAt, dicAt] at k
      | ref r =>
        simp only [mstAt, dicAt] at k
        split at k
        · rename_i lk kvs hc
          cases S.cell _ _ _ hc r with
          | dict q rv => exact ⟨_, _, _, rfl, q.rd⟩
        · cases k
    · split at P
      · rename_i w h2 hm
        exact ⟨A, _, _, σ, _, _, _, w, h2, S, Rx, Ry, Rz, hm, P⟩
      · exact P.elim

/-! ### l.index(x), l.count(x) -/
def rCountD (K : PySem.W.Frag) : V → List V → Hp → VK → Prop := fun x xs H Q => ∃ (a : Addr) (y : V) (d : PyData) (ds : List PyData), x = V.ref a ∧ xs = [y] ∧ Dp K H (V.ref a) (.list ds) ∧ Dp K H y d ∧ sh (.list ds) = true ∧ sh d = true ∧ Q (.int ((ds.countP fun z => PyData.eqv z d : Nat) : Int)) H
theorem mt_countD (hu : X.A.units + 65 < cLine) : MtR X "list.count" (rCountD X.K) := by
  intro pins s σ H x xs v us Q I rx rxs ⟨a, y, d, ds, ex, exs, hl, hy, sl, sd, q⟩
  subst ex exs; cases rx
  obtain ⟨u, eu, ru⟩ := rxs.one
  subst eu
  obtain ⟨bs, r1⟩ := Dp.reads I d y u hy ru
  have hxs : PyData.canLayAll0 ds = true := SeqAt.canLay_of_shaped sl
  have hroom : X.A.units + 1 + min (PyData.depthAll ds) d.depth < cLine := room_in_shaped sd hu
  cases hl with
  | lst hs ha =>
    obtain ⟨its, rv, ⟨⟨cls, dd, data, sls⟩, n, ho, hc, hdn, hdt⟩, hlen⟩ := I.list hs
    simp only at hc hdt
    subst hc hdt
    obtain ⟨as, h4⟩ := Dp.readsAll I ds _ its ha rv
    have hmap : its.map (SeqAt.readOf s.heap) = ds := SeqAt.readsAll_map ds its as hxs h4
    refine call_meets PySem.F.slot_list_count ⟨_, ho, rfl⟩ PySem.F.entry_list_count (PySem.F.args_list_count_2 _ _) (SeqAt.list_countAt a its.toArray n dd sls u fun z => PyData.eqv (SeqAt.readOf s.heap z) d)
      ⟨ho, SeqAt.items_eqAt (vs := its.toArray) (show ReadsAll s.heap its.toArray.toList ds as from h4) r1 hxs (SeqAt.canLay_of_shaped sd) hroom, ⟨.int ((ds.countP fun z => PyData.eqv z d : Nat) : Int), H, I.tok _, ⟨s.toks, ?_⟩, q⟩⟩
    have e : its.toArray.toList.countP (fun z => PyData.eqv (SeqAt.readOf s.heap z) d) = ds.countP fun z => PyData.eqv z d := by
      rw [← hmap, List.countP_map]; rfl
    rw [e]
theorem idxD_spec {x : PyData} : ∀ {ds : List PyData} {i : Nat}, idxD x ds = some i → ∃ z, ds[i]? = some z ∧ PyData.eqv z x = true ∧ ∀ (m : Nat) (z' : PyData), m < i → ds[m]? = some z' → PyData.eqv z' x = false
  | [], i, e => by simp [idxD] at e
  | y :: ys, i, e => by
    simp only [idxD] at e
    split at e
    · rename_i h; cases e
      exact ⟨y, rfl, h, fun m z' hm => absurd hm (Nat.not_lt_zero _)⟩
    · rename_i h
      rw [Option.map_eq_some_iff] at e
      obtain ⟨j, e1, e2⟩ := e
      subst e2
      obtain ⟨z, h1, h2, h3⟩ := idxD_spec e1
      refine ⟨z, by simpa using h1, h2, fun m z' hm hz => ?_⟩
      cases m with
      | zero => simp at hz; subst hz; simpa using h
      | succ m => exact h3 m z' (by omega) (by simpa using hz)
/-- what a list's method of one is asked, from its meaning -/
theorem m1_reads {σ : St} {H : Hp} {Q : VK} {A : Addr → Prop} {ρ : List Addr} {en : Z.Env} {h : MH} {o a : Ce} {f : Val → List Val → MH → Res Val} {r : V → List V → Hp → VK → Prop} {k : MH → Val → Bool} (hK : X.K = G.K) (S : Sim G A ρ h H) (E : EnvR G A ρ H σ en)
    (P : Post G A W σ (RepV G A) ρ H ((den L o en h).bind fun x h => if k h x then (dens L (.cons a .nil) en h).bind fun vs h => f x vs h else .bad) Q)
    (hk : ∀ {h v}, k h v = true → ∃ ds, asD h v = some (.list ds))
    (hr : ∀ {ρ h H x v y p}, Sim G A ρ h H → RepV G A ρ H x v → RepV G A ρ H y p → Post G A W σ (RepV G A) ρ H (f v [p] h) Q → r x [y] H Q) :
    tBM X.K "list" r (tE G W (den L o)) (tCons (tE G W (den L a)) tNil) σ H Q := by
  refine ⟨A, ρ, en, h, S, E, P.bind.mono fun x H1 ⟨v, h1, ρ1, E1, S1, R1, P1⟩ => ?_⟩
  split at P1
  · rename_i hkk
    obtain ⟨ds, ed⟩ := hk hkk
    obtain ⟨p, xs, ex, sq, _⟩ := (asD_rep S1 R1 ed).sql
    subst ex
    refine ⟨.inl ⟨rfl, xs, hK ▸ sq⟩, A, ρ1, en, h1, S1, E.ext E1, ?_⟩
    simp only [dens] at P1
    cases ha : den L a en h1 with
    | bad => rw [ha] at P1; exact P1.elim
    | exc c h2 => rw [ha] at P1; exact P1
    | ok q h2 =>
      rw [ha] at P1; simp only [Res.bind_ok] at P1
      intro ρ2 H2 y X2 S2 R2
      exact hr S2 (R1.ext X2) R2 (Post.ext P1 X2)
  · exact P1.elim
theorem se_index (ok : Okx X G W) {o a : Ce} {eo ea : Expr} (hb : baseB eo = true) (hpa : plainE ea = true) (hl : (apos.endLine == pos.line) = true) (ho : SE X G W L o eo) (ha : SE X G W L a ea) :
    SE X G W L (.mth .index o (.cons a .nil)) (.Call (.Attribute eo "index" apos) [ea] [] pos) :=
  (pe_bm PySem.F.plainAttrs_list PySem.F.slot_list_index PySem.F.type_list_index (mt_indexD ok.hu) ho (pa_cons ha pa_nil (plain_star hpa [] X.env)) (base_ok hb _ _ _) (by rw [plain_star hpa]; rfl) hl (plain_star hpa [] X.env) rfl).imp
  fun σ H Q ⟨A, ρ, en, h, S, E, P⟩ => by
    simp only [den] at P
    refine m1_reads (k := fun h x => mthAt h .index x) (f := fun x vs h => lift h (mthV h .index x vs)) ok.hK S E P (fun {h v} k => ?_) fun {ρ h H x v y p} S Rx Ry P => ?_
    · simp only [mthAt] at k
      split at k
      · rename_i ds e; exact ⟨ds, e⟩
      · cases k
    · obtain ⟨w, e, P2⟩ := P.lift
      simp only [mthV] at e
      rw [Option.bind_eq_some_iff] at e
      obtain ⟨l, e1, e⟩ := e
      rw [Option.bind_eq_some_iff] at e
      obtain ⟨d, e2, e⟩ := e
      split at e
      · rename_i ds
        split at e
        · rename_i hs
          simp only [Bool.and_eq_true] at hs
          rw [Option.map_eq_some_iff] at e
          obtain ⟨i, e3, e4⟩ := e
          subst e4
          obtain ⟨z, q1, q2, q3⟩ := idxD_spec e3
          have r1 := asD_rep S Rx e1
          have r2 := asD_rep S Ry e2
          obtain ⟨t, xs, ex, _, _⟩ := r1.sql
          subst ex
          exact ⟨t, y, d, ds, i, z, rfl, rfl, ok.hK ▸ r1.dp hs.1, ok.hK ▸ r2.dp hs.2, hs.1, hs.2, q1, q2, q3, P2.here S (.d (.int _))⟩
        · cases e
      · cases e
theorem se_count (ok : Okx X G W) {o a : Ce} {eo ea : Expr} (hb : baseB eo = true) (hpa : plainE ea = true) (hl : (apos.endLine == pos.line) = true) (ho : SE X G W L o eo) (ha : SE X G W L a ea) :
    SE X G W L (.mth .count o (.cons a .nil)) (.Call (.Attribute eo "count" apos) [ea] [] pos) :=
  (pe_bm PySem.F.plainAttrs_list PySem.F.slot_list_count PySem.F.type_list_count (mt_countD ok.hu) ho (pa_cons ha pa_nil (plain_star hpa [] X.env)) (base_ok hb _ _ _) (by rw [plain_star hpa]; rfl) hl (plain_star hpa [] X.env) rfl).imp
  fun σ H Q ⟨A, ρ, en, h, S, E, P⟩ => by
    simp only [den] at P
    refine m1_reads (k := fun h x => mthAt h .count x) (f := fun x vs h => lift h (mthV h .count x vs)) ok.hK S E P (fun {h v} k => ?_) fun {ρ h H x v y p} S Rx Ry P => ?_
    · simp only [mthAt] at k
      split at k
      · rename_i ds e; exact ⟨ds, e⟩
      · cases k
    · obtain ⟨w, e, P2⟩ := P.lift
      simp only [mthV] at e
      rw [Option.bind_eq_some_iff] at e
      obtain ⟨l, e1, e⟩ := e
      rw [Option.bind_eq_some_iff] at e
      obtain ⟨d, e2, e⟩ := e
      split at e
      · rename_i ds
        split at e
        · rename_i hs
          simp only [Bool.and_eq_true] at hs
          cases e
          have r1 := asD_rep S Rx e1
          have r2 := asD_rep S Ry e2
          obtain ⟨t, xs, ex, _, _⟩ := r1.sql
          subst ex
          exact ⟨t, y, d, ds, rfl, rfl, ok.hK ▸ r1.dp hs.1, ok.hK ▸ r2.dp hs.2, hs.1, hs.2, P2.here S (.d (.int _))⟩
        · cases e
      · cases e
/-! ### dict displays -/
theorem dx_empty {P : Program} {w : World} {H : Hp} (h : Heap) (hb : sysModules < h.objs.size) : ObjOk P w H (h.push { cls := .type "dict", data := .dict #[] }) h.objs.size (DX w h.objs.size []) := by
  have e : (h.push { cls := .type "dict", data := .dict #[] }).get? h.objs.size = some { cls := .type "dict", data := .dict #[] } := Heap.get?_push_size _ rfl
  exact ⟨⟨Nat.zero_le _, beq_eq_false_iff_ne.mpr (Ne.symm (Nat.ne_of_lt hb)), List.nodup_nil, [], .nil, _, #[], 0, e, ⟨rfl, rfl, rfl⟩, rfl, rfl⟩, ⟨_, e⟩, fun h1 h2 ⟨a1, a2, a3, ys, a4, o, es, ep, a5, a6⟩ k => ⟨a1, a2, a3, ys, a4, o, es, ep, k o a5, a6⟩⟩
theorem pe_dict0 : PE X (.Dict [] [] pos) (fun _ H Q => ∀ p, H p = none → Q (.ref p) (upd H p (DX X.w p []))) := ⟨fun pins s σ H Q I h =>
  wpAny_Dict_empty ⟨.ref s.heap.objs.size, _, I.laid (a := s.heap.objs.size) (o := DX X.w s.heap.objs.size []) (t' := s.toks) (fun _ _ q => Heap.get?_push_of_some _ q) (Nat.le_refl _) (dx_empty s.heap I.big), rfl, h _ (I.hok.fresh (Nat.le_refl _))⟩⟩
theorem Sim.adoptD {A : Addr → Prop} {ρ : List Addr} {h : MH} {H : Hp} {D : Addr} {c : Cell} (S : Sim G (fun b => A b ∨ b = D) ρ h H) (r : CellR G (fun b => A b ∨ b = D) ρ H D c) (nA : ¬ A D) : Sim G A (ρ ++ [D]) (h ++ [c]) H := by
  have k : Kp (Av (fun b => A b ∨ b = D) ρ) (Av A (ρ ++ [D])) H H := Kp.of (f := fun _ _ _ e => e) fun a o e n => ⟨e, fun z => by
    rcases z with z | z
    · exact n (.inl (.inl z))
    · rcases List.mem_append.mp z with z | z
      · exact n (.inr z)
      · exact n (.inl (.inr (List.mem_singleton.mp z)))⟩
  have pre : ∀ (n : Nat) a, ρ[n]? = some a → (ρ ++ [D])[n]? = some a := fun n a q => by rw [List.getElem?_append_left (List.getElem?_eq_some_iff.mp q).1]; exact q
  have Dρ := (S.far D (.inr rfl)).2
  refine ⟨by simp [S.len], ?_, fun b z => ⟨(S.far b (.inl z)).1, fun m => ?_⟩, fun n c b hc hb => ?_⟩
  · rw [List.nodup_append]
    exact ⟨S.nd, by simp, fun b hb c hc => by rw [List.mem_singleton.mp hc]; exact fun e => Dρ (e ▸ hb)⟩
  · rcases List.mem_append.mp m with m | m
    · exact (S.far b (.inl z)).2 m
    · rw [List.mem_singleton.mp m] at z; exact nA z
  · rcases getElem?_snoc hc with hc | ⟨e1, e2⟩
    · have hlt : n < ρ.length := by rw [S.len]; exact (List.getElem?_eq_some_iff.mp hc).1
      rw [List.getElem?_append_left hlt] at hb
      exact (S.cell n c b hc hb).mv (fun o q => q) (fun r => r.keep k) fun r => r.re k pre
    · subst e1 e2
      rw [← S.len, List.getElem?_append_right (Nat.le_refl _)] at hb
      simp at hb
      subst hb
      exact r.mv (fun o q => q) (fun r => r.keep k) fun r => r.re k pre
theorem se_dict0 (ok : Okx X G W) : SE X G W L (.dictR .nil .nil) (.Dict [] [] pos) := (pe_dict0 (X := X) (pos := pos)).imp fun σ H Q ⟨A, ρ, en, h, S, E, P⟩ => by
  simp only [den, dens, Res.bind_ok] at P
  intro p hp
  rw [ok.hw]
  exact P _ _ _ (Ext.push hp) (S.pushC hp (.dict (lk := false) (xs := []) upd_same .nil)) (.ref (by rw [← S.len, List.getElem?_append_right (Nat.le_refl _)]; simp))
theorem Kp.strange {A : Addr → Prop} {ρ : List Addr} {H : Hp} {D : Addr} {o : HO} (hD : H D = none) : Kp (Av A ρ) (Av (fun b => A b ∨ b = D) ρ) H (upd H D o) := Kp.of (f := Kp.up (nf_none hD)) fun b o e n =>
  ⟨by rw [upd_ne (fun z => by rw [z, hD] at e; cases e)]; exact e, fun z => by
    rcases z with (z | z) | z
    · exact n (.inl z)
    · rw [z, hD] at e; cases e
    · exact n (.inr z)⟩
theorem Sim.strange {A : Addr → Prop} {ρ : List Addr} {h : MH} {H : Hp} {D : Addr} {o : HO} (S : Sim G A ρ h H) (hD : H D = none) : Sim G (fun b => A b ∨ b = D) ρ h (upd H D o) := S.re (Kp.strange hD) (fun b o m e => by rw [upd_ne (fun z => by rw [z, hD] at e; cases e)]; exact e) fun b z => by
  rcases z with z | z
  · exact ⟨by rw [upd_ne (fun q => (S.far b z).1 (by rw [q]; exact hD))]; exact (S.far b z).1, (S.far b z).2⟩
  · rw [z]; exact ⟨by rw [upd_same]; simp, fun m => S.tracked m hD⟩
theorem EnvR.strange {A : Addr → Prop} {ρ : List Addr} {H : Hp} {σ : St} {e : Z.Env} {D : Addr} {o : HO} (E : EnvR G A ρ H σ e) (hD : H D = none) : EnvR G (fun b => A b ∨ b = D) ρ (upd H D o) σ e := E.re (Kp.strange hD)
/-- {k: v} -/
theorem pe_dict1 (ok : Okx X G W) {ek ev : Expr} {tk tv : TE} (hk : PE X ek tk) (hv : PE X ev tv) :
    PE X (.Dict [some ek] [ev] pos) (fun σ H Q => ∀ D, H D = none → tk σ (upd H D (DX G.w D [])) fun x H1 => tv σ H1 fun y H2 => H2 D = some (DX G.w D []) ∧ ∃ B kd, Rp G B H2 x kd ∧ (kindK kd).isSome = true ∧ ∀ kk, keyN kd = some kk → Q (.ref D) (upd H2 D (DX G.w D [(kk, x, y)]))) := ⟨fun pins s σ H Q I h => by
  rw [arm_eval_Dict, zip_pairTrees [some ek] [ev] X.env pos rfl rfl, dictDisplay_pairs _ (by simp [pairTrees]) (by rw [pairTrees_length _ _ _ _ rfl rfl]; exact Nat.lt_of_sub_eq_succ rfl)]
  refine wpAny_bind (wpAny_standAt (wpAny_bind ?_))
  unfold subDict
  refine wpAny_bind (wpAny_alloc ?_); refine wpAny_bind (wpAny_holding ?_)
  rw [if_pos (by rw [pairTrees_length _ _ _ _ rfl rfl]; exact Nat.le_of_ble_eq_true rfl)]
  have hn := I.hok.fresh (Nat.le_refl s.heap.objs.size)
  have I1 : Inv X pins σ (upd H s.heap.objs.size (DX G.w s.heap.objs.size [])) { s with heap := s.heap.push { cls := .type "dict", data := .dict #[] } } := ok.hw ▸ I.laid (t' := s.toks) (fun _ _ q => Heap.get?_push_of_some _ q) (Nat.le_refl _) (dx_empty s.heap I.big)
  refine wpAny_bind (thn (Q := fun vs s2 => ∃ u r x y H2, vs = [(u, r)] ∧ RelV x u ∧ RelV y r ∧ Inv X pins σ H2 s2 ∧ H2 s.heap.objs.size = some (DX G.w s.heap.objs.size []) ∧ ∃ B kd, Rp G B H2 x kd ∧ (kindK kd).isSome = true ∧ ∀ kk, keyN kd = some kk → Q (.ref s.heap.objs.size) (upd H2 s.heap.objs.size (DX G.w s.heap.objs.size [(kk, x, y)])))
    (pairTrees_cons_walk (thn (hk.run pins _ σ _ _ I1 (h _ hn)) fun u s1 ⟨x, H1, I2, rx, q1⟩ => thn (hv.run pins s1 σ H1 _ I2 q1) fun r s2 ⟨y, H2, I3, ry, q2⟩ => pairTrees_nil_walk ⟨u, r, x, y, H2, rfl, rx, ry, I3, q2⟩)) fun vs s2 ⟨u, r, x, y, H2, ev, rx, ry, I3, hD, B, kd, rk, hkk, q⟩ => ?_)
  subst ev
  have okk : kOk ([] : List (PyData × PyData)) kd = true := by
    obtain ⟨b, eb⟩ := Option.isSome_iff_exists.mp hkk
    simp [kOk, eb]
  refine wpAny_holding (wpAny_bind ?_)
  rw [List.forIn_cons]
  refine wpAny_bind (wpAny_bind (z_dset (Nat.lt_of_le_of_lt (Nat.add_le_add_left (by decide) _) ok.hu) I3 ok.hK ok.hw hD (DP_nil (Rv := fun _ _ => True)) okk (by rw [sizeLine_eq]; decide) rx rk ry fun kk s3 ek I4 => wpAny_pure ?_))
  exact wpAny_pure (wpAny_pure (wpAny_pure (wpAny_pure ⟨.ref _, _, I4, rfl, q kk ek⟩)))⟩
where
  DP_nil {G : Gx} {B : Addr → Prop} {H : Hp} {Rv : V → PyData → Prop} : DP G B H Rv [] [] := .nil
theorem se_dict1 (ok : Okx X G W) {a b : Ce} {ea eb : Expr} (ha : SE X G W L a ea) (hb : SE X G W L b eb) : SE X G W L (.dictR (.cons a .nil) (.cons b .nil)) (.Dict [some ea] [eb] pos) := (pe_dict1 ok ha hb).imp fun σ H Q ⟨A, ρ, en, h, S, E, P⟩ D hD => by
  simp only [den, dens] at P
  have nA : ¬ A D := fun z => (S.far D z).1 hD
  have X0 : Ext A ρ H ρ (upd H D (DX G.w D [])) := Ext.laid hD
  have less : ∀ {ρ' H' ρ2 H2}, Ext (fun b => A b ∨ b = D) ρ' H' ρ2 H2 → Ext A ρ' H' ρ2 H2 := fun e => e.less fun a z => .inl z
  refine ⟨fun b => A b ∨ b = D, ρ, en, h, S.strange hD, E.strange hD, ?_⟩
  cases hda : den L a en h with
  | bad => rw [hda] at P; exact P.elim
  | exc c h1 =>
    rw [hda] at P
    exact fun ρ' H' e s => P ρ' H' (X0.trans (less e)) s.less
  | ok v h1 =>
    rw [hda] at P; simp only [Res.bind_ok] at P
    intro ρ1 H1 x X1 S1 R1
    have D1 : D ∉ ρ := fun m => S.tracked m hD
    have e1 : H1 D = some (DX G.w D []) := X1.strg upd_same D1 (.inr rfl)
    refine ⟨fun b => A b ∨ b = D, ρ1, en, h1, S1, (E.strange hD).ext X1, ?_⟩
    cases hdb : den L b en h1 with
    | bad => rw [hdb] at P; exact P.elim
    | exc c h2 =>
      rw [hdb] at P
      exact fun ρ' H' e s => P ρ' H' (X0.trans (less (X1.trans e))) s.less
    | ok w h2 =>
      rw [hdb] at P; simp only [Res.bind_ok] at P
      intro ρ2 H2 y X2 S2 R2
      have D2 : D ∉ ρ1 := (S1.far D (.inr rfl)).2
      have D3 : D ∉ ρ2 := (S2.far D (.inr rfl)).2
      have e2 : H2 D = some (DX G.w D []) := X2.strg e1 D2 (.inr rfl)
      have R1' := R1.ext X2
      cases R1' with
      | ref _ => exact P.elim
      | scr _ => exact P.elim
      | exc _ _ => exact P.elim
      | dic _ _ _ _ => exact P.elim
      | @d _ kd Rk =>
        dsimp only at P
        split at P
        · rename_i hkk
          refine ⟨e2, _, kd, Rk, hkk, fun kk ek => ?_⟩
          have nf : ∀ ob u, H2 D ≠ some (.frz ob u) := fun ob u z => by rw [e2] at z; cases z
          have k : Kp (Av (fun b => A b ∨ b = D) ρ2) (Av (fun b => A b ∨ b = D) ρ2) H2 (upd H2 D (DX G.w D [(kk, x, y)])) := Kp.of (f := Kp.up nf) fun b o e n => ⟨by rw [upd_ne (fun q => n (.inl (.inr q)))]; exact e, n⟩
          have S3 : Sim G (fun b => A b ∨ b = D) ρ2 h2 (upd H2 D (DX G.w D [(kk, x, y)])) := S2.re k (fun b o m e => by rw [upd_ne (fun (q : b = D) => D3 (q ▸ m))]; exact e) fun b z => ⟨by
            by_cases q : b = D
            · rw [q, upd_same]; simp
            · rw [upd_ne q]; exact (S2.far b z).1, (S2.far b z).2⟩
          have X3 : Ext A ρ H ρ2 (upd H2 D (DX G.w D [(kk, x, y)])) := by
            have e := X0.trans (less (X1.trans X2))
            refine ⟨e.pre, e.new, fun b o hb nb => ?_, fun b hb => ?_, fun b ob u hb => ?_⟩
            · have ne : b ≠ D := fun q => by rw [q, hD] at hb; cases hb
              rcases e.keep b o hb nb with z | ⟨z1, z2, ob, z3⟩
              · exact .inl (by rw [upd_ne ne]; exact z)
              · exact .inr ⟨z1, z2, ob, by rw [upd_ne ne]; exact z3⟩
            · by_cases q : b = D
              · rw [q, upd_same]; simp
              · rw [upd_ne q]; exact e.live b hb
            · have ne : b ≠ D := fun q => by rw [q, hD] at hb; cases hb
              rw [upd_ne ne]; exact e.frzs b ob u hb
          have cell : CellR G (fun b => A b ∨ b = D) ρ2 (upd H2 D (DX G.w D [(kk, x, y)])) D (.dict false [(kd, w)]) := .dict (lk := false) upd_same (.cons ⟨ek, Rk.keep k, R2.re k fun _ _ z => z⟩ .nil)
          exact P _ _ _ (X3.adopt hD) (S3.adoptD cell nA) (.ref (by rw [← S2.len, List.getElem?_append_right (Nat.le_refl _)]; simp))
        · exact P.elim
end
end L2

set_option Elab.async false
set_option linter.all false
set_option autoImplicit false
set_option maxRecDepth 100000
set_option maxHeartbeats 4000000
/-! Z9g: sorted, a dict's values. -/
namespace L2
open PySem PySem.Spec PyProof.Rows Z
section
variable {X : Cx} {G : Gx} {W : WX} {L : Lib} {pos mpos apos p : Pos}
theorem cb_sorted (ok : Okx X G W) : CallR X (.builtin "sorted") (rBlt G .sorted) := cb_data (by simp) (by simp) fun pins s σ H xs us' Q A ρ h ds w I rx S pd e f => by
  have hu : X.A.units + 67 < cLine := Nat.lt_of_le_of_lt (Nat.add_le_add_left (by decide) _) ok.hu2
  cases pd with
  | nil => simp [bltD] at e
  | cons rd t =>
    cases t with
    | cons _ _ => simp [bltD] at e
    | nil =>
      obtain ⟨u, eu, rx'⟩ := vals1 rx
      subst eu
      rename_i d
      cases d <;> first | (simp [bltD] at e; done) | skip
      · simp only [bltD] at e
        split at e
        · rename_i hok
          cases e
          obtain ⟨q, ys, ex, hp, tp⟩ := rd.sql
          subst ex; cases rx'
          exact z_sorted ok.hK hu I tp hok (fun R k => col_list I (ok.hK ▸ hp) R k) fun p zs hp' r => f.lst S r p hp'
        · cases e
      · simp only [bltD] at e
        split at e
        · rename_i hok
          cases e
          obtain ⟨q, ys, ex, hp, tp⟩ := rd.dict
          subst ex; cases rx'
          exact z_sorted ok.hK hu I (dp_keys tp.dp) hok (fun R k => col_dict (A := X.A.in1) ok.calm (I.ok.hd ok.calm) I hp R k) fun p zs hp' r => f.lst S r p hp'
        · cases e
/-! ### o.values() -/
/-- the view at r of the dict at a -/
structure VwAt (h : Heap) (r a : Addr) (xs : List DE) (es : Array DictEntry) (ep : Nat) : Prop where
  vw : h.IsValuesView r a
  raw : h.DictRaw a es ep
  sz : es.size = xs.length
  en : ∀ (i : Nat) (en : DictEntry), es[i]? = some en → ∃ x, xs[i]? = some x ∧ RelV x.2.1 en.key ∧ RelV x.2.2 en.val
theorem on_vals (ok : Okx X G W) {fn : Str} {id : String} {eo : Expr} {td : TE} (hg : Gl X fn) (hm : X.mg fn = none) (hv : bootBuiltins fn = some (.builtin id)) (hn : fn ≠ "__name__") (hdb : (fn == ("__debug__" : Str)) = false) (hb : baseB eo = true) (hl : (apos.endLine == mpos.line) = true) (hd : PE X eo td) {R : Addr → List DE → Hp → VK → Prop}
    (hr : ∀ (pins : List (Addr × Obj)) (s : Shared) (σ : St) (H : Hp) (r a : Addr) (w : World) (xs : List DE) (es : Array DictEntry) (ep : Nat) (Q : VK), Inv X pins σ H s → Rd H a (DX w a xs) → xs.length ≤ sizeLine → VwAt s.heap r a xs es ep → R a xs H Q → wpAny (model X.prog X.w) X.A (call (.builtin id) [.ref r]) (EP X pins σ Q) X.xe s) :
    PE X (.Call (.Name fn p) [.Call (.Attribute eo "values" apos) [] [] mpos] [] pos) (fun σ H Q => td σ H fun x H1 => ∃ a w xs, x = .ref a ∧ Rd H1 a (DX w a xs) ∧ R a xs H1 Q) := ⟨fun pins s σ H Q I h => by
  have hse : starEach [Expr.Call (.Attribute eo "values" apos) [] [] mpos] X.env = [(false, eval (Expr.Call (.Attribute eo "values" apos) [] [] mpos) X.env)] := rfl
  refine wpAny_Call_Name_kw (ld_blt I hg hm hv ?_ hn hdb)
  rw [hse]
  refine PySem.callWith_builtin1 (wpAny_Call_method0_late (base_ok hb _ _ _) hl (thn (hd.run pins s σ H _ I h) fun v s1 ⟨x, H1, I1, r1, a, w, xs, ex, rd, q⟩ => ?_))
  subst ex; cases r1
  obtain ⟨hs, hz, es, ep, raw, sz, en⟩ := dx_raw I1 rd
  obtain ⟨ty, nd⟩ := dx_obj I1 rd
  refine ⟨"dict", "dict.values", F.plainAttrs_dict, F.slot_dict_values, F.type_dict_values, ty, nd, Calls.callWith_builtin rfl (PySem.evalArgs_none ?_)⟩
  refine call_meetsIn F.slot_dict_values ty F.entry_dict_values (F.args_dict_values_1 _) (meets_dict_values_raw a hs) ⟨⟨es, ep, raw⟩, ?_⟩
  have k1 : ∀ b u, s1.heap.get? b = some u → (s1.heap.push { cls := .type "dict_values", data := .fields #[.ref a] }).get? b = some u := fun b u e => Heap.get?_push_of_some _ e
  refine hr pins _ σ H1 _ a w xs es ep Q (I1.kept (t' := s1.toks) k1) rd hz ⟨⟨_, Heap.get?_push_size _ rfl, rfl, rfl⟩, ?_, sz, en⟩ q
  obtain ⟨o, h1, h2⟩ := raw
  exact ⟨o, k1 _ _ h1, h2⟩⟩
theorem dp_vals {β : Type} {B : Addr → Prop} {H : Hp} {xs : List DE} {kvs : List (PyData × PyData)} (r : RpD G B H xs kvs) : RpAll G B H (xs.map (·.2.2)) (kvs.map (·.2)) := by
  have := r.dp
  clear r
  induction this with
  | nil => exact .nil
  | cons z t ih => exact .cons z.2.2 ih
/-- the one argument, a dict -/
theorem vals_reads {σ : St} {H : Hp} {Q : VK} {o : Ce} {b : Bfn} {R : Addr → List DE → Hp → VK → Prop} (nl : b ≠ .len) (nl2 : b ≠ .list) (q : tE G W (den L (.blt b (.cons o .nil))) σ H Q)
    (hd : ∀ {d z}, bltD b [d] = some z → ∃ kvs, d = .dict kvs)
    (hr : ∀ {A ρ h H a xs kvs z}, Sim G A ρ h H → RpD G (Av A ρ) H xs kvs → bltD b [.dict kvs] = some z → Fin_ G A ρ h H (.d z) Q → R a xs H Q) :
    tE G W (den L o) σ H fun x H1 => ∃ a w xs, x = .ref a ∧ Rd H1 a (DX w a xs) ∧ R a xs H1 Q := by
  obtain ⟨A, ρ, en, h, S, E, P⟩ := q
  simp only [den, dens] at P
  refine ⟨A, ρ, en, h, S, E, ?_⟩
  cases ho : den L o en h with
  | bad => rw [ho] at P; exact P.elim
  | exc c h1 => rw [ho] at P; exact P
  | ok v h1 =>
    rw [ho] at P
    simp only [Res.bind_ok] at P
    intro ρ1 H1 x E1 S1 R1
    obtain ⟨z, e, P2⟩ := P.lift
    have e' : (asDs h1 [v]).bind (fun ds => (bltD b ds).map Val.d) = some z := by
      cases b <;> first | (exact absurd rfl nl; done) | (exact absurd rfl nl2; done) | (unfold bltV at e; simpa using e)
    obtain ⟨ds, w, pd, e1, e2⟩ := blt_one S1 (.cons R1 .nil) e'
    subst e2
    cases pd with
    | cons rd t =>
      cases t
      obtain ⟨kvs, ek⟩ := hd e1
      subst ek
      obtain ⟨a, xs, ex, rdd, tp⟩ := rd.dict
      exact ⟨a, _, xs, ex, rdd, hr S1 tp e1 (Post.ext P2 E1)⟩
def rSumV : Addr → List DE → Hp → VK → Prop := fun _ xs H Q => ∃ ns : List Int, xs.map (·.2.2) = ns.map V.int ∧ Q (.int ns.sum) H
def rSrtV (G : Gx) : Addr → List DE → Hp → VK → Prop := fun _ xs H Q => ∃ B ds, RpAll G B H (xs.map (·.2.2)) ds ∧ srtOk ds = true ∧ ∀ p zs, H p = none → RpAll G B H zs (srt ds) → Q (.ref p) (upd H p (.lst zs))
theorem se_sumvals (ok : Okx X G W) {o : Ce} {eo : Expr} (hg : Gl X "sum") (hm : X.mg "sum" = none) (hb : baseB eo = true) (hl : (apos.endLine == mpos.line) = true) (ho : SE X G W L o eo) :
    SE X G W L (.blt .sumvals (.cons o .nil)) (.Call (.Name "sum" p) [.Call (.Attribute eo "values" apos) [] [] mpos] [] pos) :=
  (on_vals (id := "sum") (R := rSumV) ok hg hm (by decide +kernel) (by decide) (by decide) hb hl ho fun pins s σ H r a w xs es ep Q I rd hz v ⟨ns, en, q⟩ => by
    have K := PySem.KdlSrc.rawValues (prog := X.prog) (w := X.w) (r := r) (d := a) (es := es) (ep := ep)
    obtain ⟨oI, St, hit, Wk, st⟩ := K.iter X.A.in1 s (I.ok.hd ok.calm) ⟨v.vw, v.raw⟩
    have there := K.there s.heap ⟨v.vw, v.raw⟩
    have hnl : ns.length = es.size := by
      have := congrArg List.length en
      rw [List.length_map, List.length_map] at this
      rw [v.sz]; exact this.symm
    refine call_sum_walkAnyS (hit _ _ ⟨s.heap.objs.size, _, _, _, es.size, _, _, fun i => ns.getD i 0, rfl, Wk.toS, st, fun b hb => ?_, fun i u ⟨hi, eu⟩ => ?_, fun s' t' hmv => ?_⟩)
    · show b < (s.heap.push oI).objs.size
      rw [Heap.size_push]
      rcases List.mem_cons.mp hb with e | hb
      · rw [e]; exact Nat.lt_succ_self _
      · rw [List.mem_singleton.mp hb]; exact Nat.lt_succ_of_lt there.2
    · obtain ⟨x, h1, _, h2⟩ := v.en i es[i] (by rw [Array.getElem?_eq_getElem hi])
      have e1 : (xs.map (·.2.2))[i]? = some x.2.2 := by rw [List.getElem?_map, h1]; rfl
      rw [en, List.getElem?_map, Option.map_eq_some_iff] at e1
      obtain ⟨j, hj, e2⟩ := e1
      rw [← e2] at h2
      obtain ⟨t, e3⟩ := h2
      refine ⟨t, ?_⟩
      rw [eu, e3]
      show Value.int j t = Value.int (ns.getD i 0) t
      rw [List.getD_eq_getElem?_getD, hj]; rfl
    · have hk : ∀ b o, s.heap.get? b = some o → s'.heap.get? b = some o := fun b o e => hmv.heap b o (fun hI => absurd (Heap.lt_size e) (by rw [List.mem_singleton.mp hI]; exact Nat.lt_irrefl _)) (Heap.get?_push_of_some _ e)
      rw [Moved.eq_with hmv, preSum_getD, List.take_of_length_le (by omega)]
      exact ⟨.int ns.sum, H, I.kept (t' := s'.toks) hk, ⟨_, rfl⟩, q⟩).imp fun σ H Q q => vals_reads (R := rSumV) (by simp) (by simp) q (fun {d z} e => by cases d <;> first | exact ⟨_, rfl⟩ | (simp [bltD] at e)) fun {A ρ h H a xs kvs z} S tp e f => by
    simp only [bltD, Option.map_eq_some_iff] at e
    obtain ⟨ns, e1, e2⟩ := e
    subst e2
    exact ⟨ns, (dp_vals (β := Unit) tp).ints e1, f.here S (.d (.int _))⟩
theorem se_sortedvals (ok : Okx X G W) {o : Ce} {eo : Expr} (hg : Gl X "sorted") (hm : X.mg "sorted" = none) (hb : baseB eo = true) (hl : (apos.endLine == mpos.line) = true) (ho : SE X G W L o eo) :
    SE X G W L (.blt .sortedvals (.cons o .nil)) (.Call (.Name "sorted" p) [.Call (.Attribute eo "values" apos) [] [] mpos] [] pos) :=
  (on_vals (id := "sorted") (R := rSrtV G) ok hg hm (by decide +kernel) (by decide) (by decide) hb hl ho fun pins s σ H r a w xs es ep Q I rd hz v ⟨B, ds, ra, hok, q⟩ => by
    have hu : X.A.units + 67 < cLine := Nat.lt_of_le_of_lt (Nat.add_le_add_left (by decide) _) ok.hu2
    refine z_sorted ok.hK hu I ra hok (fun R k => ?_) q
    exact PySem.W.kdu_collect (PySem.KdlSrc.rawValues (r := r) (d := a) (es := es) (ep := ep)) (show X.A.in1.handled = none from I.ok.hd ok.calm) ⟨v.vw, v.raw⟩ (by rw [v.sz]; exact hz) fun h' tk acc hk hacc => k h' tk _ hk (vals_vals v.sz v.en hacc)).imp fun σ H Q q => vals_reads (R := rSrtV G) (by simp) (by simp) q (fun {d z} e => by cases d <;> first | exact ⟨_, rfl⟩ | (simp [bltD] at e)) fun {A ρ h H a xs kvs z} S tp e f => by
    simp only [bltD] at e
    split at e
    · rename_i hok
      cases e
      exact ⟨_, _, dp_vals (β := Unit) tp, hok, fun p zs hp r => f.lst S r p hp⟩
    · cases e
end
end L2

set_option Elab.async false
set_option linter.all false
set_option autoImplicit false
set_option maxRecDepth 100000
set_option maxHeartbeats 4000000
/-! Z9h: exceptions caught. -/
namespace L2
open PySem PySem.Spec PyProof.Rows Z
/-! ### isinstance of a caught one -/
/-- a class as isinstance is asked: a built-in one, or one of the text -/
def clsV (G : Gx) (y : Str) : Value := if y = ("ValueError" : Str) then .type "ValueError" else .ref (G.cx y)
def rIsZ (G : Gx) (K : PySem.W.Frag) : List V → Hp → VK → Prop := fun xs H Q => ∃ a D c cv b, xs = [.ref a, c] ∧ Rd H a (ExH (.ref D) a) ∧ ExcC K D ∧ (∀ u, RelV c u → u = cv) ∧ PySem.W.kitOne K (.ref D) cv = some b ∧ Q (.bl b) H
theorem call_isZ {X : Cx} {G : Gx} : CallR X (.builtin "isinstance") (rIsZ G X.K) := by
  intro pins s σ H xs us Q I r ⟨a, D, c, cv, b, exs, rd, C, hcv, e, q⟩
  subst exs
  cases r with
  | cons rx rr =>
    cases rr with
    | cons rt rr =>
      cases rr; cases rx
      have ec := hcv _ rt
      subst ec
      obtain ⟨⟨oe, vs, hget, hz, hv⟩, _⟩ := rd.ok I.hok
      have J : PySem.W.InstAt s.heap a oe D none := by
        obtain ⟨oc, od, oda, osl⟩ := oe
        obtain ⟨h1, h2⟩ := hz
        dsimp only at h1 h2 hv; subst h1 h2 hv
        exact ⟨hget, rfl, rfl, trivial⟩
      exact PySem.W.kia_one (PySem.W.handS_kitx_exc C.hg C.hk C.hs C.hd C.ha C.hn C.ht C.hm) I.kIn J e (fun z => nomatch z) fun tk => ⟨.bl b, H, I.kept (t' := tk) fun _ _ z => z, rfl, q⟩
section
variable {X : Cx} {G : Gx} {W : WX} {L : Lib} {pos p : Pos}
theorem se_isx (ok : Okx X G W) {a : Ce} {ea : Expr} {y : Str} {p2 : Pos} {tab : List (Str × Bool)} {v : V} {cv : Value} (hp : plainE ea = true) (hg : Gl X "isinstance") (hm : X.mg "isinstance" = none) (hy : PE X (.Name y p2) (tC v)) (hv : ∀ u, RelV v u → u = cv)
    (ht : ∀ c b, tab.lookup c = some b → ExcC X.K (G.cx c) ∧ PySem.W.kitOne X.K (.ref (G.cx c)) cv = some b) (ha : SE X G W L a ea) : SE X G W L (.isx a y tab) (.Call (.Name "isinstance" p) [ea, .Name y p2] [] pos) := by
  have pa := pa_cons ha (pa_cons hy pa_nil (plain_star rfl [] X.env)) (plain_star hp [.Name y p2] X.env)
  refine (pe_callB (call_isZ (G := G)) hg hm boot_isinstance pa (by decide) (by decide) (plain_star hp _ X.env) (plain_stars rfl pos X.env)).imp fun σ H Q ⟨A, ρ, en, h, S, E, P⟩ => ?_
  simp only [den] at P
  refine ⟨A, ρ, en, h, S, E, ?_⟩
  cases hd : den L a en h with
  | exc c h1 => rw [hd] at P; exact P
  | bad => rw [hd] at P; exact P
  | ok w h1 =>
    rw [hd] at P
    simp only [Res.bind_ok] at P
    obtain ⟨z, e, P2⟩ := P.lift
    rw [Option.map_eq_some_iff] at e
    obtain ⟨b, e1, e2⟩ := e
    subst e2
    intro ρ1 H1 x E1 S1 R1
    cases R1 with
    | d _ => simp [isxV] at e1
    | ref _ => simp [isxV] at e1
    | scr _ => simp [isxV] at e1
    | dic _ _ _ _ => simp [isxV] at e1
    | @exc t c R1 n =>
      obtain ⟨q1, q2⟩ := ht c b e1
      exact ⟨t, G.cx c, v, cv, b, rfl, R1, q1, hv, q2, (Post.ext P2 E1).here S1 (.d (.bl b))⟩
end
/-! ### try: .. except x as n: suite; the caught one is tracked behind it -/
theorem exH_ok {P : Program} {w : World} {H : Hp} {h : Heap} {a : Addr} {cls : Value} {oe : Obj} {vs : Array Value} (e : h.get? a = some oe) (z : Zc cls none oe) (d : oe.data = .fields vs) : ObjOk P w H h a (ExH cls a) :=
  ⟨⟨oe, vs, e, z, d⟩, ⟨oe, e⟩, fun _ _ ⟨o, v, q, r⟩ k => ⟨o, v, k o q, r⟩⟩
section
variable {X : Cx} {pins : List (Addr × Obj)} {σ : St} {H : Hp} {s : Shared}
/-- an object of ours that wasn't tracked is tracked from here on -/
theorem Inv.reg {a : Addr} {o : HO} (I : Inv X pins σ H s) (n0 : X.s_0.heap.get? a = none) (hn : H a = none) (nL : a ≠ X.env.locals) (nC : ∀ x c, X.env.cells.lookup x = some c → c ≠ a) (nP : ∀ p ∈ X.pn ++ pins, p.1 ≠ a) (new : ObjOk X.prog X.w (upd H a o) s.heap a o) : Inv X pins σ (upd H a o) s :=
  ⟨I.ok, I.os, I.bare, ⟨fun b u e n hb hx => I.base.keep b u e n hb hx, fun b u e n hb hx => I.base.slot b u e n hb hx, fun b u e n hx => by rw [upd_ne (fun z => by rw [z, n0] at e; cases e)]; exact I.base.free b u e n hx, fun b u e hx => I.base.there b u e hx,
    fun b xs e => by rw [upd_ne (ne_of_none (I.base.tups b xs e) hn)]; exact I.base.tups b xs e, fun b u xs e => by rw [upd_ne (ne_of_none (I.base.frzs b u xs e) hn)]; exact I.base.frzs b u xs e, fun b ps e => by
      obtain ⟨m, q⟩ := I.base.tbls b ps e
      exact ⟨m, by rw [upd_ne (ne_of_none q hn)]; exact q⟩⟩, I.loc, I.cell, by rw [upd_ne nL.symm]; exact I.free, fun x c e => by rw [upd_ne (nC x c e)]; exact I.freeC x c e, fun p hp => by
      obtain ⟨e, n, r⟩ := I.pin p hp
      exact ⟨e, by rw [upd_ne (nP p hp)]; exact n, r⟩, HOk.laidN I.hok (fun _ _ z => z) hn new, I.len⟩
end
/-- the ends of a suite that tracks its exception -/
def regE (D : Ends) (i : Nat) (cls : Value) (a : Addr) : Ends := { nx := fun σ H => D.nx (σ.set i none) (upd H a (ExH cls a)), rt := fun v H => D.rt v (upd H a (ExH cls a)), bk := fun σ H => D.bk (σ.set i none) (upd H a (ExH cls a)), ct := fun σ H => D.ct (σ.set i none) (upd H a (ExH cls a)) }
def wAsZ (K : PySem.W.Frag) (c : Value) (i : Nat) (ts : Addr → TS) (D : Ends) : WX := fun cls d σ H => d = none ∧ PySem.W.exmOne K cls c = some true ∧ ∀ a, H a = none → ts a (regE D i cls a) (σ.set i (some (.ref a))) H
section
variable {X : Cx} {x n : Str} {c : Value} {i : Nat} {body suite : List Stmt} {b₀ : Stmt} {np pos pos' : Pos} {tb : WX → TS} {ts : Addr → TS}
theorem ps_try_z (hx : X.ex = []) (hs : X.stack = X.env :: X.outer) (hf : X.env.frame = some X.env.locals) (hN : X.N.Nodup) (hi : X.N[i]? = some n) (hln : X.env.kindOf n = some .local) (hc : Names X x c)
    (hb : ∀ (W : WX) (pn : List (Addr × Obj)) (xe : Value → Shared → Prop), Takes (X.tr pn xe) W → PassesOwn (model X.prog X.w) X.A X.env xe → PSs (X.tr pn xe) body (tb W))
    (hsu : ∀ (a : Addr) (oe : Obj) (pn : List (Addr × Obj)), PSs (X.suite a ((a, oe) :: pn)) (b₀ :: suite) (ts a)) :
    PS X (.Try body [.ExceptHandler (some (.Name x np)) (some n) (b₀ :: suite) pos'] [] [] pos) (fun D σ H => tb (wAsZ X.K c i ts D) D σ H) := by
  refine ⟨fun pins s σ H D I h => ?_⟩
  have ok := I.ok; have hfr : X.A.frames = some (X.env :: X.outer) := by rw [ok.frames, hs]
  have hloc : Loc X.env.scope n := .inl hln
  refine wpAny_Try_except ?_
  refine wpAny_mono ((hb (wAsZ X.K c i ts D) (X.pn ++ pins) (fun e s₁ => wpAny (model X.prog X.w) X.A (noteFrame e X.env) (fun _ s₂ => wpAny (model X.prog X.w) X.A (setFlight e none) (fun _ s₃ => wpAny (model X.prog X.w) X.A (handleBy e X.env [.ExceptHandler (some (.Name x np)) (some n) (b₀ :: suite) pos']) (SP X pins D) X.xe s₃) X.xe s₂) X.xe s₁) (fun u s' xx => ?_) PassesOwn.looking).run [] s σ H D (I.toTry _) h) (fun f s1 hsp => ?_) (fun e s1 he => he)
  · obtain ⟨a, B, sI, pins', σ', H', cls, d, eu, J', nb, up, sky, na, os, ag, ed, hb1, hyes⟩ := xx
    subst eu ed
    have J : Inv X pins σ' H' sI := J'.ofTry ok
    have sky' : Sky B (X.env :: X.outer) a (Zc cls none) X.env.locals s'.heap := by rw [← hs]; exact sky
    show wpAny (model X.prog X.w) X.A (noteFrame (.ref a) X.env) _ _ _
    refine Sky.land Zc.steady hfr hf sky' fun h3 fl3 up3 => ?_
    have J3 : Inv X pins σ' H' { s' with heap := h3 } := J.landed nb fl3.1 (up.trans up3) os ag
    obtain ⟨oe3, vs3, he3, hz3, hd3⟩ := fl3.there
    have notFr : ∀ {h : Heap} {o : Obj} {vs : Array Value}, h.FunFrames B (X.env :: X.outer) → h.get? a = some o → o.data = .fields vs → a ∉ frs (X.env :: X.outer) := fun {h o vs} ff e dd hm => by
      obtain ⟨_, o', e', hnf⟩ := ff.mem hm
      rw [e] at e'; cases e'; exact hnf _ dd
    have nfr := notFr fl3.2.2.1 he3 hd3
    have nL : a ≠ X.env.locals := fun z => nfr (List.mem_filterMap.mpr ⟨X.env, List.mem_cons_self, by rw [hf, z]⟩)
    have nF : a ∉ X.fs := fun hm => by
      obtain ⟨e, he, q⟩ := List.mem_filterMap.mp hm
      exact nfr (List.mem_filterMap.mpr ⟨e, List.mem_cons_of_mem _ he, q⟩)
    have S3 := J3.suite he3 hd3 na nL nF
    refine wpAny_handleBy_cons (codeAny_handlers_test ?_) (by intro q; cases q)
    have LT : PySem.W.Looks (model X.prog X.w) h3 (typeOf (.ref a)) cls := fun A Q E s k q => wpAny_typeOf_ref (k _ _ he3) (by rw [hz3.1]; exact q)
    have LM := PySem.W.exm_one (M := model X.prog X.w) (J3.kIn) LT hb1
    have test : ∀ {Q : Value → Shared → Prop} {E : Value → Shared → Prop}, Q c { s' with heap := h3 } → wpAny (model X.prog X.w) (X.A.mark (some (.ref a))) (eval (.Name x np) X.env) Q E { s' with heap := h3 } := fun {Q E} q => by
      obtain ⟨hg, hdbg, hm | ⟨hm, hv, hnn⟩⟩ := hc
      · exact ld_glob (X := X.suite a ((a, oe3) :: (X.pn ++ pins))) S3 hg hm q hdbg
      · exact ld_blt (X := X.suite a ((a, oe3) :: (X.pn ++ pins))) S3 hg hm hv q hnn hdbg
    refine test (LM.here ?_); refine codeAny_handlers_suite_as ?_
    refine HandSPX.lands_againZ fl3 fun h4 fl4 up4 => ?_
    have J4 : Inv X pins σ' H' { s' with heap := h4 } := J.landed nb fl4.1 ((up.trans up3).trans up4) os ag
    obtain ⟨oe4, vs4, he4, hz4, hd4⟩ := fl4.there
    have S4 := J4.suite he4 hd4 na nL nF
    refine store_ok (X := X.suite a ((a, oe4) :: (X.pn ++ pins))) (v := .ref a) S4 hN hi hloc rfl (fun s5 S5 => ?_) (.inr hln)
    refine wpAny_mono ((hsu a oe4 (X.pn ++ pins)).run [] s5 _ H' _ S5 (hyes a na)) (fun f s6 hsp => ?_) (fun _ _ z => False.elim z)
    have notB : ∀ o, sI.heap.get? a = some o → False := fun o q => by
      have z := nb a o q (by rw [hs]; exact nfr)
      rw [fl3.2.1] at z; cases z
    have n0 : X.s_0.heap.get? a = none := by
      cases e : X.s_0.heap.get? a with
      | none => rfl
      | some o =>
        obtain ⟨o', q⟩ := J.base.there a o e (by rw [hx]; exact fun z => nomatch z)
        exact (notB o' q).elim
    have end_ : ∀ {σ6 : St} {H6 : Hp} {Q : Shared → Prop}, Inv (X.suite a ((a, oe4) :: (X.pn ++ pins))) [] σ6 H6 s6 → (∀ s7, Inv X pins (σ6.set i none) (upd H6 a (ExH cls a)) s7 → Q s7) →
        wpAny (model X.prog X.w) X.A (do bindName X.env n .none; unbindBehindTheSuite X.env n pos') (fun _ s7 => Q s7) X.xe s6 := fun {σ6 H6 Q} S6 hq => by
      obtain ⟨g1, g2, g3, g4, g5⟩ := S6.pin (a, oe4) (List.mem_append_left _ List.mem_cons_self)
      have I6 := S6.unsuite ok
      have R6 : Inv X pins σ6 (upd H6 a (ExH cls a)) s6 := I6.reg n0 g2 nL (fun x c' e z => by
        obtain ⟨v, o, q1, q2⟩ := I6.cell x c' e
        rw [z] at q1
        have := g1.symm.trans q1
        cases this
        exact g5 v q2) (fun p hp z => by
        obtain ⟨q, _⟩ := J.pin p hp
        exact notB _ (z ▸ q)) (exH_ok g1 hz4 hd4)
      exact gone_ok R6 hN hi hln hq
    cases f with
    | next => obtain ⟨σ6, H6, S6, q6⟩ := hsp; exact end_ S6 fun s7 J7 => ⟨_, _, J7, q6⟩
    | brk => obtain ⟨σ6, H6, S6, q6⟩ := hsp; exact end_ S6 fun s7 J7 => ⟨_, _, J7, q6⟩
    | cont => obtain ⟨σ6, H6, S6, q6⟩ := hsp; exact end_ S6 fun s7 J7 => ⟨_, _, J7, q6⟩
    | ret u => obtain ⟨v6, σ6, H6, S6, r6, q6⟩ := hsp; exact end_ S6 fun s7 J7 => ⟨_, _, _, J7, r6, q6⟩
  · cases f with
    | next => obtain ⟨σ', H', J', q⟩ := hsp; exact wpAny_execs_nil ⟨σ', H', J'.ofTry ok, q⟩
    | brk => obtain ⟨σ', H', J', q⟩ := hsp; exact ⟨σ', H', J'.ofTry ok, q⟩
    | cont => obtain ⟨σ', H', J', q⟩ := hsp; exact ⟨σ', H', J'.ofTry ok, q⟩
    | ret u => obtain ⟨v, σ', H', J', r, q⟩ := hsp; exact ⟨v, σ', H', J'.ofTry ok, r, q⟩
end
section
variable {X : Cx} {G : Gx} {W : WX} {L : Lib} {x n y : Str} {c : Value} {i j : Nat} {bd : List Stmt} {np np2 py ap pos pos' : Pos}
theorem ss_tryx (ok : Okx X G W) (hx : X.ex = []) (hs : X.stack = X.env :: X.outer) (hf : X.env.frame = some X.env.locals) (hi : X.N[i]? = some n) (hln : X.env.kindOf n = some .local) (hnd : (n == ("__debug__" : Str)) = false) (hnc : (n == ("__classdict__" : Str)) = false) (hj : X.N[j]? = some y) (hy : Loc X.env.scope y) (hyf : X.fn y = true ∨ X.env.scope.names.lookup y = some .local) (hc : Names X x c) {b : Css} {subs : List Str} {xn : Str}
    (hsub : ∀ z ∈ subs, PySem.W.exmOne X.K (.ref (G.cx z)) c = some true)
    (hb : ∀ (W' : WX) (pn : List (Addr × Obj)) (xe : Value → Shared → Prop), Takes (X.tr pn xe) W' → PassesOwn (model X.prog X.w) X.A X.env xe → SSs (X.tr pn xe) G W' L b bd) :
    SS X G W L (.tryx b i j xn subs) (.Try bd [.ExceptHandler (some (.Name x np)) (some n) [.Assign [.Name y py] (.Name n np2) ap] pos'] [] [] pos) :=
  (ps_try_z (ts := fun _ => tAsg (tVar i) (gName j)) hx hs hf ok.nd hi hln hc hb fun a oe pn => pss_one (ps_set (X := X.suite a ((a, oe) :: pn)) ok.nd hj hy (pe_var (X := X.suite a ((a, oe) :: pn)) hi (show Vis X.env.scope n from .inl hln) hnd hnc) rfl hyf)).imp fun D σ H ⟨A, ρ, en, h, S, E, P⟩ => by
    simp only [Z.exec] at P
    refine ⟨A, ρ, en, h, S, E, ?_⟩
    cases hbd : execs L b en h with
    | next e1 h1 => rw [hbd] at P; exact P
    | ret v h1 => rw [hbd] at P; exact P
    | brk e1 h1 => rw [hbd] at P; exact P
    | cont e1 h1 => rw [hbd] at P; exact P
    | bad => rw [hbd] at P; exact P.elim
    | exc k e1 h1 =>
      rw [hbd] at P
      dsimp only at P
      split at P
      · rename_i hk
        split at P
        · rename_i e2 he2
          split at P
          · rename_i hlt
            intro ρ' H' σ' X1 S1 E1
            refine ⟨rfl, hsub k (List.contains_iff_mem.mp hk), fun a na => ?_⟩
            have hil : i < σ'.length := by
              have : e2.length = e1.length := by
                unfold setE at he2
                split at he2
                · cases he2; simp
                · cases he2
              rw [E1.len]; omega
            refine ⟨.ref a, by rw [List.getElem?_set_self hil], ?_⟩
            show D.nx (((σ'.set i (some (.ref a))).set j (some (.ref a))).set i none) (upd H' a (ExH (.ref (G.cx k)) a))
            have X2 : Ext A ρ H ρ' (upd H' a (ExH (.ref (G.cx k)) a)) := X1.trans (Ext.laid na)
            have S2 : Sim G A ρ' h1 (upd H' a (ExH (.ref (G.cx k)) a)) := S1.laid na
            refine P ρ' _ _ X2 S2 ?_
            have R : RepV G A ρ' (upd H' a (ExH (.ref (G.cx k)) a)) (.ref a) (.exc k) := .exc (.inl upd_same) (S1.notAv na)
            have E2 : EnvR G A ρ' (upd H' a (ExH (.ref (G.cx k)) a)) σ' e1 := E1.ext (Ext.laid na)
            have E3 := E2.set_ R he2
            have e : ((σ'.set i (some (.ref a))).set j (some (.ref a))).set i none = (σ'.set j (some (V.ref a))).set i none := by
              by_cases hij : i = j
              · subst hij; simp
              · rw [List.set_comm _ _ (fun q => hij q), List.set_set]
            rw [e]
            exact ⟨by simp [E3.len], fun m v hv => by
              by_cases hm : i = m
              · subst hm
                rw [List.getElem?_set_self hlt] at hv; cases hv
              · rw [List.getElem?_set_ne hm] at hv ⊢
                exact E3.at_ m v hv⟩
          · exact P.elim
        · exact P.elim
      · exact P.elim
end
end L2

set_option Elab.async false
set_option linter.all false
set_option autoImplicit false
set_option maxRecDepth 100000
set_option maxHeartbeats 4000000
/-! Z9i: set(list), whatever the keys are. -/
namespace L2
open PySem PySem.Spec PyProof.Rows Z
theorem ins1_len {K : Type} [DecidableEq K] (l : List K) (k : K) : (ins1 l k).length ≤ l.length + 1 := by unfold ins1; split <;> simp
section
variable {prog : Program} {w : World} {A : Around} {R : Result → Shared → Prop} {I : Addr} {fp wr : List Addr} {G : Array GenState → Array GenState → Prop} {n : Nat} {P : Nat → Value → Prop} {St : Nat → Shared → Prop}
variable {K : Type} [DecidableEq K]
/-- what a set of keys must be able to do -/
structure SetCan (prog : Program) (w : World) (A : Around) (S : Addr) (wr : List Addr) (SP : Heap → List K → Prop) (OkK : Heap → K → Value → Prop) (most : Nat) : Prop where
  stay : ∀ (h h' : Heap) (l : List K), (∀ b o, b ∉ wr → h.get? b = some o → h'.get? b = some o) → SP h l → SP h' l
  stayK : ∀ (h h' : Heap) (k : K) (v : Value), (∀ b o, b ∉ S :: wr → h.get? b = some o → h'.get? b = some o) → OkK h k v → OkK h' k v
  add : ∀ (s : Shared) (l : List K) (k : K) (v : Value) (Q : Bool → Shared → Prop) (E : Value → Shared → Prop), SP s.heap l → OkK s.heap k v → l.length < most →
    (∀ b h' tk, s.toks ≤ tk → SP h' (ins1 l k) → (∀ b o, b ≠ S → s.heap.get? b = some o → h'.get? b = some o) → Q b { s with heap := h', toks := tk }) → wpAny (model prog w) A (setAdd S v) Q E s
theorem loop_into {S : Addr} {SP : Heap → List K → Prop} {OkK : Heap → K → Value → Prop} {most : Nat} (C : ∀ A, SetCan prog w A S wr SP OkK most) (W : WalksS prog w A.in1 I fp wr G n P St) (fresh : S ∉ fp) (ks : Nat → K) (hm : n < most) :
    ∀ (left i : Nat) (s : Shared) (l : List K), n - i = left → i ≤ n → St i s → SP s.heap l → l.length ≤ i → (∀ j v, i ≤ j → P j v → OkK s.heap (ks j) v) →
      (∀ s', Moved (S :: wr) G s s' → SP s'.heap (((List.range' i (n - i)).map ks).foldl ins1 l) → R (.ok (.ret .none)) s') →
      codeAny (model prog w) A (.builtin "set.update.loop" ⟨[.ref S, .ref I], []⟩) R s := by
  have out : S ∉ wr := fun h => fresh (W.sub _ h)
  have more : ∀ b ∈ wr, b ∈ S :: wr := fun b hb => .tail _ hb
  intro left
  induction left with
  | zero =>
    intro i s l hk hi st hS _ _ done
    obtain rfl : i = n := by omega
    refine codeAny_builtin PyProof.Rows.F.entry_set_update_loop ?_
    rw [Around.under_plainId PyProof.Rows.F.plain_set_update_loop _]
    show wpAny _ A.in1 (pyNext (.ref I) >>= _) _ _ s
    refine wpAny_bind (W.done s _ _ st fun s1 mv => ?_)
    show wpAny _ A.in1 (ret Value.none) _ _ s1
    refine wpAny_pure (done s1 (mv.mono more) ?_)
    rw [Nat.sub_self]
    exact (C A).stay _ _ _ mv.heap hS
  | succ left ih =>
    intro i s l hk hi st hS hl hok done
    have lt : i < n := by omega
    refine codeAny_builtin PyProof.Rows.F.entry_set_update_loop ?_
    rw [Around.under_plainId PyProof.Rows.F.plain_set_update_loop _]
    show wpAny _ A.in1 (pyNext (.ref I) >>= _) _ _ s
    refine wpAny_bind (W.item i s _ _ lt st fun v s1 hP st1 mv => ?_)
    have hS1 := (C A).stay _ _ _ mv.heap hS
    have ok1 := (C A).stayK _ _ _ _ (fun b o nb e => mv.heap b o (fun z => nb (more b z)) e) (hok i v (Nat.le_refl _) hP)
    show wpAny _ A.in1 (holding [v] (setAdd S v) >>= _) _ _ s1
    refine wpAny_bind (wpAny_holding ?_)
    refine (C _).add s1 l (ks i) v _ _ hS1 ok1 (by omega) fun bb h' tk htk hS2 sb => ?_
    have sl := ins1_len l (ks i)
    refine wpAny_pure ⟨plainId_quiet PyProof.Rows.F.plain_set_update_loop _, ih (i + 1) _ (ins1 l (ks i)) (by omega) lt (W.frame _ s1 _ _ st1 htk fun b hb o e => ?_) hS2 (by omega) (fun j v hj hv => ?_) fun s2 mv2 hS3 => ?_⟩
    · exact sb b o (fun z : b = S => fresh (z ▸ hb)) e
    · refine (C A).stayK _ _ _ _ (fun b o nb e => ?_) (hok j v (by omega) hv)
      exact sb b o (fun z => nb (z ▸ List.mem_cons_self)) (mv.heap b o (fun z => nb (more b z)) e)
    · refine done s2 (Moved.trans W.gtrans ((mv.mono more).then_heap htk fun b o nb e => sb b o (fun z => nb (z ▸ List.mem_cons_self)) e) mv2) ?_
      have : List.range' i (n - i) = i :: List.range' (i + 1) (n - (i + 1)) := by
        rw [show n - i = (n - (i + 1)) + 1 by omega]; rfl
      rw [this]
      exact hS3
end
section
variable {prog : Program} {w : World} {A : Around} {E : Value → Shared → Prop} {s : Shared} {K : Type} [DecidableEq K]
/-- the object of a set of which nothing is in yet -/
def set0 (led : Bool) : Obj := { cls := .type "set", dict := none, data := .set #[] 0 (.fresh 0 0 led) }
/-- set(xs): the new set stands at the heap's end -/
theorem call_set_of (k0 : K) {l : Addr} {items : Array Value} {ks : List K} {SP : Heap → List K → Prop} {OkK : Heap → K → Value → Prop} {most : Nat} {Q : Value → Shared → Prop}
    (calm : A.handled = none) (hl : s.heap.IsList l items) (hsz : ks.length = items.size) (hm : items.size < most)
    (C : ∀ A, SetCan prog w A s.heap.objs.size [s.heap.objs.size + 1] SP OkK most)
    (hok : ∀ (i : Nat) (v : Value) (h' : Heap), items[i]? = some v → (∀ b o, b < s.heap.objs.size → s.heap.get? b = some o → h'.get? b = some o) → ∃ k, ks[i]? = some k ∧ OkK h' k v)
    (h0 : ∀ led (h' : Heap), h'.get? s.heap.objs.size = some (set0 led) → SP h' [])
    (h : ∀ (h' : Heap) (tk : Nat), SP h' (dedup ks) → (∀ b o, b < s.heap.objs.size → s.heap.get? b = some o → h'.get? b = some o) → Q (.ref s.heap.objs.size) { s with heap := h', toks := tk }) :
    wpAny (model prog w) A (call (.type "set") [.ref l]) Q E s := by
  obtain ⟨c, tl, mro⟩ := F.called_set.mro
  have made := F.called_set.made
  have sub := F.called_set.sub
  refine wpAny_call (codeAny_of_tree ?_)
  show wpAny _ _ (callAny (.type "set") _) _ _ _
  refine wpAny_pure ⟨Code.quiet_builtin _ (by decide +kernel), codeAny_builtin F.entry_type_call ?_⟩
  rw [Around.under_plain (weight_type_call_type "set" [.ref l] []) rfl]
  have notT := F.called_set.notType
  have canC := F.called_set.canCreate
  have tyC := F.typeCall_set_1 (.ref l)
  repeat (any_goals (first | assumption | wp_step))
  refine codeAny_mono (code_set_new_1 (.ref l) (E := E) (Q₁ := fun v s₁ => ∃ led : Bool, v = .ref s.heap.objs.size ∧ s₁ = { s with heap := s.heap.push (set0 led) }) fun led => ⟨led, rfl, rfl⟩) fun r s₁ got => ?_
  cases r with
  | error e => exact got
  | ok fl =>
    cases fl with
    | ret ob =>
      obtain ⟨led, rfl, rfl⟩ := got
      have at0 : (s.heap.push (set0 led)).get? s.heap.objs.size = some (set0 led) := Heap.get?_push_size _ rfl
      have ty0 : Shared.TypeIs { s with heap := s.heap.push (set0 led) } (.ref s.heap.objs.size) "set" := ⟨_, at0, rfl⟩
      have ini := F.called_set.init.lookup
      have bnd := F.called_set.init.bind (.ref s.heap.objs.size)
      repeat (any_goals (first | assumption | wp_step))
      refine codeAny_mono (codeAny_call_builtin (R := wants (fun r s₂ => r = .none ∧ ∃ h' tk, s₂ = { s with heap := h', toks := tk } ∧ SP h' (dedup ks) ∧
          (∀ b o, b < s.heap.objs.size → s.heap.get? b = some o → h'.get? b = some o)) E) F.called_set.init.plain F.entry_set_init (check_set_init_1 ty0 ?_)) fun r₂ s₂ got₂ => ?_
      · obtain ⟨ol, hol, hcl, nl, hdl⟩ := hl
        obtain ⟨ocls, odict, odata, oslots⟩ := ol
        simp only at hcl hdl
        subst hcl hdl
        have hol' : (s.heap.push (set0 led)).get? l = some { cls := .type "list", dict := odict, data := .seq items nl, slots := oslots } := Heap.get?_push_of_some _ hol
        have ns1 := F.sub_list_set
        have ns2 := F.sub_list_frozenset
        have ns3 : (Value.type "list" == Value.type "dict") = false := by decide
        have hl1 : (s.heap.push (set0 led)).IsList l items := ⟨_, hol', rfl, nl, rfl⟩
        unfold Builtin.«set.__init__» noKeywords Builtin.Frozenset.updateFrom
        generalize hPI : pyIter = PI
        wp_walk
        subst hPI
        refine wpAny_pyIter_list hl1 ?_
        refine wpAny_bind (wpAny_runValue ?_)
        have lS : l < s.heap.objs.size := Heap.lt_size hol
        have calm3 : A.in1.in1.in1.handled = none := by simp [calm]
        have sz1 : (s.heap.push (set0 led)).objs.size = s.heap.objs.size + 1 := Heap.size_push _ _
        have ne1 : l ≠ (s.heap.push (set0 led)).objs.size := by rw [sz1]; exact Nat.ne_of_lt (Nat.lt_succ_of_lt lS)
        have fresh : s.heap.objs.size ∉ [(s.heap.push (set0 led)).objs.size, l] := by
          rw [sz1]
          intro z
          rcases List.mem_cons.mp z with z | z
          · exact Nat.ne_of_lt (Nat.lt_succ_self _) z
          · exact Nat.ne_of_gt lS (List.mem_singleton.mp z)
        have keep0 : ∀ b o, b < s.heap.objs.size → s.heap.get? b = some o → ((s.heap.push (set0 led)).push { cls := .type "list_iterator", data := .fields #[.ref l, .int 0 0] }).get? b = some o := fun b o _ e => Heap.get?_push_of_some _ (Heap.get?_push_of_some _ e)
        have C' : ∀ A, SetCan prog w A s.heap.objs.size [(s.heap.push (set0 led)).objs.size] SP OkK most := fun A => by rw [sz1]; exact C A
        have get : ((s.heap.push (set0 led)).push { cls := .type "list_iterator", data := .fields #[.ref l, .int 0 0] }).get? s.heap.objs.size = some (set0 led) := Heap.get?_push_of_some _ at0
        refine loop_into C' ((Walks.list calm3 _ l ne1 items).toS) fresh (fun i => ks.getD i k0) hm (items.size - 0) 0 _ [] (by omega) (Nat.zero_le _)
          ⟨⟨_, Heap.get?_push_size _ rfl, rfl, rfl⟩, (hl1.push _)⟩ (h0 led _ get) (Nat.le_refl _) (fun j v _ hv => ?_) fun s' mv hS' => ?_
        · obtain ⟨k, hk, ok⟩ := hok j v _ hv keep0
          simpa [hk] using ok
        · obtain ⟨h', g', d', tk', os'⟩ := s'
          obtain rfl : g' = s.gens := mv.gens
          obtain rfl : d' = s.drawn := mv.drawn
          obtain rfl : os' = s.os := mv.os
          show wpAny _ _ _ _ _ _
          refine wpAny_pure ?_
          show wpAny _ _ (ret Value.none) _ _ _
          refine wpAny_pure ⟨rfl, h', tk', rfl, ?_, fun b o hb e => ?_⟩
          · have : (List.range' 0 (items.size - 0)).map (fun i => ks.getD i k0) = ks := by
              apply List.ext_getElem
              · simp [hsz]
              · intro i h1 h2
                simp [List.getD_eq_getElem?_getD, h2]
            rw [this] at hS'
            exact hS'
          · refine mv.heap b o (fun z => ?_) (keep0 b o hb e)
            rw [sz1] at z
            rcases List.mem_cons.mp z with z | z
            · exact Nat.ne_of_lt hb z
            · exact Nat.ne_of_lt (Nat.lt_succ_of_lt hb) (List.mem_singleton.mp z)
      · cases r₂ with
        | error e => exact got₂
        | ok fl₂ =>
          cases fl₂ with
          | ret r =>
            obtain ⟨rfl, h', tk, rfl, hS', keep⟩ := got₂
            repeat (any_goals (first | assumption | wp_step))
            exact h _ _ hS' keep
          | _ => exact got₂.elim
    | _ => exact got.elim
end
section
variable {prog : Program} {w : World} {K : Type} [DecidableEq K] [BEq K] [LawfulBEq K]
theorem can_scan (knd : KeyKind prog w K) (A : Around) {S : Addr} {wr : List Addr} (out : S ∉ wr) :
    SetCan prog w A S wr (fun h (l : List K) => h.SetOf knd S (fun k => decide (k ∈ l)) l.length) (fun _ k v => knd.is k v = true ∧ v.scannable = true) 4000 where
  stay h h' l k z := by
    obtain ⟨o, es, ep, t, ho, r⟩ := z
    exact ⟨o, es, ep, t, k S o out ho, r⟩
  stayK _ _ _ _ _ z := z
  add s l k v Q E hS ok lt q := by
    unfold setAdd
    refine wpAny_holding (wpAny_bind (knd.pyHash (k := k) ok.1 ?_))
    refine wpAny_setAddHashed_of (knd := knd) (s := { s with toks := s.toks + 1 }) ok.1 ok.2 hS (by unfold scanBound; omega) fun h' sb hS' => ?_
    refine q _ h' (s.toks + 1) (Nat.le_succ _) (PyProof.Rows.SetOf_congr hS' (fun x => ?_) ?_) fun b o nb e => (sb.2 b nb).trans e
    · unfold ins1
      by_cases hk : k ∈ l
      · by_cases hx : x = k <;> simp [hk, hx]
      · simp [hk]
    · unfold ins1
      by_cases hk : k ∈ l <;> simp [hk]
end
section
variable {X : Cx}
def tLenSetN (K : PySem.W.Frag) (ta : TE) : TE := fun σ H Q => ta σ H fun x H1 => ∃ (l : Addr), x = .ref l ∧ ((∃ ns : List Int, SqL K H1 l (ns.map V.int) ∧ ns.length < 3999 ∧ Q (.int ((dedup ns).length : Nat)) H1) ∨ ∃ ws : List Str, SqL K H1 l (ws.map V.str) ∧ ws.length < 3999 ∧ Q (.int ((dedup ws).length : Nat)) H1)
theorem strs_get : ∀ {vs : List Value} {ws : List Str}, StrsAre vs ws → ∀ (i : Nat) (v : Value), vs[i]? = some v → ∃ k t, ws[i]? = some k ∧ v = .str k t
  | _, _, .nil, i, v, h => by simp at h
  | _, _, .cons k t r, 0, v, h => by simp at h; exact ⟨k, t, rfl, h.symm⟩
  | _, _, .cons k t r, i + 1, v, h => by simpa using strs_get r i v (by simpa using h)
theorem ints_get : ∀ {vs : List Value} {ns : List Int}, PyProof.Rows.IntsAre vs ns → ∀ (i : Nat) (v : Value), vs[i]? = some v → ∃ k t, ns[i]? = some k ∧ v = .int k t
  | _, _, .nil, i, v, h => by simp at h
  | _, _, .cons k t r, 0, v, h => by simp at h; exact ⟨k, t, rfl, h.symm⟩
  | _, _, .cons k t r, i + 1, v, h => by simpa using ints_get r i v (by simpa using h)
theorem dedup_le {K : Type} [DecidableEq K] (ks : List K) : (dedup ks).length ≤ ks.length := by
  have : ∀ (ks l : List K), (ks.foldl ins1 l).length ≤ l.length + ks.length := by
    intro ks
    induction ks with
    | nil => intro l; simp
    | cons k ks ih => intro l; have := ih (ins1 l k); have := ins1_len l k; simp only [List.foldl_cons, List.length_cons]; omega
  simpa [dedup] using this ks []
theorem pe_lenSetN {a : Expr} {ta : TE} {p p2 q pos : Pos} (calm : X.calm = true) (hg : Gl X "len") (hm : X.mg "len" = none) (hg2 : Gl X "set") (hm2 : X.mg "set" = none) (ha : PE X a ta)
    (na : starEach [a] X.env = (false, eval a X.env) :: starEach [] X.env := by rfl) : PE X (.Call (.Name "len" p) [.Call (.Name "set" p2) [a] [] q] [] pos) (tLenSetN X.K ta) := by
  refine ⟨fun pins s σ H Q I h => ?_⟩
  refine Call_ (ld_blt I hg hm boot_len ?_)
  refine PyProof.Rows.callWith_builtin1 (PyProof.Rows.args_cons ?_ rfl) rfl rfl
  refine Call_ (ld_blt I hg2 hm2 PyProof.Rows.boot_set ?_)
  refine PyProof.Rows.callWith_type1 (PyProof.Rows.args_cons (thn (ha.run pins s σ H _ I h) fun v s1 ⟨x, H1, I1, r1, l, ex, z⟩ => PyProof.Rows.args_nil ?_) na) na rfl
  subst ex
  cases r1
  have out : s1.heap.objs.size ∉ [s1.heap.objs.size + 1] := fun z => Nat.ne_of_lt (Nat.lt_succ_self _) (List.mem_singleton.mp z)
  have fin : ∀ (K : Type) [DecidableEq K] [BEq K] [LawfulBEq K] (knd : KeyKind X.prog X.w K) (ks : List K) (h' : Heap) (tk : Nat), ks.length < 3999 → Q (.int ((dedup ks).length : Nat)) H1 → h'.SetOf knd s1.heap.objs.size (fun k => decide (k ∈ dedup ks)) (dedup ks).length →
      (∀ b o, b < s1.heap.objs.size → s1.heap.get? b = some o → h'.get? b = some o) →
      wpAny (model X.prog X.w) X.A (spliced (backTo pos (starEach [] X.env))) (fun vs s₂ => wpAny (model X.prog X.w) X.A (call (.builtin "len") (Value.ref s1.heap.objs.size :: vs)) (EP X pins σ Q) X.xe s₂) X.xe { s1 with heap := h', toks := tk } := by
    intro K _ _ _ knd ks h' tk hks q hS keep
    refine PyProof.Rows.args_nil ?_
    obtain ⟨o, es, ep, t, ho, hex, hd, _, _, _, hf, hn⟩ := hS
    have I2 : Inv X pins σ H1 { s1 with heap := h', toks := tk } := I1.kept fun b o e => keep b o (Heap.lt_size e) e
    have := dedup_le ks
    exact call_len_set ho hex hd hf (by rw [hn]; omega) ⟨.int (dedup ks).length, H1, I2.tok _, ⟨_, by rw [hn]⟩, q⟩
  rcases z with ⟨ns, hq, hl, q1⟩ | ⟨ws, hq, hl, q1⟩
  · obtain ⟨its, r, pl, _⟩ := I1.list hq
    have hlen : its.toArray.size = ns.length := by rw [List.size_toArray, ← r.length, List.length_map]
    have ia := r.ints
    refine call_set_of (ks := ns) (0 : Int) (I1.ok.hd calm) pl.isList hlen.symm (most := 4000) (by omega) (fun A => can_scan (intKind X.prog X.w) A out) (fun i v h' hv _ => ?_) (fun led h' e => ?_) fun h' tk hS keep => fin Int (intKind X.prog X.w) ns h' tk hl q1 hS keep
    · obtain ⟨k, t, e1, rfl⟩ := ints_get ia i v (by simpa using hv)
      exact ⟨k, e1, intKind_is _ _ _ _, rfl⟩
    · exact PyProof.Rows.SetOf_congr ((PyProof.Rows.setObjOf_fresh (knd := intKind X.prog X.w) led).setOf e (by unfold scanBound; omega)) (fun _ => by simp) rfl
  · obtain ⟨its, r, pl, _⟩ := I1.list hq
    have hlen : its.toArray.size = ws.length := by rw [List.size_toArray, ← r.length, List.length_map]
    have ia := r.strs
    refine call_set_of (ks := ws) ("" : Str) (I1.ok.hd calm) pl.isList hlen.symm (most := 4000) (by omega) (fun A => can_scan (strKind X.prog X.w) A out) (fun i v h' hv _ => ?_) (fun led h' e => ?_) fun h' tk hS keep => fin Str (strKind X.prog X.w) ws h' tk hl q1 hS keep
    · obtain ⟨k, t, e1, rfl⟩ := strs_get ia i v (by simpa using hv)
      exact ⟨k, e1, strKind_is _ _ _ _, rfl⟩
    · exact PyProof.Rows.SetOf_congr ((PyProof.Rows.setObjOf_fresh (knd := strKind X.prog X.w) led).setOf e (by unfold scanBound; omega)) (fun _ => by simp) rfl
end
section
variable {X : Cx} {G : Gx} {W : WX} {L : Lib} {B : Addr → Prop} {H : Hp}
theorem RpAll.strs {xs : List V} {ds : List PyData} (r : RpAll G B H xs ds) : ∀ {bs : List Str}, strsOf ds = some bs → xs = bs.map V.str := by
  induction ds generalizing xs with
  | nil => intro bs e; cases r; simp only [strsOf, Option.some.injEq] at e; subst e; rfl
  | cons d ds ih =>
    intro bs e
    cases r with
    | cons r t =>
      cases d with
      | str b =>
        simp only [strsOf, Option.map_eq_some_iff] at e
        have ⟨cs, e1, e2⟩ := e
        subst e2
        rw [ih t e1, r.scal_str]; rfl
      | _ => simp [strsOf] at e
theorem se_lenset (ok : Okx X G W) {a : Ce} {ea : Expr} {p p2 q pos : Pos} (hp : plainE ea = true) (hg : Gl X "len") (hm : X.mg "len" = none) (hg2 : Gl X "set") (hm2 : X.mg "set" = none) (ha : SE X G W L a ea) :
    SE X G W L (.blt .lenset (.cons a .nil)) (.Call (.Name "len" p) [.Call (.Name "set" p2) [ea] [] q] [] pos) :=
  (pe_lenSetN ok.calm hg hm hg2 hm2 ha (plain_star hp [] X.env)).imp fun σ H Q ⟨A, ρ, en, h, S, E, P⟩ => by
    simp only [den, dens, Res.bind_ok] at P
    refine ⟨A, ρ, en, h, S, E, ?_⟩
    cases hd : den L a en h with
    | exc c h1 => rw [hd] at P; exact P
    | bad => rw [hd] at P; exact P
    | ok v h1 =>
      rw [hd] at P
      simp only [Res.bind_ok] at P
      obtain ⟨z, e, P2⟩ := P.lift
      intro ρ1 H1 x E1 S1 R1
      have e' : (asDs h1 [v]).bind (fun ds => (bltD .lenset ds).map Val.d) = some z := by unfold bltV at e; simpa using e
      rw [Option.bind_eq_some_iff] at e'
      obtain ⟨ds, e1, e2⟩ := e'
      simp only [asDs] at e1
      rw [Option.bind_eq_some_iff] at e1
      obtain ⟨d, e3, e4⟩ := e1
      simp only [Option.map_some, Option.some.injEq] at e4
      subst e4
      rw [Option.map_eq_some_iff] at e2
      obtain ⟨u, e5, e6⟩ := e2
      subst e6
      have rd := asD_rep S1 R1 e3
      cases d <;> first | (simp [bltD] at e5; done) | skip
      rename_i ys
      simp only [bltD, lensetD] at e5
      split at e5
      · rename_i hl
        obtain ⟨l, xs, ex, hs, rp⟩ := rd.sql
        subst ex
        have hlen : ∀ {α : Type} (f : α → V) (bs : List α), xs = bs.map f → bs.length < 3999 := fun f bs e => by
          have h1 := rp.length
          rw [e, List.length_map] at h1
          omega
        cases hi : intsOf ys with
        | some ns =>
          rw [hi] at e5
          cases e5
          have ei := rp.ints hi
          refine ⟨l, rfl, .inl ⟨ns, ?_, hlen _ _ ei, (Post.ext P2 E1).here S1 (.d (.int _))⟩⟩
          rw [← ei]; exact ok.hK ▸ hs
        | none =>
          rw [hi] at e5
          cases hi2 : strsOf ys with
          | some ws =>
            rw [hi2] at e5
            cases e5
            have ei := rp.strs hi2
            refine ⟨l, rfl, .inr ⟨ws, ?_, hlen _ _ ei, (Post.ext P2 E1).here S1 (.d (.int _))⟩⟩
            rw [← ei]; exact ok.hK ▸ hs
          | none => rw [hi2] at e5; cases e5
      · cases e5
end
end L2

set_option Elab.async false
set_option linter.all false
set_option autoImplicit false
set_option maxRecDepth 100000
set_option maxHeartbeats 4000000
/-! Z9j: instances of own classes: fields, methods, making, len. -/
namespace L2
open PySem PySem.Spec PyProof.Rows Z
theorem flds_look {G : Gx} {A : Addr → Prop} {ρ : List Addr} {H : Hp} {fs : List (Str × V)} {gs : List (Str × Val)} (r : Paired (FVal G A ρ H) fs gs) (f : Str) : match gs.lookup f with
    | some w => ∃ y, fs.lookup f = some y ∧ RepV G A ρ H y w
    | none => fs.lookup f = none := by
  induction r with
  | nil => rfl
  | @cons x q fs gs r t ih =>
    obtain ⟨g, y⟩ := x
    obtain ⟨g', w⟩ := q
    obtain ⟨e, rv⟩ := r
    simp only at e rv
    subst e
    by_cases hf : f = g
    · subst hf
      simp only [List.lookup, beq_self_eq_true]
      exact ⟨y, rfl, rv⟩
    · have hb : (f == g) = false := beq_eq_false_iff_ne.mpr hf
      simp only [List.lookup, hb]
      exact ih
theorem flds_some {G : Gx} {A : Addr → Prop} {ρ : List Addr} {H : Hp} {fs : List (Str × V)} {gs : List (Str × Val)} (r : Paired (FVal G A ρ H) fs gs) {f : Str} {w : Val} (e : gs.lookup f = some w) : ∃ y, fs.lookup f = some y ∧ RepV G A ρ H y w := by
  have := flds_look r f
  rw [e] at this
  exact this
theorem flds_none {G : Gx} {A : Addr → Prop} {ρ : List Addr} {H : Hp} {fs : List (Str × V)} {gs : List (Str × Val)} (r : Paired (FVal G A ρ H) fs gs) {f : Str} (e : gs.lookup f = none) : fs.lookup f = none := by
  have := flds_look r f
  rw [e] at this
  exact this
theorem flds_put {G : Gx} {A : Addr → Prop} {ρ : List Addr} {H H' : Hp} {fs : List (Str × V)} {gs : List (Str × Val)} (r : Paired (FVal G A ρ H) fs gs) (k : ∀ {x v}, RepV G A ρ H x v → RepV G A ρ H' x v) {f : Str} {y : V} {w : Val} (ry : RepV G A ρ H' y w) : Paired (FVal G A ρ H') (L2.putF f y fs) (Z.putF f w gs) := by
  induction r with
  | nil => exact .cons ⟨rfl, ry⟩ .nil
  | @cons x q fs gs r t ih =>
    obtain ⟨g, z⟩ := x
    obtain ⟨g', u⟩ := q
    obtain ⟨e, rv⟩ := r
    simp only at e rv
    subst e
    unfold L2.putF Z.putF
    by_cases hf : g = f
    · rw [if_pos hf, if_pos hf]
      exact .cons ⟨rfl, ry⟩ (Paired.mapP t fun _ _ z => ⟨z.1, k z.2⟩)
    · rw [if_neg hf, if_neg hf]
      exact .cons ⟨rfl, k rv⟩ ih
section
variable {X : Cx} {G : Gx} {W : WX} {L : Lib} {pos p apos : Pos}
/-- o.f -/
theorem se_fld {cs : List Str} {o : Ce} {eo : Expr} {f : Str} (hb : baseB eo = true) (hc : ∀ c ∈ cs, Cls X.K (G.cx c) ∧ NoAttr X.K (G.cx c) f) (ho : SE X G W L o eo) : SE X G W L (.fld cs o f) (.Attribute eo f p) :=
  (pe_fld ho (base_ok hb _ _ _)).imp fun σ H Q ⟨A, ρ, en, h, S, E, P⟩ => by
    simp only [den] at P
    refine ⟨A, ρ, en, h, S, E, P.bind.mono fun x H1 ⟨v, h1, ρ1, E1, S1, R1, P1⟩ => ?_⟩
    obtain ⟨w, e, P2⟩ := P1.lift
    cases R1 with
    | d _ => simp [fldV] at e
    | scr _ => simp [fldV] at e
    | exc _ _ => simp [fldV] at e
    | dic _ _ _ _ => simp [fldV] at e
    | @ref n a r =>
      simp only [fldV] at e
      split at e
      · rename_i c fs hc1
        split at e
        · rename_i hcs
          cases S1.cell _ _ _ hc1 r with
          | @ins _ dx gs _ q rv =>
            obtain ⟨y, hy, ry⟩ := flds_some rv e
            obtain ⟨k1, k2⟩ := hc c (List.contains_iff_mem.mp hcs)
            exact ⟨a, G.cx c, dx, gs, y, rfl, q, k1, k2, hy, P2.here S1 ry⟩
        · cases e
      · cases e
/-- o.f = e -/
theorem ss_setf {cs : List Str} {o a : Ce} {eo ea : Expr} {f : Str} (hn : noComp ea = true) (hc : ∀ c ∈ cs, Cls X.K (G.cx c) ∧ NoAttr X.K (G.cx c) f) (ho : SE X G W L o eo) (ha : SE X G W L a ea) : SS X G W L (.setf cs o f a) (.Assign [.Attribute eo f p] ea pos) :=
  (ps_fld ho ha (noComp_swaps hn _ _ _)).imp fun D σ H ⟨A, ρ, en, h, S, E, P⟩ => by
    simp only [Z.exec] at P
    refine ⟨A, ρ, en, h, S, E, (ofR_post E P).mono fun y H1 ⟨v, h1, ρ1, E1, S1, R1, P1⟩ => ⟨A, ρ1, en, h1, S1, E.ext E1, (ofR_post (E.ext E1) P1).mono fun x H2 ⟨w, h2, ρ2, E2, S2, R2, P2⟩ => ?_⟩⟩
    split at P2
    · rename_i h4 hs
      cases R2 with
      | d _ => simp [setfV] at hs
      | scr _ => simp [setfV] at hs
      | exc _ _ => simp [setfV] at hs
      | dic _ _ _ _ => simp [setfV] at hs
      | @ref n q r =>
        simp only [setfV] at hs
        split at hs
        · rename_i c fs hc1
          split at hs
          · rename_i hcs
            simp only [Bool.and_eq_true, decide_eq_true_eq] at hcs
            cases hs
            cases S2.cell _ _ _ hc1 r with
            | @ins _ dx gs _ q4 rv =>
              obtain ⟨k1, k2⟩ := hc c (List.contains_iff_mem.mp hcs.1)
              have m := List.mem_of_getElem? r
              have nf : ∀ ob u, H2 q ≠ some (.frz ob u) := fun ob u z => by rw [q4] at z; cases z
              have k := Kp.put (H := H2) (o := .ins (G.cx c) dx (L2.putF f y gs)) (A := A) m nf
              have kv : ∀ {x : V} {v : Val}, RepV G A ρ2 H2 x v → RepV G A ρ2 (upd H2 q (.ins (G.cx c) dx (L2.putF f y gs))) x v := fun z => z.re k fun _ _ z => z
              refine ⟨q, G.cx c, dx, gs, rfl, q4, k1, k2, by rw [Paired.length rv]; omega, ?_⟩
              have E3 : Ext A ρ2 H2 ρ2 (upd H2 q (.ins (G.cx c) dx (L2.putF f y gs))) := Ext.put m nf
              exact P2 ρ2 _ σ E3 (S2.putC r nf (.ins upd_same (flds_put rv kv (kv (R1.ext E2))))) (((E.ext E1).ext E2).ext E3)
          · cases hs
        · cases hs
    · exact P2.elim
/-! ### methods -/
/-- a method of the text that keeps its meaning's promise, seen from X -/
structure MethG (X : Cx) (G : Gx) (c m : Str) (n : Nat) (g : FnS) : Prop where
  ex : ∃ f fd ps k, ps.length = n ∧ FnOk X.prog X.w X.K X.mg X.base (L2.CX X.prog X.w) k f fd ps (spF G g n) ∧ Room (k + 1) X.A ∧ Cls X.K (G.cx c) ∧ Meth X.K (G.cx c) m f ∧ Binds X.K fd ps [] ∧ (m = "__init__" → Mk X.K (G.cx c) f ∧ X.mg c = some (.ref (G.cx c)))
theorem call_method {prog : Program} {w : World} {A : Around} {E : Value → Shared → Prop} {s : Shared} {env : PySem.Env} {o : Expr} {name : Str} {args : List Expr} {Q : Value → Shared → Prop}
    (hbase : attributeBase o name env (eval o env) = eval o env)
    (hfew : methodCallForm (args.length + ([] : List Keyword).length) (backTo pos (starEach args env)) (backToKw pos (keywordEach [] env)) = true) (hline : (apos.endLine == pos.line) = true)
    (h : wpAny (model prog w) A (eval o env) (fun ov s₁ => ∀ pl, wpAny (model prog w) A (getMethod ov name pl) (fun fx s₂ => wpAny (model prog w) A (callWith pos fx.1 fx.2 (backTo pos (starEach args env)) (backToKw pos (keywordEach [] env))) Q E s₂) E s₁) E s) :
    wpAny (model prog w) A (eval (.Call (.Attribute o name apos) args [] pos) env) Q E s := by
  rw [arm_eval_Call, hbase]
  refine wpAny_bind (wpAny_mono h (fun ov s₁ h₁ => ?_) fun _ _ e => e)
  refine wpAny_bind (wpAny_standAt ?_)
  have hpos : methodCallPos true o env apos pos = pure pos := by unfold methodCallPos; simp [hline]
  unfold methodCall calleeOf
  rw [hfew]
  refine wpAny_bind (wpAny_holding (wpAny_mono (h₁ _) (fun fx s₂ h₂ => ?_) fun _ _ e => e))
  exact wpAny_bind (wpAny_of_eq hpos h₂)
theorem plain_few {es : List Expr} (h : es.all plainE = true) (hn : es.length < 30) (pos : Pos) (env : PySem.Env) : methodCallForm (es.length + ([] : List Keyword).length) (backTo pos (starEach es env)) (backToKw pos (keywordEach [] env)) = true := by
  have e1 : (backTo pos (starEach es env)).all (fun x => !x.1) = true := by
    have := plain_stars h pos env
    rw [List.any_eq_false] at this
    rw [List.all_eq_true]
    intro x hx
    have := this x hx
    simpa using this
  unfold methodCallForm
  simp only [e1, Bool.true_and]
  simp [keywordEach, backToKw, hn]
def tMethS2 (C : Addr) (m : Str) (sp : Sp) (E : St → XK) (ta : TE) (t : TA) : TE := fun σ H Q => ta σ H fun x H1 => ∃ a dx fs, x = .ref a ∧ H1 a = some (.ins C dx fs) ∧ fs.lookup m = none ∧ t σ H1 fun vs H2 => sp (x :: vs) H2 Q (E σ)
theorem pe_methI {CX : CXT} {k : Nat} {C f : Addr} {fd : FuncData} {ps : List Str} {m : Str} {sp : Sp} {E : St → XK} {o e : Expr} {es : List Expr} {ta : TE} {t : TA} (he : PE X o ta) (c : Cls X.K C) (hm : Meth X.K C m f)
    (F : FnOk X.prog X.w X.K X.mg X.base CX k f fd ps sp) (hr : Room k X.A) (hb : Binds X.K fd ps []) (hx : ∀ σ, PassesAt CX X σ (E σ)) (ha : PA X (e :: es) t)
    (hbase : attributeBase o m X.env (eval o X.env) = eval o X.env) (hp : (e :: es).all plainE = true) (hn : (e :: es).length < 30) (hl : (apos.endLine == pos.line) = true) :
    PE X (.Call (.Attribute o m apos) (e :: es) [] pos) (tMethS2 C m sp E ta t) := by
  have hp' := hp
  simp only [List.all_cons, Bool.and_eq_true] at hp
  refine ⟨fun pins s σ H Q I h => ?_⟩
  refine call_method hbase (plain_few hp' hn pos X.env) hl (thn (he.run pins s σ H _ I h) fun u s1 ⟨x, H1, I1, rx, a, dx, fs, ex, ea, l, q⟩ => fun pl => ?_)
  subst ex
  obtain rfl : u = Value.ref a := rx
  refine getmeth_ok I1 ea c hm l ?_
  refine PySem.W.callWith_K (first := [.ref a]) (h₀ := X.base) I.ok.mod.kin hm.kp (thn (ha.run pos pins s1 σ H1 _ I1 q) fun us s2 ⟨vs, H2, I2, r, q2⟩ => ⟨I2.kIn, ?_⟩) (plain_star hp.1 es X.env) (plain_stars hp.2 pos X.env)
  exact run_fnS (us := .ref a :: us) (vs := .ref a :: vs) F hr hb (hx σ) I2 (.cons rfl r) q2
theorem pe_methI0 {CX : CXT} {k : Nat} {C f : Addr} {fd : FuncData} {ps : List Str} {m : Str} {sp : Sp} {E : St → XK} {o : Expr} {ta : TE} (he : PE X o ta) (c : Cls X.K C) (hm : Meth X.K C m f)
    (F : FnOk X.prog X.w X.K X.mg X.base CX k f fd ps sp) (hr : Room k X.A) (hb : Binds X.K fd ps []) (hx : ∀ σ, PassesAt CX X σ (E σ))
    (hbase : attributeBase o m X.env (eval o X.env) = eval o X.env) (hl : (apos.endLine == pos.line) = true) :
    PE X (.Call (.Attribute o m apos) [] [] pos) (tMethS2 C m sp E ta tNil) := by
  refine ⟨fun pins s σ H Q I h => ?_⟩
  refine call_method hbase (plain_few rfl (by decide) pos X.env) hl (thn (he.run pins s σ H _ I h) fun u s1 ⟨x, H1, I1, rx, a, dx, fs, ex, ea, l, q⟩ => fun pl => ?_)
  subst ex
  obtain rfl : u = Value.ref a := rx
  refine getmeth_ok I1 ea c hm l ?_
  exact PySem.W.callWith_K0 (first := [.ref a]) I1.kIn hm.kp (run_fnS (us := [.ref a]) (vs := [.ref a]) F hr hb (hx σ) I1 (.cons rfl .nil) q)
theorem meth_rep {A : Addr → Prop} {ρ : List Addr} {H : Hp} {h : MH} {c m : Str} {x : V} {v : Val} (S : Sim G A ρ h H) (r : RepV G A ρ H x v) (e : methAt h c m v = true) : ∃ a dx fs, x = .ref a ∧ H a = some (.ins (G.cx c) dx fs) ∧ fs.lookup m = none := by
  cases r with
  | d _ => simp [methAt] at e
  | scr _ => simp [methAt] at e
  | exc _ _ => simp [methAt] at e
  | dic _ _ _ _ => simp [methAt] at e
  | @ref n a r =>
    simp only [methAt] at e
    split at e
    · rename_i c' fs hc
      simp only [Bool.and_eq_true, decide_eq_true_eq] at e
      obtain ⟨e1, e2⟩ := e
      subst e1
      cases S.cell _ _ _ hc r with
      | @ins _ dx gs _ q rv => exact ⟨a, dx, gs, rfl, q, flds_none rv (Option.isNone_iff_eq_none.mp e2)⟩
    · cases e
/-- o.m(..) -/
theorem se_mcall {c m : Str} {g : FnS} {k n : Nat} {o : Ce} {eo : Expr} {es : Ces} {xs : List Expr} (tk : Takes X W) (M : MethG X G c m n g) (hb : baseB eo = true) (hline : (apos.endLine == pos.line) = true) (hl : L.fn[k]? = some g) (hn : es.len + 1 = n) (hx : xs.length = es.len) (h30 : xs.length < 30) (hp : xs.all plainE = true) (ho : SE X G W L o eo) (ha : SA X G W L es xs) :
    SE X G W L (.mcall c m k o es) (.Call (.Attribute eo m apos) xs [] pos) := by
  obtain ⟨f, fd, ps, lv, hps, F, hr, hcl, hm, hbd, _⟩ := M.ex
  have reads : ∀ (t : TA), (∀ σ H Q, tAs G W (dens L es) σ H Q → t σ H Q) → ∀ σ H Q, tE G W (den L (.mcall c m k o es)) σ H Q → tMethS2 (G.cx c) m (spF G g n) (WE W) (tE G W (den L o)) t σ H Q := fun t ht σ H Q ⟨A, ρ, en, h, S, E, P⟩ => by
    simp only [den, hl] at P
    refine ⟨A, ρ, en, h, S, E, P.bind.mono fun x H1 ⟨v, h1, ρ1, E1, S1, R1, P1⟩ => ?_⟩
    split at P1
    · rename_i hat
      obtain ⟨a, dx, fs, ex, hq, hlk⟩ := meth_rep S1 R1 hat
      subst ex
      refine ⟨a, dx, fs, rfl, hq, hlk, ht _ _ _ ⟨A, ρ1, en, h1, S1, E.ext E1, P1.bindE.mono fun vs H2 ⟨us, h2, ρ2, e, E2, S2, R2, P2⟩ => ⟨?_, A, ρ2, h2, v :: us, S2, .cons (R1.ext E2) R2, P2.wish fun c H z => z⟩⟩⟩
      rw [List.length_cons, Paired.length R2, dens_len e, hn]
    · exact P1.elim
  have room := hr.mono (Nat.le_succ lv)
  cases xs with
  | nil =>
    refine (pe_methI0 ho hcl hm F room hbd (fun σ => passAt tk σ) (base_ok hb _ _ _) hline).imp fun σ H Q q => reads tNil (fun σ H Q ⟨A, ρ, en, h, S, E, P⟩ => ?_) σ H Q q
    cases es with
    | nil =>
      simp only [dens] at P
      exact P.here S .nil
    | cons a as => simp [Ces.len] at hx
  | cons e es' => exact (pe_methI ho hcl hm F room hbd (fun σ => passAt tk σ) ha (base_ok hb _ _ _) hp h30 hline).imp (reads _ fun _ _ _ z => z)
/-! ### making -/
theorem run_makeS {CX : CXT} {k : Nat} {C f : Addr} {fd : FuncData} {ps : List Str} {sp : Sp} {E : St → XK} {pins : List (Addr × Obj)} {σ : St} {H : Hp} {s : Shared} {Q : VK} {us : List Value} {vs : List V} (M : Mk X.K C f) (F : FnOk X.prog X.w X.K X.mg X.base CX k f fd ps sp) (hr : Room (k + 1) X.A) (hb : Binds X.K fd ps [])
    (hx : PassesAt CX X σ (E σ)) (I : Inv X pins σ H s) (r : Vals vs us)
    (h : ∀ x dx, H x = none → H dx = none → dx ≠ x → sp (.ref x :: vs) (upd (upd H dx (.own x)) x (.ins C dx [])) (fun v H2 => v = .non ∧ Q (.ref x) H2) (E σ)) :
    wpAny (model X.prog X.w) X.A (call (.ref C) us) (EP X pins σ Q) X.xe s := by
  have hq := h (s.heap.objs.size + 1) s.heap.objs.size (I.hok.fresh (Nat.le_succ _)) (I.hok.fresh (Nat.le_refl _)) (Nat.ne_of_lt (Nat.lt_succ_self _))
  have I2 := Inv.made (C := C) I
  have r2 : Vals (V.ref (s.heap.objs.size + 1) :: vs) (Value.ref (s.heap.objs.size + 1) :: us) := .cons rfl r
  have hl : (Value.ref (s.heap.objs.size + 1) :: us).length = ps.length := by
    have e := r2.length
    rw [F.len _ _ _ _ hq] at e
    exact e.symm
  have b := hb _ (Value.ref (s.heap.objs.size + 1) :: us) I2.kIn (by rw [List.append_nil]; exact hl)
  rw [List.append_nil] at b
  refine wpAny_call (make_map (f := f) I.kIn M.makes M.init (beq_iff_eq.mp M.fn) (codeAny_mono (F.run _ X.stack _ _ ⟨Value.ref (s.heap.objs.size + 1) :: us, []⟩ (Value.ref (s.heap.objs.size + 1) :: us) _ _ (E σ) (hr.make C us [])
    (I2.env0.make C us []) b r2 hq) fun r s' hq' => ?_))
  cases r with
  | error e => exact hx pins _ _ e s' I2 hq'
  | ok fl =>
    cases fl with
    | ret u =>
      obtain ⟨v, H', I3, rv, ev, q3⟩ := I2.after hq'
      subst ev
      exact ⟨rv, ⟨V.ref (s.heap.objs.size + 1), H', I3, rfl, q3⟩⟩
    | next => exact False.elim hq'
    | brk => exact False.elim hq'
    | cont => exact False.elim hq'
def tMakeS (C : Addr) (sp : Sp) (E : St → XK) (t : TA) : TE := fun σ H Q => t σ H fun vs H1 => ∀ x dx, H1 x = none → H1 dx = none → dx ≠ x → sp (.ref x :: vs) (upd (upd H1 dx (.own x)) x (.ins C dx [])) (fun v H2 => v = .non ∧ Q (.ref x) H2) (E σ)
/-- c(..) -/
theorem se_make {c : Str} {g : FnS} {k n : Nat} {es : Ces} {xs : List Expr} (tk : Takes X W) (M : MethG X G c "__init__" n g) (hg : Gl X c) (hdb : (c == ("__debug__" : Str)) = false) (hl : L.fn[k]? = some g) (hn : es.len + 1 = n) (hx : xs.length = es.len) (hp : xs.all plainE = true) (ha : SA X G W L es xs) :
    SE X G W L (.make c k es) (.Call (.Name c p) xs [] pos) := by
  obtain ⟨f, fd, ps, lv, hps, F, hr, hcl, hm, hbd, hmk⟩ := M.ex
  obtain ⟨Mk_, hmg⟩ := hmk rfl
  have reads : ∀ σ H Q, tE G W (den L (.make c k es)) σ H Q → tMakeS (G.cx c) (spF G g n) (WE W) (tAs G W (dens L es)) σ H Q := fun σ H Q ⟨A, ρ, en, h, S, E, P⟩ => by
    simp only [den, hl] at P
    refine ⟨A, ρ, en, h, S, E, P.bindE.mono fun vs H1 ⟨us, h1, ρ1, e, E1, S1, R1, P1⟩ => fun x dx hx0 hd0 hne => ?_⟩
    have S2 := S1.laid (o := .own x) hd0
    have X2 : Ext A ρ1 H1 ρ1 (upd H1 dx (.own x)) := Ext.laid hd0
    have hx1 : (upd H1 dx (.own x)) x = none := by rw [upd_ne (Ne.symm hne)]; exact hx0
    have S3 := S2.pushC (c := .ins c []) (o := .ins (G.cx c) dx []) hx1 (.ins upd_same .nil)
    have X3 : Ext A ρ1 (upd H1 dx (.own x)) (ρ1 ++ [x]) (upd (upd H1 dx (.own x)) x (.ins (G.cx c) dx [])) := Ext.push hx1
    have hr' : (ρ1 ++ [x])[h1.length]? = some x := by rw [← S1.len, List.getElem?_append_right (Nat.le_refl _)]; simp
    refine ⟨?_, A, ρ1 ++ [x], h1 ++ [.ins c []], .ref h1.length :: us, S3, .cons (.ref hr') (RepVs.ext (X2.trans X3) R1), ?_⟩
    · rw [List.length_cons, Paired.length R1, dens_len e, hn]
    · revert P1
      cases hgv : g (.ref h1.length :: us) (h1 ++ [.ins c []]) with
      | bad => exact fun P1 => P1
      | exc cc h2 => exact fun P1 ρ' H' E' S' => P1 ρ' H' ((X2.trans X3).trans E') S'
      | ok v h2 =>
        intro P1 ρ' H' y E' S' R'
        simp only [Res.bind_ok] at P1
        split at P1
        · rename_i hv
          have ey : y = .non := by
            cases v <;> first | (simp [noneD] at hv; done) | skip
            rename_i d
            cases d <;> first | (simp [noneD] at hv; done) | skip
            cases R' with
            | d r => exact r.scal_non
          exact ⟨ey, P1 ρ' H' (.ref x) ((X2.trans X3).trans E') S' (.ref (E'.pre _ _ hr'))⟩
        · exact P1.elim
  cases xs with
  | nil =>
    refine PE.imp (t := tMakeS (G.cx c) (spF G g n) (WE W) tNil) ⟨fun pins s σ H Q I h => ?_⟩ fun σ H Q q => ?_
    · refine wpAny_Call_Name_kw (ld_glob I hg hmg ?_ hdb)
      exact PySem.W.callWith_K0 I.kIn Mk_.kp (run_makeS (us := []) Mk_ F hr hbd (passAt tk σ) I .nil h)
    · obtain ⟨A, ρ, en, h, S, E, P⟩ := reads σ H Q q
      cases es with
      | nil =>
        simp only [dens] at P
        exact P.here S .nil
      | cons a as => simp [Ces.len] at hx
  | cons e es' =>
    simp only [List.all_cons, Bool.and_eq_true] at hp
    refine PE.imp (t := tMakeS (G.cx c) (spF G g n) (WE W) (tAs G W (dens L es))) ⟨fun pins s σ H Q I h => ?_⟩ reads
    refine wpAny_Call_Name_kw (ld_glob I hg hmg ?_ hdb)
    refine PySem.W.callWith_K (h₀ := X.base) I.ok.mod.kin Mk_.kp (thn (ha.run pos pins s σ H _ I h) fun us s1 ⟨vs, H1, I1, r, q⟩ => ⟨I1.kIn, ?_⟩) (plain_star hp.1 es' X.env) (plain_stars hp.2 pos X.env)
    exact run_makeS Mk_ F hr hbd (passAt tk σ) I1 r q
/-! ### len -/
theorem special_py {prog : Program} {w : World} {A : Around} {E : Value → Shared → Prop} {s : Shared} {K : PySem.W.Frag} {a C f : Addr} {ox : Obj} {od : Option Obj} {name : Str} {args : List Value} {Q : Option Value → Shared → Prop} (Y : K.In s.heap) (I : PySem.W.InstAt s.heap a ox C od) (hf : PySem.W.findIn K (.ref C) name = some (some (.ref f))) (ht : PySem.W.typeIn K (.ref f) = some (.type "function"))
    (hc : wpAny (model prog w) A (call (.ref f) (.ref a :: args)) (fun v s' => Q (some v) s') E s) : wpAny (model prog w) A (callSpecial? (.ref a) name args) Q E s := by
  unfold callSpecial? specialOf
  refine wpAny_bind (wpAny_bind (I.type.here ((PySem.W.looks_findIn Y hf).here ?_)))
  refine wpAny_holding ?_
  refine wpAny_bind ((PySem.W.bind_fn Y (.ref a) ht).here ?_)
  exact wpAny_bind (wpAny_mono hc (fun v s' h => wpAny_pure h) fun _ _ z => z)
def rLenI (G : Gx) (c : Str) (sp : Sp) : List V → Hp → VK → Prop := fun xs H Q => ∃ a dx fs, xs = [.ref a] ∧ H a = some (.ins (G.cx c) dx fs) ∧ sp [.ref a] H (fun v H1 => ∃ n : Int, v = .int n ∧ 0 ≤ n ∧ n < 2 ^ 63 ∧ Q v H1) (fun _ _ _ => False)
theorem call_lenI {c : Str} {k : Nat} {f : Addr} {fd : FuncData} {ps : List Str} {sp : Sp} (F : FnOk X.prog X.w X.K X.mg X.base (L2.CX X.prog X.w) k f fd ps sp) (hr : Room (k + 1) X.A) (hm : Meth X.K (G.cx c) "__len__" f) (hb : Binds X.K fd ps []) : CallR X (.builtin "len") (rLenI G c sp) := by
  intro pins s σ H xs us Q I r h
  obtain ⟨a, dx, fs, rfl, ha, hsp⟩ := h
  obtain ⟨u, rfl, ru⟩ := vals1 r
  obtain rfl : u = Value.ref a := ru
  obtain ⟨mA, O, _, _, _, _⟩ := ins_get I.hok ha
  obtain ⟨od, J, _⟩ := O.look
  refine Calls.call_function_entry kind_len plain_len entry_len (args_len1 _) ?_
  unfold Builtin.«len»
  refine wpAny_bind (m := oneArg "len" _) (wpAny_pure ?_)
  refine wpAny_bind (m := callSpecial? (.ref a) (Str.ofString "__len__")) (special_py I.kIn J hm.at_ (beq_iff_eq.mp hm.fn) ?_)
  have b := hb s [Value.ref a] I.kIn (by rw [List.append_nil]; exact (F.len _ _ _ _ hsp))
  rw [List.append_nil] at b
  refine wpAny_call (codeAny_mono (F.run X.A.in1 X.stack s H ⟨[.ref a], []⟩ [.ref a] [.ref a] _ _ hr.in1 I.env0.in1 b (.cons rfl .nil) hsp) fun r s' hq => ?_)
  cases r with
  | error e =>
    exact passAt (X := X) (W := fun _ _ _ _ => False) takes0 σ pins H s e s' I hq
  | ok fl =>
    cases fl with
    | ret v =>
      obtain ⟨y, H', I3, rv, n, en, h0, h1, q3⟩ := I.after hq
      subst en
      obtain ⟨t, rfl⟩ := (show ∃ t, v = Value.int n t from rv)
      refine wpAny_bind (wpAny_holding (wpAny_pure ?_))
      refine wpAny_bind (wpAny_letGo ?_)
      show wpAny _ _ (if n < 0 then _ else _) _ _ _
      rw [if_neg (by omega)]
      show wpAny _ _ (if n ≥ 2 ^ 63 then _ else _) _ _ _
      rw [if_neg (by omega)]
      exact wpAny_bind (wpAny_mkInt (wpAny_pure ⟨_, rfl, .int n, H', I3.tok _, ⟨_, rfl⟩, q3⟩))
    | next => exact False.elim hq
    | brk => exact False.elim hq
    | cont => exact False.elim hq
/-- len(o) by its class -/
theorem se_lenc {c : Str} {g : FnS} {k : Nat} {o : Ce} {eo : Expr} (M : MethG X G c "__len__" 1 g) (hg : Gl X "len") (hmn : X.mg "len" = none) (hl : L.fn[k]? = some g) (hp : plainE eo = true) (ho : SE X G W L o eo) : SE X G W L (.lenc c k o) (.Call (.Name "len" p) [eo] [] pos) := by
  obtain ⟨f, fd, ps, lv, hps, F, hr, hcl, hm, hbd, _⟩ := M.ex
  refine (pe_callB (call_lenI F hr hm hbd) hg hmn boot_len (pa_cons ho pa_nil (plain_star hp [] X.env)) (by decide) (by decide) (plain_star hp [] X.env) (plain_stars rfl pos X.env)).imp fun σ H Q ⟨A, ρ, en, h, S, E, P⟩ => ?_
  simp only [den, hl] at P
  refine ⟨A, ρ, en, h, S, E, P.bind.mono fun x H1 ⟨v, h1, ρ1, E1, S1, R1, P1⟩ => ?_⟩
  split at P1
  · rename_i hat
    obtain ⟨a, dx, fs, ex, hq, hlk⟩ := meth_rep S1 R1 hat
    subst ex
    refine ⟨a, dx, fs, rfl, hq, rfl, A, ρ1, h1, [v], S1, .cons R1 .nil, ?_⟩
    revert P1
    cases hgv : g [v] h1 with
    | bad => exact fun P1 => P1
    | exc cc h2 => exact fun P1 => P1.elim
    | ok w h2 =>
      intro P1 ρ' H' y E' S' R'
      simp only at P1
      split at P1
      · rename_i hv
        cases w <;> first | (simp [lenR] at hv; done) | skip
        rename_i d
        cases d <;> first | (simp [lenR] at hv; done) | skip
        rename_i n
        simp only [lenR, Bool.and_eq_true, decide_eq_true_eq] at hv
        have ey : y = .int n := by
          cases R' with
          | d r => exact r.scal_int
        exact ⟨n, ey, hv.1, hv.2, P1 ρ' H' y E' S' R'⟩
      · exact P1.elim
  · exact P1.elim
end
end L2

set_option Elab.async false
set_option linter.all false
set_option autoImplicit false
set_option maxRecDepth 100000
set_option maxHeartbeats 4000000
/-! ZA: does a core term say what a piece of a text says? -/
namespace L2
open PySem PySem.Spec PyProof.Rows Z

structure Gam where
  N : List Str
  sc : Scope
  fnc : Str → Bool
  gl : List Str
  fn : List (Str × Nat)
  ex : List Str
  cl : List Str := []
  sub : List (Str × Str × Bool) := []
  exm : List (Str × Str) := []
  tr : Bool := false
  kl : List Str := []
  na : List (Str × Str) := []
  ms : List (Str × Str × Nat) := []
/-- the k-th def is the class's method of so many parameters -/
def msB (Γ : Gam) (k : Nat) (c m : Str) (n : Nat) : Bool := decide (Γ.fn.length ≤ k) && (match Γ.ms[k - Γ.fn.length]? with
  | some (c', m', n') => decide (c' = c) && (decide (m' = m) && decide (n' = n))
  | none => false)
def kindB (Γ : Gam) (x : Str) : Option NameKind := Γ.sc.names.lookup x
def visB (Γ : Gam) (x : Str) : Bool := match kindB Γ x with
  | some .local | some .cell | some .free => true
  | _ => false
def locB (Γ : Gam) (x : Str) : Bool := match kindB Γ x with
  | some .local => true
  | some .cell => Γ.fnc x
  | _ => false
def glB (Γ : Gam) (x : Str) : Bool := (match kindB Γ x with
  | some .globalImplicit => true
  | _ => false) && !(x == ("__debug__" : Str))
def atB (Γ : Gam) (i : Nat) (x : Str) : Bool := match Γ.N[i]? with
  | some y => decide (y = x)
  | none => false
def copB : Cop → CmpOp → Bool
  | .eq, .Eq | .ne, .NotEq | .lt, .Lt | .le, .LtE | .gt, .Gt | .ge, .GtE | .isin, .In | .notin, .NotIn | .is_, .Is | .isnot, .IsNot => true
  | _, _ => false
def bopB : Bop → Operator → Bool
  | .add, .Add | .sub, .Sub | .mul, .Mult | .fdiv, .FloorDiv | .mod, .Mod | .pow, .Pow => true
  | _, _ => false
theorem copB_eq {o : Cop} {p : CmpOp} (h : copB o p = true) : p = copOf o := by
  cases o <;> cases p <;> first | rfl | (simp [copB] at h)
theorem bopB_eq {o : Bop} {p : Operator} (h : bopB o p = true) : p = opOf o := by
  cases o <;> cases p <;> first | rfl | (simp [bopB] at h)
def bltName : Bfn → Str
  | .len => "len" | .list => "list" | .tuple => "tuple" | .all => "all" | .any => "any" | .sum => "sum" | .max => "max" | .min => "min" | .min2 => "min" | .sorted => "sorted" | _ => ""
def bltB : Bfn → Bool
  | .len | .list | .tuple | .all | .any | .sum | .max | .min | .min2 | .sorted => true
  | _ => false
def bltNames : List Str := ["len", "list", "tuple", "all", "any", "sum", "max", "min", "isinstance", "range", "enumerate", "zip", "int", "bool", "str", "set", "sorted", "dict", "ValueError"]
def chkTg (Γ : Gam) : Ct → Expr → Bool
  | .name i, e => match e with
    | .Name x _ => atB Γ i x && locB Γ x
    | _ => false
  | .pair a b, e => match e with
    | .Tuple [x, y] _ _ => chkTg Γ a x && chkTg Γ b y
    | _ => false
  | .tri a b c, e => match e with
    | .Tuple [x, y, z] _ _ => chkTg Γ a x && chkTg Γ b y && chkTg Γ c z
    | _ => false
def chkTgs (Γ : Gam) : List Ct → List Expr → Bool
  | [], es => es.isEmpty
  | t :: ts, es => match es with
    | e :: es => chkTg Γ t e && chkTgs Γ ts es
    | [] => false
def ownOf (Γ : Gam) (own : List Nat) : List (Str × Nat) := own.map fun i => (Γ.N.getD i Str.empty, i)
theorem ownOf_snd (Γ : Gam) (own : List Nat) : (ownOf Γ own).map (·.2) = own := by
  simp [ownOf, Function.comp_def]
def inBlk (Γ : Gam) (scope : Scope) : Gam := { Γ with sc := relS scope Γ.sc, fnc := fun x => scope.names.lookup x == some .cell, tr := false }
def isTuple : Expr → Bool
  | .Tuple .. => true
  | _ => false
def isCmp0 : Expr → Bool
  | .Compare .. | .BoolOp .. | .IfExp .. => true
  | .UnaryOp .Not _ _ => true
  | _ => false
/-- a slice's part -/
def chkOp (c : Ce) (f : Expr → Bool) (e : Option Expr) : Bool := match e with
  | none => (match c with
    | .no => true
    | _ => false)
  | some e => f e
/-- a display's keys -/
def chkK : List Str → List (Option Expr) → Bool
  | [], es => es.isEmpty
  | k :: ks, es => match es with
    | some (.Constant (.str x) _ _) :: es => decide (k = x) && chkK ks es
    | _ => false
def isLs : Bfn → Bool
  | .lenset => true
  | _ => false
def isVs : Bfn → Bool
  | .sumvals | .sortedvals => true
  | _ => false
def vsName : Bfn → Str
  | .sumvals => "sum"
  | _ => "sorted"
mutual
def chk (Γ : Gam) : Ce → Expr → Bool
  | .var i, e => match e with
    | .Name x _ => atB Γ i x && visB Γ x && !(x == ("__debug__" : Str)) && !(x == ("__classdict__" : Str))
    | _ => false
  | .none, e => match e with
    | .Constant .none _ _ => true
    | _ => false
  | .bool b, e => match e with
    | .Constant (.bool c) _ _ => decide (b = c)
    | _ => false
  | .int b, e => match e with
    | .Constant (.int c) _ _ => decide (b = c)
    | _ => false
  | .str b, e => match e with
    | .Constant (.str c) _ _ => decide (b = c)
    | _ => false
  | .glob k, e => match e with
    | .Name x _ => glB Γ x && (match Γ.gl[k]? with
      | some y => decide (y = x)
      | none => false)
    | _ => false
  | .tup es, e => match e with
    | .Tuple xs _ _ => chks Γ es xs
    | _ => false
  | .lst es, e => match e with
    | .List xs _ => chks Γ es xs
    | _ => false
  | .alloc a, e => chkF Γ a e
  | .lstR es, e => match e with
    | .List xs _ => chks Γ es xs
    | _ => false
  | .dict ks es, e => match e with
    | .Dict keys xs _ => !keys.isEmpty && decide (keys.length ≤ 15) && chkK ks keys && chks Γ es xs && decide (ks.length = es.len)
    | _ => false
  | .bin o a b, e => match e with
    | .BinOp x op y _ => bopB o op && chk Γ a x && chk Γ b y
    | _ => false
  | .neg a, e => match e with
    | .UnaryOp .USub x _ => chk Γ a x
    | _ => false
  | .cmp o a b, e => match e with
    | .Compare x [op] [y] _ => copB o op && chk Γ a x && chk Γ b y && plainE y
    | _ => false
  | .cmp2 a b c, e => match e with
    | .Compare x [.LtE, .LtE] [y, z] _ => chk Γ a x && chk Γ b y && chk Γ c z && plainE z
    | _ => false
  | .and es, e => match e with
    | .BoolOp .And xs _ => chkAll Γ es xs
    | _ => false
  | .or es, e => match e with
    | .BoolOp .Or xs _ => chkAll Γ es xs
    | _ => false
  | .not a, e => match e with
    | .UnaryOp .Not x _ => chk Γ a x
    | _ => false
  | .ite c a b, e => match e with
    | .IfExp x y z _ => chk Γ c x && chk Γ a y && chk Γ b z
    | _ => false
  | .ix a i, e => match e with
    | .Subscript x y _ => chk Γ a x && chk Γ i y && plainE y
    | _ => false
  | .sl a lo hi, e => match e with
    | .Subscript x (.Slice l h none _) _ => chk Γ a x && chkOp lo (chk Γ lo) l && chkOp hi (chk Γ hi) h
    | _ => false
  | .no, _ => false
  | .rev a, e => match e with
    | .Subscript x (.Slice none none (some (.UnaryOp .USub (.Constant (.int 1) _ _) _)) _) _ => chk Γ a x
    | _ => false
  | .call k es, e => match e with
    | .Call (.Name x _) xs [] _ => glB Γ x && chks Γ es xs && (match Γ.fn[k]? with
      | some (y, n) => decide (y = x) && decide (xs.length = n)
      | none => false)
    | _ => false
  | .blt b es, e => if isiB b then (match es with
    | .cons a .nil => (match e with
      | .Call (.Name f _) [x, .Name y _] [] _ => decide (f = ("isinstance" : Str)) && glB Γ f && glB Γ y && decide (y = (tyN b : Str)) && chk Γ a x && plainE x
      | _ => false)
    | _ => false) else if isLs b then (match es with
    | .cons a .nil => (match e with
      | .Call (.Name f _) [.Call (.Name g _) [x] [] _] [] _ => decide (f = ("len" : Str)) && decide (g = ("set" : Str)) && glB Γ f && glB Γ g && chk Γ a x && plainE x
      | _ => false)
    | _ => false) else if isVs b then (match es with
    | .cons a .nil => (match e with
      | .Call (.Name f _) [.Call (.Attribute x m apos) [] [] mpos] [] _ => decide (f = vsName b) && decide (m = ("values" : Str)) && glB Γ f && baseB x && (apos.endLine == mpos.line) && chk Γ a x
      | _ => false)
    | _ => false) else (match e with
      | .Call (.Name f _) (x :: xs) [] _ => decide (f = bltName b) && glB Γ f && bltB b && chks Γ es (x :: xs)
      | _ => false)
  | .mth m o es, e => match m, es with
    | .get2, .cons a (.cons b .nil) => (match e with
      | .Call (.Attribute x f apos) [y, z] [] pos => decide (f = ("get" : Str)) && baseB x && (apos.endLine == pos.line) && chk Γ o x && chk Γ a y && chk Γ b z && plainE y && plainE z
      | _ => false)
    | .index, .cons a .nil => (match e with
      | .Call (.Attribute x f apos) [y] [] pos => decide (f = ("index" : Str)) && baseB x && (apos.endLine == pos.line) && chk Γ o x && chk Γ a y && plainE y
      | _ => false)
    | .count, .cons a .nil => (match e with
      | .Call (.Attribute x f apos) [y] [] pos => decide (f = ("count" : Str)) && baseB x && (apos.endLine == pos.line) && chk Γ o x && chk Γ a y && plainE y
      | _ => false)
    | _, _ => false
  | .mst m o es, e => match m, es with
    | .append, .cons a .nil => (match e with
      | .Call (.Attribute x f apos) [y] [] pos => decide (f = ("append" : Str)) && baseB x && (apos.endLine == pos.line) && chk Γ o x && chk Γ a y && plainE y
      | _ => false)
    | .pop, .nil => (match e with
      | .Call (.Attribute x f apos) [] [] pos => decide (f = ("pop" : Str)) && baseB x && (apos.endLine == pos.line) && chk Γ o x
      | _ => false)
    | .setdef, .cons a (.cons b .nil) => (match e with
      | .Call (.Attribute x f apos) [y, z] [] pos => decide (f = ("setdefault" : Str)) && baseB x && (apos.endLine == pos.line) && chk Γ o x && chk Γ a y && chk Γ b z && plainE y && plainE z
      | _ => false)
    | _, _ => false
  | .comp t src c a own, e => match e with
    | .ListComp elt [⟨tg, iter, ifs, k⟩] scope _ => decide (k = 0) && chkI Γ src iter (isTuple tg) && blkC Γ.N Γ.sc scope (ownOf Γ own) && ((tG.slotsT t).all fun i => own.contains i) && chkTg (inBlk Γ scope) t tg && chkC (inBlk Γ scope) c ifs && chk (inBlk Γ scope) a elt
    | _ => false
  | .compR t src c a own, e => match e with
    | .ListComp elt [⟨tg, iter, ifs, k⟩] scope _ => decide (k = 0) && chkI Γ src iter (isTuple tg) && blkC Γ.N Γ.sc scope (ownOf Γ own) && ((tG.slotsT t).all fun i => own.contains i) && chkTg (inBlk Γ scope) t tg && chkC (inBlk Γ scope) c ifs && chk (inBlk Γ scope) a elt
    | _ => false
  | .tupR es, e => match e with
    | .Tuple xs _ _ => chks Γ es xs
    | _ => false
  | .dictR ks vs, e => match ks, vs with
    | .nil, .nil => (match e with
      | .Dict [] [] _ => true
      | _ => false)
    | .cons a .nil, .cons b .nil => (match e with
      | .Dict [some x] [y] _ => chk Γ a x && chk Γ b y
      | _ => false)
    | _, _ => false
  | .isx a y tab, e => match e with
    | .Call (.Name f _) [x, .Name z _] [] _ => decide (f = ("isinstance" : Str)) && decide (z = y) && glB Γ f && glB Γ z && (decide (z = ("ValueError" : Str)) || Γ.cl.contains z) && tab.all (fun q => Γ.sub.contains (q.1, y, q.2)) && chk Γ a x && plainE x
    | _ => false
  | .fld cs o f, e => match e with
    | .Attribute x g _ => decide (g = f) && baseB x && cs.all (fun c => Γ.kl.contains c && Γ.na.contains (c, f)) && chk Γ o x
    | _ => false
  | .lenc c k o, e => match e with
    | .Call (.Name f _) [x] [] _ => decide (f = ("len" : Str)) && glB Γ f && msB Γ k c "__len__" 1 && chk Γ o x && plainE x
    | _ => false
  | .mcall c m k o es, e => match e with
    | .Call (.Attribute x g apos) xs [] pos => decide (g = m) && baseB x && (apos.endLine == pos.line) && msB Γ k c m (xs.length + 1) && decide (xs.length < 30) && chk Γ o x && chks Γ es xs
    | _ => false
  | .make c k es, e => match e with
    | .Call (.Name x _) xs [] _ => decide (x = c) && glB Γ x && msB Γ k c "__init__" (xs.length + 1) && chks Γ es xs
    | _ => false
  | .lock a, e => match e with
    | .Name _ _ => chk Γ a e
    | _ => false
termination_by structural x => x
def chkF (Γ : Gam) : Ce → Expr → Bool
  | .lst es, e => match e with
    | .List xs _ => chks Γ es xs
    | _ => false
  | .comp t src c a own, e => match e with
    | .ListComp elt [⟨tg, iter, ifs, k⟩] scope _ => decide (k = 0) && chkI Γ src iter (isTuple tg) && blkC Γ.N Γ.sc scope (ownOf Γ own) && ((tG.slotsT t).all fun i => own.contains i) && chkTg (inBlk Γ scope) t tg && chkC (inBlk Γ scope) c ifs && chk (inBlk Γ scope) a elt
    | _ => false
  | .bin .add a b, e => match e with
    | .BinOp x .Add y _ => chk Γ a x && chk Γ b y
    | _ => false
  | .blt .list es, e => match e with
    | .Call (.Name f _) (x :: xs) [] _ => decide (f = ("list" : Str)) && glB Γ f && chks Γ es (x :: xs)
    | _ => false
  | _, _ => false
termination_by structural x => x
def chks (Γ : Gam) : Ces → List Expr → Bool
  | .nil, es => es.isEmpty
  | .cons a as, es => match es with
    | e :: es => chk Γ a e && chks Γ as es && plainE e
    | [] => false
termination_by structural x => x
/-- the parts of an and, an or: one at least -/
def chkAll (Γ : Gam) : Ces → List Expr → Bool
  | .nil, _ => false
  | .cons a as, es => match es with
    | [] => false
    | e :: es => chk Γ a e && (match as with
      | .nil => es.isEmpty
      | .cons _ _ => chkAll Γ as es)
termination_by structural x => x
def chkC (Γ : Gam) : Ces → List Expr → Bool
  | .nil, es => es.isEmpty
  | .cons a as, es => match as, es with
    | .nil, [e] => chk Γ a e
    | _, _ => false
termination_by structural x => x
def chkI (Γ : Gam) : Ci → Expr → Bool → Bool
  | .seq a, e, _ => chk Γ a e && plainE e
  | .range1 a, e, _ => match e with
    | .Call (.Name f _) [x] [] _ => decide (f = ("range" : Str)) && glB Γ f && chk Γ a x && plainE x
    | _ => false
  | .range2 a b, e, _ => match e with
    | .Call (.Name f _) [x, y] [] _ => decide (f = ("range" : Str)) && glB Γ f && chk Γ a x && chk Γ b y && plainE x && plainE y
    | _ => false
  | .enum a, e, tt => match e with
    | .Call (.Name f _) [x] [] _ => tt && decide (f = ("enumerate" : Str)) && glB Γ f && chk Γ a x && plainE x
    | _ => false
  | .zip a b, e, tt => match e with
    | .Call (.Name f _) [x, y] [] _ => tt && decide (f = ("zip" : Str)) && glB Γ f && chk Γ a x && chk Γ b y && plainE x && plainE y
    | _ => false
  | .ezip a b, e, tt => match e with
    | .Call (.Name g _) [.Call (.Name f _) [x, y] [] _] [] _ => tt && decide (g = ("enumerate" : Str)) && glB Γ g && decide (f = ("zip" : Str)) && glB Γ f && chk Γ a x && chk Γ b y && plainE x && plainE y
    | _ => false
termination_by structural x => x
end
def chkO (Γ : Gam) (c : Ce) (e : Option Expr) : Bool := chkOp c (chk Γ c) e
/-- a text's piece as X sees it -/
structure Ctx (X : Cx) (G : Gx) (W : WX) (L : Lib) (Γ : Gam) : Prop where
  ok : Okx X G W
  N : X.N = Γ.N
  sc : X.env.scope = Γ.sc
  fnc : ∀ x, Γ.fnc x = true → X.fn x = true
  gl : ∀ (k : Nat) x, Γ.gl[k]? = some x → ∃ u v d, L.gl[k]? = some d ∧ X.mg x = some u ∧ RelV v u ∧ ∀ A H, Rp G A H v d
  fn : ∀ (k : Nat) x n, Γ.fn[k]? = some (x, n) → ∃ g, L.fn[k]? = some g ∧ CallG X G x n g
  blt : ∀ x, x ∈ bltNames → X.mg x = none
  ex : ∀ x, x ∈ Γ.ex → ∃ (C : Addr) (bmB : List Value) (B newId initId : String), ExcBaseFacts B newId initId bmB ∧ PySem.W.excIn X.K C bmB newId = true ∧ X.mg x = some (.ref C) ∧ PySem.W.keepIn X.K (.ref C) = true ∧ Raises X (.ref C) ∧ G.cx x = C
  tk : Takes X W
  hpo : PassesOwn (model X.prog X.w) X.A X.env X.xe
  cl : ∀ y, y ∈ Γ.cl → X.mg y = some (.ref (G.cx y)) ∧ y ≠ ("ValueError" : Str)
  sub : ∀ q, q ∈ Γ.sub → ExcC X.K (G.cx q.1) ∧ PySem.W.kitOne X.K (.ref (G.cx q.1)) (clsV G q.2.1) = some q.2.2
  exm : ∀ q, q ∈ Γ.exm → PySem.W.exmOne X.K (.ref (G.cx q.1)) (.ref (G.cx q.2)) = some true
  try_ : Γ.tr = true → X.ex = [] ∧ X.stack = X.env :: X.outer ∧ X.env.frame = some X.env.locals
  kl : ∀ y, y ∈ Γ.kl → Cls X.K (G.cx y)
  na : ∀ q, q ∈ Γ.na → NoAttr X.K (G.cx q.1) q.2
  ms : ∀ (j : Nat) y m n, Γ.ms[j]? = some (y, m, n) → ∃ g, L.fn[Γ.fn.length + j]? = some g ∧ MethG X G y m n g
section
variable {X : Cx} {G : Gx} {W : WX} {L : Lib} {Γ : Gam}
theorem Ctx.vis (c : Ctx X G W L Γ) {x : Str} (h : visB Γ x = true) : Vis X.env.scope x := by
  unfold visB kindB at h
  unfold Vis
  rw [c.sc]
  split at h <;> first | (rename_i q; simp [q]; done) | cases h
theorem Ctx.loc (c : Ctx X G W L Γ) {x : Str} (h : locB Γ x = true) : Loc X.env.scope x ∧ (X.fn x = true ∨ X.env.scope.names.lookup x = some .local) := by
  unfold locB kindB at h
  unfold Loc
  rw [c.sc]
  split at h
  · rename_i q; exact ⟨.inl q, .inr q⟩
  · rename_i q; exact ⟨.inr q, .inl (c.fnc x h)⟩
  · cases h
theorem Ctx.glo (c : Ctx X G W L Γ) {x : Str} (h : glB Γ x = true) : Gl X x ∧ (x == ("__debug__" : Str)) = false := by
  unfold glB kindB at h
  simp only [Bool.and_eq_true, Bool.not_eq_true'] at h
  refine ⟨?_, h.2⟩
  unfold Gl PySem.Env.kindOf
  rw [c.sc]
  have h1 := h.1
  split at h1
  · assumption
  · cases h1
theorem Ctx.meth (c : Ctx X G W L Γ) {k n : Nat} {y m : Str} (h : msB Γ k y m n = true) : ∃ g, L.fn[k]? = some g ∧ MethG X G y m n g := by
  unfold msB at h
  simp only [Bool.and_eq_true, decide_eq_true_eq] at h
  have h2 := h.2
  split at h2
  · rename_i y' m' n' hq
    simp only [Bool.and_eq_true, decide_eq_true_eq] at h2
    obtain ⟨e1, e2, e3⟩ := h2
    subst e1 e2 e3
    obtain ⟨g, q1, q2⟩ := c.ms _ _ _ _ hq
    rw [show Γ.fn.length + (k - Γ.fn.length) = k by omega] at q1
    exact ⟨g, q1, q2⟩
  · cases h2
theorem Ctx.flds (c : Ctx X G W L Γ) {cs : List Str} {f : Str} (h : cs.all (fun y => Γ.kl.contains y && Γ.na.contains (y, f)) = true) : ∀ y ∈ cs, Cls X.K (G.cx y) ∧ NoAttr X.K (G.cx y) f := fun y hy => by
  have := List.all_eq_true.mp h y hy
  simp only [Bool.and_eq_true] at this
  exact ⟨c.kl y (List.contains_iff_mem.mp this.1), c.na (y, f) (List.contains_iff_mem.mp this.2)⟩
theorem Ctx.at_ (c : Ctx X G W L Γ) {i : Nat} {x : Str} (h : atB Γ i x = true) : X.N[i]? = some x := by
  unfold atB at h
  rw [c.N]
  split at h
  · rename_i y hy; rw [hy, of_decide_eq_true h]
  · cases h
/-- in a comprehension's block -/
theorem Ctx.blk (c : Ctx X G W L Γ) {scope : Scope} {s : Shared} {H : Hp} {C : Addr} {cl : List (Str × Addr)} {fp : List Addr} : Ctx (X.blk s H scope (compEnvC scope cl C X.env) fp) G W0 L (inBlk Γ scope) where
  ok := ⟨c.ok.hK, c.ok.hw, c.ok.nd, c.ok.calm, c.ok.hu, c.ok.hu2⟩
  N := c.N
  sc := by
    show relS scope X.env.scope = relS scope Γ.sc
    rw [c.sc]
  fnc := fun x h => h
  gl := c.gl
  fn := fun k x n h => by
    obtain ⟨g, h1, h2⟩ := c.fn k x n h
    exact ⟨g, h1, ⟨h2.ex⟩⟩
  blt := c.blt
  ex := fun x h => by
    obtain ⟨C, bmB, B, nI, iI, h1, h2, h3, h4, h5, h6⟩ := c.ex x h
    exact ⟨C, bmB, B, nI, iI, h1, h2, h3, h4, h5, h6⟩
  tk := takes0
  hpo := PassesOwn.never
  cl := c.cl
  sub := c.sub
  exm := c.exm
  try_ := fun h => by cases h
  kl := c.kl
  na := c.na
  ms := fun k x m n h => by
    obtain ⟨g, h1, h2⟩ := c.ms k x m n h
    exact ⟨g, h1, ⟨h2.ex⟩⟩
/-- in a try's body -/
theorem Ctx.tr (c : Ctx X G W L Γ) {W' : WX} {pn : List (Addr × Obj)} {xe : Value → Shared → Prop} (tk : Takes (X.tr pn xe) W') (po : PassesOwn (model X.prog X.w) X.A X.env xe) : Ctx (X.tr pn xe) G W' L { Γ with tr := false } where
  ok := ⟨c.ok.hK, c.ok.hw, c.ok.nd, c.ok.calm, c.ok.hu, c.ok.hu2⟩
  N := c.N
  sc := c.sc
  fnc := c.fnc
  gl := c.gl
  fn := fun k x n h => by
    obtain ⟨g, h1, h2⟩ := c.fn k x n h
    exact ⟨g, h1, ⟨h2.ex⟩⟩
  blt := c.blt
  ex := fun x h => by
    obtain ⟨C, bmB, B, nI, iI, h1, h2, h3, h4, h5, h6⟩ := c.ex x h
    exact ⟨C, bmB, B, nI, iI, h1, h2, h3, h4, h5, h6⟩
  tk := tk
  hpo := po
  cl := c.cl
  sub := c.sub
  exm := c.exm
  try_ := fun h => by cases h
  kl := c.kl
  na := c.na
  ms := fun k x m n h => by
    obtain ⟨g, h1, h2⟩ := c.ms k x m n h
    exact ⟨g, h1, ⟨h2.ex⟩⟩
theorem tgt_each {e : Expr} (h : ∀ v p, e ≠ .Starred v p) (es : List Expr) (env : PySem.Env) : assignEach (e :: es) env = (false, assign e env) :: assignEach es env := by
  cases e <;> first | rfl | exact absurd rfl (h _ _)
theorem chkTg_star {t : Ct} {e : Expr} (h : chkTg Γ t e = true) : ∀ v p, e ≠ .Starred v p := by
  intro v p q
  subst q
  cases t <;> simp [chkTg] at h
theorem chkTg_sound (c : Ctx X G W L Γ) : ∀ {t : Ct} {e : Expr}, chkTg Γ t e = true → PG X e (tG G t)
  | .name i, e, h => by
    unfold chkTg at h
    split at h
    · simp only [Bool.and_eq_true] at h
      have ⟨h1, h2⟩ := c.loc h.2
      exact sg_name c.ok.nd (c.at_ h.1) h1 h2
    · cases h
  | .pair a b, e, h => by
    unfold chkTg at h
    split at h
    · simp only [Bool.and_eq_true] at h
      have sa := chkTg_star h.1
      have sb := chkTg_star h.2
      refine sg_tup (ts := [a, b]) c.ok.hK c.ok.calm (sgs_cons (chkTg_sound c h.1) (sgs_cons (chkTg_sound c h.2) sgs_nil (by rw [tgt_each sb]; rfl)) (by rw [tgt_each sa]; rfl)) (by rw [tgt_each sa, tgt_each sb]; rfl) (by rw [tgt_each sa, tgt_each sb]; rfl) (fun q => bindT_pair q) ?_
      intro t' ht i hi
      simp only [List.mem_cons, List.not_mem_nil, or_false] at ht
      simp only [tG.slotsT, List.mem_append]
      rcases ht with e | e <;> subst e <;> simp [hi]
    · cases h
  | .tri a b d, e, h => by
    unfold chkTg at h
    split at h
    · simp only [Bool.and_eq_true] at h
      have sa := chkTg_star h.1.1
      have sb := chkTg_star h.1.2
      have sd := chkTg_star h.2
      refine sg_tup (ts := [a, b, d]) c.ok.hK c.ok.calm (sgs_cons (chkTg_sound c h.1.1) (sgs_cons (chkTg_sound c h.1.2) (sgs_cons (chkTg_sound c h.2) sgs_nil (by rw [tgt_each sd]; rfl)) (by rw [tgt_each sb]; rfl)) (by rw [tgt_each sa]; rfl)) (by rw [tgt_each sa, tgt_each sb, tgt_each sd]; rfl) (by rw [tgt_each sa, tgt_each sb, tgt_each sd]; rfl) (fun q => bindT_tri q) ?_
      intro t' ht i hi
      simp only [List.mem_cons, List.not_mem_nil, or_false] at ht
      simp only [tG.slotsT, List.mem_append]
      rcases ht with e | e | e <;> subst e <;> simp [hi]
    · cases h
theorem chkTgs_sound (c : Ctx X G W L Γ) : ∀ {ts : List Ct} {es : List Expr}, chkTgs Γ ts es = true → PGs X es (tGsV G ts) ∧ (assignEach es X.env).length = ts.length ∧ (assignEach es X.env).findIdx? (·.1) = none
  | [], es, h => by
    unfold chkTgs at h
    cases es with
    | nil => exact ⟨sgsV_nil, rfl, rfl⟩
    | cons _ _ => cases h
  | t :: ts, es, h => by
    unfold chkTgs at h
    cases es with
    | nil => cases h
    | cons e es =>
      simp only [Bool.and_eq_true] at h
      obtain ⟨h1, h2, h3⟩ := chkTgs_sound c h.2
      have st := chkTg_star h.1
      refine ⟨sgsV_cons (chkTg_sound c h.1) h1 (by rw [tgt_each st]; rfl), by rw [tgt_each st]; simp [h2], ?_⟩
      rw [tgt_each st, List.findIdx?_cons]
      simp [h3]
end
end L2

set_option Elab.async false
set_option linter.all false
set_option autoImplicit false
set_option maxRecDepth 100000
set_option maxHeartbeats 4000000
/-! ZB: the look at expressions is sound. -/
namespace L2
open PySem PySem.Spec PyProof.Rows Z
section
variable {X : Cx} {G : Gx} {W : WX} {L : Lib} {Γ : Gam}
theorem chks_plain : ∀ {es : Ces} {xs : List Expr}, chks Γ es xs = true → xs.all plainE = true ∧ es.len = xs.length
  | .nil, xs, h => by
    simp only [chks] at h
    cases xs with
    | nil => exact ⟨rfl, rfl⟩
    | cons _ _ => cases h
  | .cons a as, xs, h => by
    cases xs with
    | nil => simp [chks] at h
    | cons x xs =>
      simp only [chks, Bool.and_eq_true] at h
      have ⟨h1, h2⟩ := chks_plain h.1.2
      exact ⟨by rw [List.all_cons, h.2, h1]; rfl, by simp [Ces.len, h2]⟩
theorem chkI_plain {src : Ci} {e : Expr} {tt : Bool} (h : chkI Γ src e tt = true) : plainE e = true := by
  cases src <;> unfold chkI at h
  · simp only [Bool.and_eq_true] at h
    exact h.2
  · split at h
    · rfl
    · cases h
  · split at h
    · rfl
    · cases h
  · split at h
    · rfl
    · cases h
  · split at h
    · rfl
    · cases h
  · split at h
    · rfl
    · cases h
theorem boot_len' : bootBuiltins "len" = some (.builtin "len") := PySem.boot_len
theorem cb_all_of (c : Ctx X G W L Γ) {b : Bfn} (hb : bltB b = true) : (∃ id, bootBuiltins (bltName b) = some (.builtin id) ∧ CallR X (.builtin id) (rBlt G b)) ∨ (∃ T, bootBuiltins (bltName b) = some (.type T) ∧ CallR X (.type T) (rBlt G b)) := by
  cases b <;> first | (simp [bltB] at hb; done) | skip
  · exact .inl ⟨_, by decide +kernel, cb_len c.ok.hK⟩
  · exact .inr ⟨_, by decide +kernel, cb_list c.ok.hK c.ok.calm⟩
  · exact .inr ⟨_, by decide +kernel, cb_tuple c.ok.hK⟩
  · exact .inl ⟨_, by decide +kernel, cb_all c.ok.hK c.ok.calm⟩
  · exact .inl ⟨_, by decide +kernel, cb_any c.ok.hK c.ok.calm⟩
  · exact .inl ⟨_, by decide +kernel, cb_sum c.ok.hK c.ok.calm⟩
  · exact .inl ⟨_, by decide +kernel, cb_max c.ok.hK c.ok.calm⟩
  · exact .inl ⟨_, by decide +kernel, cb_min c.ok.hK c.ok.calm⟩
  · exact .inl ⟨_, by decide +kernel, cb_min2 c.ok.calm⟩
  · exact .inl ⟨_, by decide +kernel, cb_sorted c.ok⟩
theorem bltName_in {b : Bfn} (hb : bltB b = true) : bltName b ∈ bltNames ∧ bltName b ≠ "__name__" := by
  cases b <;> first | (simp [bltB] at hb; done) | exact ⟨by decide +kernel, by decide +kernel⟩
theorem tyN_in {b : Bfn} (hb : isiB b = true) : (tyN b : Str) ∈ bltNames ∧ (tyN b : Str) ≠ "__name__" ∧ bootBuiltins (tyN b) = some (.type (tyN b)) := by
  cases b <;> first | (simp [isiB] at hb; done) | exact ⟨by decide +kernel, by decide +kernel, by decide +kernel⟩
theorem isTrue_plain' {e : Expr} (h : isCmp0 e = false) (env : PySem.Env) : ∀ whole, isTrue e env whole = (do let v ← whole; standAt e.pos; holding [v] (truthy v)) := by
  intro whole
  cases e with
  | UnaryOp op x p => cases op <;> first | rfl | (simp [isCmp0] at h)
  | Compare _ _ _ _ => simp [isCmp0] at h
  | BoolOp _ _ _ => simp [isCmp0] at h
  | IfExp _ _ _ _ => simp [isCmp0] at h
  | _ => rfl
/-- what must be so of a piece and its parts -/
def SndE (c : Ce) : Prop := ∀ {X : Cx} {G : Gx} {W : WX} {L : Lib} {Γ : Gam} {e : Expr}, Ctx X G W L Γ → chk Γ c e = true → SE X G W L c e
end
theorem lookup_mem {α β : Type} [BEq α] [LawfulBEq α] {a : α} {b : β} : ∀ {l : List (α × β)}, l.lookup a = some b → (a, b) ∈ l
  | [], h => by simp [List.lookup] at h
  | (x, y) :: l, h => by
    rw [List.lookup] at h
    split at h
    · rename_i q
      cases h
      rw [eq_of_beq q]; exact List.mem_cons_self
    · exact List.mem_cons_of_mem _ (lookup_mem h)
theorem chkK_some : ∀ {ks : List Str} {keys : List (Option Expr)}, chkK ks keys = true → keys.all (·.isSome) = true
  | [], keys, h => by
    unfold chkK at h
    cases keys with
    | nil => rfl
    | cons _ _ => cases h
  | k :: ks, keys, h => by
    unfold chkK at h
    split at h
    · simp only [Bool.and_eq_true] at h
      simp [chkK_some h.2]
    · cases h
theorem chkK_len : ∀ {ks : List Str} {keys : List (Option Expr)}, chkK ks keys = true → ks.length = keys.length
  | [], keys, h => by
    unfold chkK at h
    cases keys with
    | nil => rfl
    | cons _ _ => cases h
  | k :: ks, keys, h => by
    unfold chkK at h
    split at h
    · simp only [Bool.and_eq_true] at h
      simp [chkK_len h.2]
    · cases h
theorem chks_len {Γ : Gam} : ∀ (es : Ces) {xs : List Expr}, chks Γ es xs = true → es.len = xs.length
  | .nil, xs, h => by
    unfold chks at h
    cases xs with
    | nil => rfl
    | cons _ _ => cases h
  | .cons a as, xs, h => by
    unfold chks at h
    cases xs with
    | nil => cases h
    | cons x xs =>
      simp only [Bool.and_eq_true] at h
      simp [Ces.len, chks_len as h.1.2]
mutual
theorem chk_sound : ∀ (c : Ce) {X : Cx} {G : Gx} {W : WX} {L : Lib} {Γ : Gam} {e : Expr}, Ctx X G W L Γ → chk Γ c e = true → SE X G W L c e
  | .var i, X, G, W, L, Γ, e, cx, h => by
    unfold chk at h
    split at h
    · simp only [Bool.and_eq_true, Bool.not_eq_true'] at h
      exact se_var (cx.at_ h.1.1.1) (cx.vis h.1.1.2) h.1.2 h.2
    · cases h
  | .none, X, G, W, L, Γ, e, cx, h => by
    unfold chk at h
    split at h
    · exact se_none
    · cases h
  | .bool b, X, G, W, L, Γ, e, cx, h => by
    unfold chk at h
    split at h
    · rw [of_decide_eq_true h]; exact se_bool
    · cases h
  | .int b, X, G, W, L, Γ, e, cx, h => by
    unfold chk at h
    split at h
    · rw [of_decide_eq_true h]; exact se_int
    · cases h
  | .str b, X, G, W, L, Γ, e, cx, h => by
    unfold chk at h
    split at h
    · rw [of_decide_eq_true h]; exact se_str
    · cases h
  | .glob k, X, G, W, L, Γ, e, cx, h => by
    unfold chk at h
    split at h
    · simp only [Bool.and_eq_true] at h
      have h2 := h.2
      split at h2
      · rename_i y hy
        have ey := of_decide_eq_true h2
        subst ey
        obtain ⟨u, v, d, q1, q2, q3, q4⟩ := cx.gl k _ hy
        have ⟨g1, g2⟩ := cx.glo h.1
        exact se_glob g1 q2 q3 g2 q1 q4
      · cases h2
    · cases h
  | .tup es, X, G, W, L, Γ, e, cx, h => by
    unfold chk at h
    split at h
    · exact se_tup (chks_sound es cx h)
    · cases h
  | .lst es, X, G, W, L, Γ, e, cx, h => by
    unfold chk at h
    split at h
    · exact se_lst (chks_sound es cx h)
    · cases h
  | .alloc a, X, G, W, L, Γ, e, cx, h => by
    unfold chk at h
    exact se_alloc (chkF_sound a cx h)
  | .lstR es, X, G, W, L, Γ, e, cx, h => by
    unfold chk at h
    split at h
    · exact se_lstR (chks_sound es cx h)
    · cases h
  | .dict ks es, X, G, W, L, Γ, e, cx, h => by
    unfold chk at h
    split at h
    · rename_i keys xs pos
      simp only [Bool.and_eq_true, decide_eq_true_eq] at h
      have hne : keys ≠ [] := by
        intro e
        have := h.1.1.1.1
        simp [e] at this
      exact se_dict (chkP_sound es cx h.1.1.2 h.1.2 h.2) h.2 (chkK_some h.1.1.2) ((chkK_len h.1.1.2).symm.trans (h.2.trans (chks_len es h.1.2))) hne h.1.1.1.2
    · cases h
  | .bin o a b, X, G, W, L, Γ, e, cx, h => by
    unfold chk at h
    split at h
    · simp only [Bool.and_eq_true] at h
      rw [bopB_eq h.1.1]
      exact se_bin cx.ok (chk_sound a cx h.1.2) (chk_sound b cx h.2)
    · cases h
  | .neg a, X, G, W, L, Γ, e, cx, h => by
    unfold chk at h
    split at h
    · exact se_neg (chk_sound a cx h)
    · cases h
  | .cmp o a b, X, G, W, L, Γ, e, cx, h => by
    unfold chk at h
    split at h
    · simp only [Bool.and_eq_true] at h
      rw [copB_eq h.1.1.1]
      exact se_cmp cx.ok h.2 (chk_sound a cx h.1.1.2) (chk_sound b cx h.1.2)
    · cases h
  | .cmp2 a b d, X, G, W, L, Γ, e, cx, h => by
    unfold chk at h
    split at h
    · simp only [Bool.and_eq_true] at h
      exact (pe_chain op_le op_le (chk_sound a cx h.1.1.1) (chk_sound b cx h.1.1.2) (chk_sound d cx h.1.2) (plain_marks h.2 _)).imp fun σ H Q ⟨A, ρ, en, hh, S, E, P⟩ => chain_reads S E P
    · cases h
  | .and es, X, G, W, L, Γ, e, cx, h => by
    unfold chk at h
    split at h
    · exact PE.imp (chkAnd_sound es cx h) fun σ H Q ⟨A, ρ, en, hh, S, E, P⟩ => ⟨A, ρ, en, hh, S, E, by simp only [den] at P; exact P⟩
    · cases h
  | .or es, X, G, W, L, Γ, e, cx, h => by
    unfold chk at h
    split at h
    · exact PE.imp (chkOr_sound es cx h) fun σ H Q ⟨A, ρ, en, hh, S, E, P⟩ => ⟨A, ρ, en, hh, S, E, by simp only [den] at P; exact P⟩
    · cases h
  | .not a, X, G, W, L, Γ, e, cx, h => by
    unfold chk at h
    split at h
    · exact se_not (chk_sound a cx h)
    · cases h
  | .ite c a b, X, G, W, L, Γ, e, cx, h => by
    unfold chk at h
    split at h
    · simp only [Bool.and_eq_true] at h
      exact se_ite (chkT_sound c cx h.1.1) (chk_sound a cx h.1.2) (chk_sound b cx h.2)
    · cases h
  | .ix a i, X, G, W, L, Γ, e, cx, h => by
    unfold chk at h
    split at h
    · simp only [Bool.and_eq_true] at h
      exact se_ix cx.ok h.2 (chk_sound a cx h.1.1) (chk_sound i cx h.1.2)
    · cases h
  | .sl a lo hi, X, G, W, L, Γ, e, cx, h => by
    unfold chk at h
    split at h
    · simp only [Bool.and_eq_true] at h
      exact se_sl cx.ok (chk_sound a cx h.1.1) (chkO_sound lo cx h.1.2) (chkO_sound hi cx h.2)
    · cases h
  | .no, X, G, W, L, Γ, e, cx, h => by
    unfold chk at h; cases h
  | .rev a, X, G, W, L, Γ, e, cx, h => by
    unfold chk at h
    split at h
    · exact se_rev cx.ok (chk_sound a cx h)
    · cases h
  | .call k es, X, G, W, L, Γ, e, cx, h => by
    unfold chk at h
    split at h
    · simp only [Bool.and_eq_true] at h
      have h2 := h.2
      split at h2
      · rename_i y n hy
        simp only [Bool.and_eq_true, decide_eq_true_eq] at h2
        have ⟨e1, e2⟩ := h2
        subst e1
        obtain ⟨g, q1, q2⟩ := cx.fn k _ _ hy
        have ⟨g1, g2⟩ := cx.glo h.1.1
        have ⟨p1, p2⟩ := chks_plain h.1.2
        exact se_call cx.tk q2 g1 g2 q1 (by rw [p2, e2]) e2 p1 (chks_sound es cx h.1.2)
      · cases h2
    · cases h
  | .blt b es, X, G, W, L, Γ, e, cx, h => by
    unfold chk at h
    split at h
    · rename_i hb
      cases es with
      | nil => cases h
      | cons a as =>
        cases as with
        | cons _ _ => cases h
        | nil =>
          dsimp only at h
          split at h
          · simp only [Bool.and_eq_true, decide_eq_true_eq] at h
            have ef := h.1.1.1.1.1
            have ey := h.1.1.2
            have ⟨g1, _⟩ := cx.glo h.1.1.1.1.2
            have ⟨g2, g3⟩ := cx.glo h.1.1.1.2
            subst ef ey
            have ⟨t1, t2, t3⟩ := tyN_in hb
            exact se_isi cx.ok hb h.2 g1 (cx.blt _ (by decide +kernel)) g2 (cx.blt _ t1) t3 t2 g3 (chk_sound a cx h.1.2)
          · cases h
    split at h
    · rename_i hb
      cases b <;> first | (simp [isLs] at hb; done) | skip
      cases es with
      | nil => cases h
      | cons a as =>
        cases as with
        | cons _ _ => cases h
        | nil =>
          dsimp only at h
          split at h
          · simp only [Bool.and_eq_true, decide_eq_true_eq] at h
            have ef := h.1.1.1.1.1
            have eg := h.1.1.1.1.2
            have ⟨g1, _⟩ := cx.glo h.1.1.1.2
            have ⟨g2, _⟩ := cx.glo h.1.1.2
            subst ef eg
            exact se_lenset cx.ok h.2 g1 (cx.blt _ (by decide +kernel)) g2 (cx.blt _ (by decide +kernel)) (chk_sound a cx h.1.2)
          · cases h
    split at h
    · rename_i hb
      cases es with
      | nil => cases h
      | cons a as =>
        cases as with
        | cons _ _ => cases h
        | nil =>
          dsimp only at h
          split at h
          · simp only [Bool.and_eq_true, decide_eq_true_eq] at h
            have ef := h.1.1.1.1.1
            have em := h.1.1.1.1.2
            have ⟨g1, _⟩ := cx.glo h.1.1.1.2
            subst ef em
            cases b <;> first | (simp [isVs] at hb; done) | skip
            · exact se_sumvals cx.ok g1 (cx.blt _ (by decide +kernel)) h.1.1.2 h.1.2 (chk_sound a cx h.2)
            · exact se_sortedvals cx.ok g1 (cx.blt _ (by decide +kernel)) h.1.1.2 h.1.2 (chk_sound a cx h.2)
          · cases h
    · split at h
      · simp only [Bool.and_eq_true, decide_eq_true_eq] at h
        have ef := h.1.1.1
        have ⟨g1, g2⟩ := cx.glo h.1.1.2
        subst ef
        have ⟨n1, n2⟩ := bltName_in h.1.2
        have ⟨p1, p2⟩ := chks_plain h.2
        rcases cb_all_of cx h.1.2 with ⟨id, hv, hc⟩ | ⟨T, hv, hc⟩
        · exact se_bltF hc g1 (cx.blt _ n1) hv n2 g2 p1 (chks_sound es cx h.2)
        · exact se_bltT hc g1 (cx.blt _ n1) hv n2 g2 p1 (chks_sound es cx h.2)
      · cases h
  | .mth .get2 o (.cons a (.cons b .nil)), X, G, W, L, Γ, e, cx, h => by
    unfold chk at h
    dsimp only at h
    split at h
    · simp only [Bool.and_eq_true, decide_eq_true_eq] at h
      have ef := h.1.1.1.1.1.1.1
      subst ef
      exact se_get2 cx.ok h.1.1.1.1.1.1.2 h.1.2 h.2 h.1.1.1.1.1.2 (chk_sound o cx h.1.1.1.1.2) (chk_sound a cx h.1.1.1.2) (chk_sound b cx h.1.1.2)
    · cases h
  | .mth .index o (.cons a .nil), X, G, W, L, Γ, e, cx, h => by
    unfold chk at h
    dsimp only at h
    split at h
    · simp only [Bool.and_eq_true, decide_eq_true_eq] at h
      have ef := h.1.1.1.1.1
      subst ef
      exact se_index cx.ok h.1.1.1.1.2 h.2 h.1.1.1.2 (chk_sound o cx h.1.1.2) (chk_sound a cx h.1.2)
    · cases h
  | .mth .count o (.cons a .nil), X, G, W, L, Γ, e, cx, h => by
    unfold chk at h
    dsimp only at h
    split at h
    · simp only [Bool.and_eq_true, decide_eq_true_eq] at h
      have ef := h.1.1.1.1.1
      subst ef
      exact se_count cx.ok h.1.1.1.1.2 h.2 h.1.1.1.2 (chk_sound o cx h.1.1.2) (chk_sound a cx h.1.2)
    · cases h
  | .mth .get2 o .nil, X, G, W, L, Γ, e, cx, h => by unfold chk at h; cases h
  | .mth .get2 o (.cons _ .nil), X, G, W, L, Γ, e, cx, h => by unfold chk at h; cases h
  | .mth .get2 o (.cons _ (.cons _ (.cons _ _))), X, G, W, L, Γ, e, cx, h => by unfold chk at h; cases h
  | .mth .index o .nil, X, G, W, L, Γ, e, cx, h => by unfold chk at h; cases h
  | .mth .index o (.cons _ (.cons _ _)), X, G, W, L, Γ, e, cx, h => by unfold chk at h; cases h
  | .mth .count o .nil, X, G, W, L, Γ, e, cx, h => by unfold chk at h; cases h
  | .mth .count o (.cons _ (.cons _ _)), X, G, W, L, Γ, e, cx, h => by unfold chk at h; cases h
  | .mth .join _ _, X, G, W, L, Γ, e, cx, h => by unfold chk at h; cases h
  | .mth .split _ _, X, G, W, L, Γ, e, cx, h => by unfold chk at h; cases h
  | .mth .replace _ _, X, G, W, L, Γ, e, cx, h => by unfold chk at h; cases h
  | .mth .values _ _, X, G, W, L, Γ, e, cx, h => by unfold chk at h; cases h
  | .mst .setdef o (.cons a (.cons b .nil)), X, G, W, L, Γ, e, cx, h => by
    unfold chk at h
    dsimp only at h
    split at h
    · simp only [Bool.and_eq_true, decide_eq_true_eq] at h
      have ef := h.1.1.1.1.1.1.1
      subst ef
      exact se_setdef cx.ok h.1.1.1.1.1.1.2 h.1.2 h.2 h.1.1.1.1.1.2 (chk_sound o cx h.1.1.1.1.2) (chk_sound a cx h.1.1.1.2) (chk_sound b cx h.1.1.2)
    · cases h
  | .mst .append o (.cons a .nil), X, G, W, L, Γ, e, cx, h => by
    unfold chk at h
    dsimp only at h
    split at h
    · simp only [Bool.and_eq_true, decide_eq_true_eq] at h
      have ef := h.1.1.1.1.1
      subst ef
      exact se_append h.1.1.1.1.2 h.2 h.1.1.1.2 (chk_sound o cx h.1.1.2) (chk_sound a cx h.1.2)
    · cases h
  | .mst .pop o .nil, X, G, W, L, Γ, e, cx, h => by
    unfold chk at h
    dsimp only at h
    split at h
    · simp only [Bool.and_eq_true, decide_eq_true_eq] at h
      have ef := h.1.1.1
      subst ef
      exact se_pop h.1.1.2 h.1.2 (chk_sound o cx h.2)
    · cases h
  | .mst .append o .nil, X, G, W, L, Γ, e, cx, h => by unfold chk at h; cases h
  | .mst .append o (.cons _ (.cons _ _)), X, G, W, L, Γ, e, cx, h => by unfold chk at h; cases h
  | .mst .pop o (.cons _ _), X, G, W, L, Γ, e, cx, h => by unfold chk at h; cases h
  | .mst .setdef o .nil, X, G, W, L, Γ, e, cx, h => by unfold chk at h; cases h
  | .mst .setdef o (.cons _ .nil), X, G, W, L, Γ, e, cx, h => by unfold chk at h; cases h
  | .mst .setdef o (.cons _ (.cons _ (.cons _ _))), X, G, W, L, Γ, e, cx, h => by unfold chk at h; cases h
  | .comp t src c a own, X, G, W, L, Γ, e, cx, h => by
    unfold chk at h
    split at h
    · simp only [Bool.and_eq_true, decide_eq_true_eq] at h
      have ek := h.1.1.1.1.1.1
      subst ek
      have hI := h.1.1.1.1.1.2
      have hB := h.1.1.1.1.2
      have hO := h.1.1.1.2
      have hT := h.1.1.2
      have hC := h.1.2
      have hE := h.2
      have key := fun (pos : Pos) => se_comp (pos := pos) (W := W) (L := L) (t := t) (src := src) (c := c) (a := a) (own := ownOf Γ own) cx.ok (by rw [ownOf_snd]; intro i hi; have := List.all_eq_true.mp hO i hi; simpa using this) (chkI_plain hI) (chkI_sound src cx hI) (by rw [cx.N, cx.sc]; exact blkOk_by hB)
        (fun s H C cl fp => chkTg_sound (cx.blk (s := s) (H := H) (C := C) (cl := cl) (fp := fp)) hT) (fun s H C cl fp => chkC_sound c cx.blk hC) (fun s H C cl fp => chk_sound a cx.blk hE)
      simp only [ownOf_snd] at key
      exact key _
    · cases h
  | .compR t src c a own, X, G, W, L, Γ, e, cx, h => by
    unfold chk at h
    split at h
    · simp only [Bool.and_eq_true, decide_eq_true_eq] at h
      have ek := h.1.1.1.1.1.1
      subst ek
      have hI := h.1.1.1.1.1.2
      have hB := h.1.1.1.1.2
      have hO := h.1.1.1.2
      have hT := h.1.1.2
      have hC := h.1.2
      have hE := h.2
      have key := fun (pos : Pos) => se_compR (pos := pos) (W := W) (L := L) (t := t) (src := src) (c := c) (a := a) (own := ownOf Γ own) cx.ok (by rw [ownOf_snd]; intro i hi; have := List.all_eq_true.mp hO i hi; simpa using this) (chkI_plain hI) (chkI_sound src cx hI) (by rw [cx.N, cx.sc]; exact blkOk_by hB)
        (fun s H C cl fp => chkTg_sound (cx.blk (s := s) (H := H) (C := C) (cl := cl) (fp := fp)) hT) (fun s H C cl fp => chkC_sound c cx.blk hC) (fun s H C cl fp => chk_sound a cx.blk hE)
      simp only [ownOf_snd] at key
      exact key _
    · cases h
  | .tupR es, X, G, W, L, Γ, e, cx, h => by
    unfold chk at h
    split at h
    · exact se_tupR (chks_sound es cx h)
    · cases h
  | .dictR .nil .nil, X, G, W, L, Γ, e, cx, h => by
    unfold chk at h
    dsimp only at h
    split at h
    · exact se_dict0 cx.ok
    · cases h
  | .dictR (.cons a .nil) (.cons b .nil), X, G, W, L, Γ, e, cx, h => by
    unfold chk at h
    dsimp only at h
    split at h
    · simp only [Bool.and_eq_true] at h
      exact se_dict1 cx.ok (chk_sound a cx h.1) (chk_sound b cx h.2)
    · cases h
  | .dictR .nil (.cons _ _), X, G, W, L, Γ, e, cx, h => by unfold chk at h; cases h
  | .dictR (.cons _ .nil) .nil, X, G, W, L, Γ, e, cx, h => by unfold chk at h; cases h
  | .dictR (.cons _ .nil) (.cons _ (.cons _ _)), X, G, W, L, Γ, e, cx, h => by unfold chk at h; cases h
  | .dictR (.cons _ (.cons _ _)) _, X, G, W, L, Γ, e, cx, h => by unfold chk at h; cases h
  | .isx a y tab, X, G, W, L, Γ, e, cx, h => by
    unfold chk at h
    split at h
    · rename_i f _ x z _ _
      simp only [Bool.and_eq_true, Bool.or_eq_true, decide_eq_true_eq] at h
      have ef := h.1.1.1.1.1.1.1
      have ez := h.1.1.1.1.1.1.2
      subst ef ez
      have ⟨g1, _⟩ := cx.glo h.1.1.1.1.1.2
      have ⟨g2, g3⟩ := cx.glo h.1.1.1.1.2
      have tb : ∀ c b, tab.lookup c = some b → ExcC X.K (G.cx c) ∧ PySem.W.kitOne X.K (.ref (G.cx c)) (clsV G z) = some b := fun c b hl => by
        have := List.all_eq_true.mp h.1.1.2 (c, b) (lookup_mem hl)
        exact cx.sub (c, z, b) (List.contains_iff_mem.mp this)
      rcases h.1.1.1.2 with ez | ez
      · subst ez
        have e1 : clsV G ("ValueError" : Str) = .type "ValueError" := by unfold clsV; rw [if_pos rfl]
        rw [e1] at tb
        exact se_isx cx.ok h.2 g1 (cx.blt _ (by decide +kernel)) (pe_bltn (v := .ty "ValueError") g2 (cx.blt _ (by decide +kernel)) (by decide +kernel) rfl (by decide +kernel) g3) (fun u r => r) tb (chk_sound a cx h.1.2)
      · obtain ⟨m1, m2⟩ := cx.cl z (List.contains_iff_mem.mp ez)
        have e1 : clsV G z = .ref (G.cx z) := by unfold clsV; rw [if_neg m2]
        rw [e1] at tb
        exact se_isx cx.ok h.2 g1 (cx.blt _ (by decide +kernel)) (pe_glob g2 m1 (v := .ref (G.cx z)) rfl g3) (fun u r => r) tb (chk_sound a cx h.1.2)
    · cases h
  | .fld cs o f, X, G, W, L, Γ, e, cx, h => by
    unfold chk at h
    split at h
    · simp only [Bool.and_eq_true, decide_eq_true_eq] at h
      have ef := h.1.1.1
      subst ef
      exact se_fld h.1.1.2 (cx.flds h.1.2) (chk_sound o cx h.2)
    · cases h
  | .lenc c k o, X, G, W, L, Γ, e, cx, h => by
    unfold chk at h
    split at h
    · simp only [Bool.and_eq_true, decide_eq_true_eq] at h
      have ef := h.1.1.1.1
      subst ef
      have ⟨g1, _⟩ := cx.glo h.1.1.1.2
      obtain ⟨g, q1, q2⟩ := cx.meth h.1.1.2
      exact se_lenc q2 g1 (cx.blt _ (by decide +kernel)) q1 h.2 (chk_sound o cx h.1.2)
    · cases h
  | .mcall c m k o es, X, G, W, L, Γ, e, cx, h => by
    unfold chk at h
    split at h
    · simp only [Bool.and_eq_true, decide_eq_true_eq] at h
      have ef := h.1.1.1.1.1.1
      subst ef
      obtain ⟨g, q1, q2⟩ := cx.meth h.1.1.1.2
      have ⟨p1, p2⟩ := chks_plain h.2
      exact se_mcall cx.tk q2 h.1.1.1.1.1.2 h.1.1.1.1.2 q1 (by rw [p2]) p2.symm h.1.1.2 p1 (chk_sound o cx h.1.2) (chks_sound es cx h.2)
    · cases h
  | .make c k es, X, G, W, L, Γ, e, cx, h => by
    unfold chk at h
    split at h
    · simp only [Bool.and_eq_true, decide_eq_true_eq] at h
      have ef := h.1.1.1
      subst ef
      have ⟨g1, g2⟩ := cx.glo h.1.1.2
      obtain ⟨g, q1, q2⟩ := cx.meth h.1.2
      have ⟨p1, p2⟩ := chks_plain h.2
      exact se_make cx.tk q2 g1 g2 q1 (by rw [p2]) p2.symm p1 (chks_sound es cx h.2)
    · cases h
  | .lock a, X, G, W, L, Γ, e, cx, h => by
    unfold chk at h
    split at h
    · exact se_lock (chk_sound a cx h)
    · cases h
theorem chkF_sound : ∀ (c : Ce) {X : Cx} {G : Gx} {W : WX} {L : Lib} {Γ : Gam} {e : Expr}, Ctx X G W L Γ → chkF Γ c e = true → SF X G W L c e
  | .lst es, X, G, W, L, Γ, e, cx, h => by
    unfold chkF at h
    split at h
    · exact sf_lst (chks_sound es cx h)
    · cases h
  | .comp t src c a own, X, G, W, L, Γ, e, cx, h => by
    unfold chkF at h
    split at h
    · simp only [Bool.and_eq_true, decide_eq_true_eq] at h
      have ek := h.1.1.1.1.1.1
      subst ek
      have hI := h.1.1.1.1.1.2
      have hB := h.1.1.1.1.2
      have hO := h.1.1.1.2
      have hT := h.1.1.2
      have hC := h.1.2
      have hE := h.2
      have key := fun (pos : Pos) => sf_comp (pos := pos) (W := W) (L := L) (t := t) (src := src) (c := c) (a := a) (own := ownOf Γ own) cx.ok (by rw [ownOf_snd]; intro i hi; have := List.all_eq_true.mp hO i hi; simpa using this) (chkI_plain hI) (chkI_sound src cx hI) (by rw [cx.N, cx.sc]; exact blkOk_by hB)
        (fun s H C cl fp => chkTg_sound (cx.blk (s := s) (H := H) (C := C) (cl := cl) (fp := fp)) hT) (fun s H C cl fp => chkC_sound c cx.blk hC) (fun s H C cl fp => chk_sound a cx.blk hE)
      simp only [ownOf_snd] at key
      exact key _
    · cases h
  | .bin o a b, X, G, W, L, Γ, e, cx, h => by
    cases o with
    | add =>
      unfold chkF at h
      split at h
      · simp only [Bool.and_eq_true] at h
        exact sf_add (chk_sound a cx h.1) (chk_sound b cx h.2)
      · cases h
    | _ => simp [chkF] at h
  | .blt b es, X, G, W, L, Γ, e, cx, h => by
    cases b with
    | list =>
      unfold chkF at h
      split at h
      · simp only [Bool.and_eq_true, decide_eq_true_eq] at h
        have ef := h.1.1
        have ⟨g1, g2⟩ := cx.glo h.1.2
        subst ef
        have ⟨p1, p2⟩ := chks_plain h.2
        exact sf_list cx.ok.hK cx.ok.calm g1 (cx.blt _ (by decide +kernel)) (by decide +kernel) (by decide +kernel) g2 p1 (chks_sound es cx h.2)
      · cases h
    | _ => simp [chkF] at h
  | .var _, X, G, W, L, Γ, e, cx, h => by simp [chkF] at h
  | .none, X, G, W, L, Γ, e, cx, h => by simp [chkF] at h
  | .bool _, X, G, W, L, Γ, e, cx, h => by simp [chkF] at h
  | .int _, X, G, W, L, Γ, e, cx, h => by simp [chkF] at h
  | .str _, X, G, W, L, Γ, e, cx, h => by simp [chkF] at h
  | .glob _, X, G, W, L, Γ, e, cx, h => by simp [chkF] at h
  | .tup _, X, G, W, L, Γ, e, cx, h => by simp [chkF] at h
  | .alloc _, X, G, W, L, Γ, e, cx, h => by simp [chkF] at h
  | .dict _ _, X, G, W, L, Γ, e, cx, h => by simp [chkF] at h
  | .lstR _, X, G, W, L, Γ, e, cx, h => by simp [chkF] at h
  | .neg _, X, G, W, L, Γ, e, cx, h => by simp [chkF] at h
  | .cmp _ _ _, X, G, W, L, Γ, e, cx, h => by simp [chkF] at h
  | .cmp2 _ _ _, X, G, W, L, Γ, e, cx, h => by simp [chkF] at h
  | .and _, X, G, W, L, Γ, e, cx, h => by simp [chkF] at h
  | .or _, X, G, W, L, Γ, e, cx, h => by simp [chkF] at h
  | .not _, X, G, W, L, Γ, e, cx, h => by simp [chkF] at h
  | .ite _ _ _, X, G, W, L, Γ, e, cx, h => by simp [chkF] at h
  | .ix _ _, X, G, W, L, Γ, e, cx, h => by simp [chkF] at h
  | .sl _ _ _, X, G, W, L, Γ, e, cx, h => by simp [chkF] at h
  | .no, X, G, W, L, Γ, e, cx, h => by simp [chkF] at h
  | .rev _, X, G, W, L, Γ, e, cx, h => by simp [chkF] at h
  | .call _ _, X, G, W, L, Γ, e, cx, h => by simp [chkF] at h
  | .mth _ _ _, X, G, W, L, Γ, e, cx, h => by simp [chkF] at h
  | .mst _ _ _, X, G, W, L, Γ, e, cx, h => by simp [chkF] at h
  | .compR _ _ _ _ _, X, G, W, L, Γ, e, cx, h => by simp [chkF] at h
  | .tupR _, X, G, W, L, Γ, e, cx, h => by simp [chkF] at h
  | .dictR _ _, X, G, W, L, Γ, e, cx, h => by simp [chkF] at h
  | .isx _ _ _, X, G, W, L, Γ, e, cx, h => by simp [chkF] at h
  | .fld _ _ _, X, G, W, L, Γ, e, cx, h => by simp [chkF] at h
  | .lenc _ _ _, X, G, W, L, Γ, e, cx, h => by simp [chkF] at h
  | .mcall _ _ _ _ _, X, G, W, L, Γ, e, cx, h => by simp [chkF] at h
  | .make _ _ _, X, G, W, L, Γ, e, cx, h => by simp [chkF] at h
  | .lock _, X, G, W, L, Γ, e, cx, h => by simp [chkF] at h
theorem chks_sound : ∀ (es : Ces) {X : Cx} {G : Gx} {W : WX} {L : Lib} {Γ : Gam} {xs : List Expr}, Ctx X G W L Γ → chks Γ es xs = true → SA X G W L es xs
  | .nil, X, G, W, L, Γ, xs, cx, h => by
    simp only [chks] at h
    cases xs with
    | nil => exact sa_nil
    | cons _ _ => cases h
  | .cons a as, X, G, W, L, Γ, xs, cx, h => by
    cases xs with
    | nil => simp [chks] at h
    | cons x xs =>
      simp only [chks, Bool.and_eq_true] at h
      exact sa_cons h.2 (chk_sound a cx h.1.1) (chks_sound as cx h.1.2)
theorem chkAnd_sound : ∀ (es : Ces) {X : Cx} {G : Gx} {W : WX} {L : Lib} {Γ : Gam} {xs : List Expr} {pos : Pos}, Ctx X G W L Γ → chkAll Γ es xs = true → PE X (.BoolOp .And xs pos) (tE G W (denAnd L es))
  | .nil, X, G, W, L, Γ, xs, pos, cx, h => by simp [chkAll] at h
  | .cons a as, X, G, W, L, Γ, xs, pos, cx, h => by
    cases xs with
    | nil => unfold chkAll at h; cases h
    | cons x xs =>
      unfold chkAll at h
      simp only [Bool.and_eq_true] at h
      cases as with
      | nil =>
        cases xs with
        | nil => exact sv_and1 (chk_sound a cx h.1)
        | cons _ _ => have := h.2; cases this
      | cons b bs =>
        cases xs with
        | nil => have q := h.2; unfold chkAll at q; cases q
        | cons y ys => exact sv_and (chk_sound a cx h.1) (chkAnd_sound (.cons b bs) cx h.2)
theorem chkOr_sound : ∀ (es : Ces) {X : Cx} {G : Gx} {W : WX} {L : Lib} {Γ : Gam} {xs : List Expr} {pos : Pos}, Ctx X G W L Γ → chkAll Γ es xs = true → PE X (.BoolOp .Or xs pos) (tE G W (denOr L es))
  | .nil, X, G, W, L, Γ, xs, pos, cx, h => by simp [chkAll] at h
  | .cons a as, X, G, W, L, Γ, xs, pos, cx, h => by
    cases xs with
    | nil => unfold chkAll at h; cases h
    | cons x xs =>
      unfold chkAll at h
      simp only [Bool.and_eq_true] at h
      cases as with
      | nil =>
        cases xs with
        | nil => exact sv_or1 (chk_sound a cx h.1)
        | cons _ _ => have := h.2; cases this
      | cons b bs =>
        cases xs with
        | nil => have q := h.2; unfold chkAll at q; cases q
        | cons y ys => exact sv_or (chk_sound a cx h.1) (chkOr_sound (.cons b bs) cx h.2)
/-- as tests -/
theorem chkAndT_sound : ∀ (es : Ces) {X : Cx} {G : Gx} {W : WX} {L : Lib} {Γ : Gam} {xs : List Expr} {pos : Pos}, Ctx X G W L Γ → chkAll Γ es xs = true → PW X (.BoolOp .And xs pos) (tT G W fun e h => (denAnd L es e h).bind fun v h => lift h (truth v))
  | .nil, X, G, W, L, Γ, xs, pos, cx, h => by simp [chkAll] at h
  | .cons a as, X, G, W, L, Γ, xs, pos, cx, h => by
    cases xs with
    | nil => unfold chkAll at h; cases h
    | cons x xs =>
      unfold chkAll at h
      simp only [Bool.and_eq_true] at h
      cases as with
      | nil =>
        cases xs with
        | nil => exact sw_and1 (as := .nil) (chkT_sound a cx h.1)
        | cons _ _ => have := h.2; cases this
      | cons b bs =>
        cases xs with
        | nil => have q := h.2; unfold chkAll at q; cases q
        | cons y ys => exact sw_and (chkT_sound a cx h.1) (chkAndT_sound (.cons b bs) cx h.2)
theorem chkOrT_sound : ∀ (es : Ces) {X : Cx} {G : Gx} {W : WX} {L : Lib} {Γ : Gam} {xs : List Expr} {pos : Pos}, Ctx X G W L Γ → chkAll Γ es xs = true → PW X (.BoolOp .Or xs pos) (tT G W fun e h => (denOr L es e h).bind fun v h => lift h (truth v))
  | .nil, X, G, W, L, Γ, xs, pos, cx, h => by simp [chkAll] at h
  | .cons a as, X, G, W, L, Γ, xs, pos, cx, h => by
    cases xs with
    | nil => unfold chkAll at h; cases h
    | cons x xs =>
      unfold chkAll at h
      simp only [Bool.and_eq_true] at h
      cases as with
      | nil =>
        cases xs with
        | nil => exact sw_or1 (chkT_sound a cx h.1)
        | cons _ _ => have := h.2; cases this
      | cons b bs =>
        cases xs with
        | nil => have q := h.2; unfold chkAll at q; cases q
        | cons y ys => exact sw_or (chkT_sound a cx h.1) (chkOrT_sound (.cons b bs) cx h.2)
theorem chkT_sound : ∀ (c : Ce) {X : Cx} {G : Gx} {W : WX} {L : Lib} {Γ : Gam} {e : Expr}, Ctx X G W L Γ → chk Γ c e = true → ST_ X G W L c e
  | .and es, X, G, W, L, Γ, e, cx, h => by
    unfold chk at h
    split at h
    · exact PT.imp (chkAndT_sound es cx h).pt fun σ H Q ⟨A, ρ, en, hh, S, E, P⟩ => ⟨A, ρ, en, hh, S, E, by unfold denT at P; simp only [den] at P; exact P⟩
    · cases h
  | .or es, X, G, W, L, Γ, e, cx, h => by
    unfold chk at h
    split at h
    · exact PT.imp (chkOrT_sound es cx h).pt fun σ H Q ⟨A, ρ, en, hh, S, E, P⟩ => ⟨A, ρ, en, hh, S, E, by unfold denT at P; simp only [den] at P; exact P⟩
    · cases h
  | .not a, X, G, W, L, Γ, e, cx, h => by
    unfold chk at h
    split at h
    · exact st_not (chkT_sound a cx h)
    · cases h
  | .cmp o a b, X, G, W, L, Γ, e, cx, h => by
    unfold chk at h
    split at h
    · simp only [Bool.and_eq_true] at h
      rw [copB_eq h.1.1.1]
      exact st_cmp cx.ok h.2 (chk_sound a cx h.1.1.2) (chk_sound b cx h.1.2)
    · cases h
  | .cmp2 a b d, X, G, W, L, Γ, e, cx, h => by
    unfold chk at h
    split at h
    · simp only [Bool.and_eq_true] at h
      exact (pt_chain op_le op_le (chk_sound a cx h.1.1.1) (chk_sound b cx h.1.1.2) (chk_sound d cx h.1.2) (plain_marks h.2 _)).imp fun σ H Q ⟨A, ρ, en, hh, S, E, P⟩ => chain_reads S E (tT_tB P)
    · cases h
  | .var i, X, G, W, L, Γ, e, cx, h => by
    have hs := chk_sound (.var i) cx h
    unfold chk at h
    split at h
    · exact st_val (fun _ => rfl) hs
    · cases h
  | .bool b, X, G, W, L, Γ, e, cx, h => by
    have hs := chk_sound (.bool b) cx h
    unfold chk at h
    split at h
    · exact st_val (fun _ => rfl) hs
    · cases h
  | .ix a i, X, G, W, L, Γ, e, cx, h => by
    have hs := chk_sound (.ix a i) cx h
    unfold chk at h
    split at h
    · exact st_val (fun _ => rfl) hs
    · cases h
  | .call k es, X, G, W, L, Γ, e, cx, h => by
    have hs := chk_sound (.call k es) cx h
    unfold chk at h
    split at h
    · exact st_val (fun _ => rfl) hs
    · cases h
  | .blt b es, X, G, W, L, Γ, e, cx, h => by
    have hs := chk_sound (.blt b es) cx h
    refine st_val (isTrue_plain' ?_ _) hs
    unfold chk at h
    split at h
    · split at h
      · split at h
        · rfl
        · cases h
      · cases h
    split at h
    · split at h
      · split at h
        · rfl
        · cases h
      · cases h
    split at h
    · split at h
      · split at h
        · rfl
        · cases h
      · cases h
    · split at h
      · rfl
      · cases h
  | .none, X, G, W, L, Γ, e, cx, h => by
    have hs := chk_sound (.none) cx h
    unfold chk at h
    split at h
    · exact st_val (fun _ => rfl) hs
    · cases h
  | .int i, X, G, W, L, Γ, e, cx, h => by
    have hs := chk_sound (.int i) cx h
    unfold chk at h
    split at h
    · exact st_val (fun _ => rfl) hs
    · cases h
  | .str i, X, G, W, L, Γ, e, cx, h => by
    have hs := chk_sound (.str i) cx h
    unfold chk at h
    split at h
    · exact st_val (fun _ => rfl) hs
    · cases h
  | .glob i, X, G, W, L, Γ, e, cx, h => by
    have hs := chk_sound (.glob i) cx h
    unfold chk at h
    split at h
    · exact st_val (fun _ => rfl) hs
    · cases h
  | .tup i, X, G, W, L, Γ, e, cx, h => by
    have hs := chk_sound (.tup i) cx h
    unfold chk at h
    split at h
    · exact st_val (fun _ => rfl) hs
    · cases h
  | .lst i, X, G, W, L, Γ, e, cx, h => by
    have hs := chk_sound (.lst i) cx h
    unfold chk at h
    split at h
    · exact st_val (fun _ => rfl) hs
    · cases h
  | .neg i, X, G, W, L, Γ, e, cx, h => by
    have hs := chk_sound (.neg i) cx h
    unfold chk at h
    split at h
    · exact st_val (fun _ => rfl) hs
    · cases h
  | .rev i, X, G, W, L, Γ, e, cx, h => by
    have hs := chk_sound (.rev i) cx h
    unfold chk at h
    split at h
    · exact st_val (fun _ => rfl) hs
    · cases h
  | .bin o a b, X, G, W, L, Γ, e, cx, h => by
    have hs := chk_sound (.bin o a b) cx h
    unfold chk at h
    split at h
    · exact st_val (fun _ => rfl) hs
    · cases h
  | .sl a b c, X, G, W, L, Γ, e, cx, h => by
    have hs := chk_sound (.sl a b c) cx h
    unfold chk at h
    split at h
    · exact st_val (fun _ => rfl) hs
    · cases h
  | .ite c a b, X, G, W, L, Γ, e, cx, h => by
    unfold chk at h
    split at h
    · simp only [Bool.and_eq_true] at h
      exact st_ite (chkT_sound c cx h.1.1) (chkT_sound a cx h.1.2) (chkT_sound b cx h.2)
    · cases h
  | .comp t s c a o, X, G, W, L, Γ, e, cx, h => by
    have hs := chk_sound (.comp t s c a o) cx h
    unfold chk at h
    split at h
    · exact st_val (fun _ => rfl) hs
    · cases h
  | .dict ks es, X, G, W, L, Γ, e, cx, h => by
    have hs := chk_sound (.dict ks es) cx h
    unfold chk at h
    split at h
    · exact st_val (fun _ => rfl) hs
    · cases h
  | .compR t s c a o, X, G, W, L, Γ, e, cx, h => by
    have hs := chk_sound (.compR t s c a o) cx h
    unfold chk at h
    split at h
    · exact st_val (fun _ => rfl) hs
    · cases h
  | .tupR es, X, G, W, L, Γ, e, cx, h => by
    have hs := chk_sound (.tupR es) cx h
    unfold chk at h
    split at h
    · exact st_val (fun _ => rfl) hs
    · cases h
  | .dictR ks vs, X, G, W, L, Γ, e, cx, h => by
    have hs := chk_sound (.dictR ks vs) cx h
    refine st_val (isTrue_plain' ?_ _) hs
    unfold chk at h
    split at h
    · split at h
      · rfl
      · cases h
    · split at h
      · rfl
      · cases h
    · cases h
  | .isx a y tab, X, G, W, L, Γ, e, cx, h => by
    have hs := chk_sound (.isx a y tab) cx h
    unfold chk at h
    split at h
    · exact st_val (fun _ => rfl) hs
    · cases h
  | .fld cs o f, X, G, W, L, Γ, e, cx, h => by
    have hs := chk_sound (.fld cs o f) cx h
    unfold chk at h
    split at h
    · exact st_val (fun _ => rfl) hs
    · cases h
  | .lenc c k o, X, G, W, L, Γ, e, cx, h => by
    have hs := chk_sound (.lenc c k o) cx h
    unfold chk at h
    split at h
    · exact st_val (fun _ => rfl) hs
    · cases h
  | .mcall c m k o es, X, G, W, L, Γ, e, cx, h => by
    have hs := chk_sound (.mcall c m k o es) cx h
    unfold chk at h
    split at h
    · exact st_val (fun _ => rfl) hs
    · cases h
  | .make c k es, X, G, W, L, Γ, e, cx, h => by
    have hs := chk_sound (.make c k es) cx h
    unfold chk at h
    split at h
    · exact st_val (fun _ => rfl) hs
    · cases h
  | .lstR es, X, G, W, L, Γ, e, cx, h => by
    have hs := chk_sound (.lstR es) cx h
    unfold chk at h
    split at h
    · exact st_val (fun _ => rfl) hs
    · cases h
  | .alloc a, X, G, W, L, Γ, e, cx, h => by
    have hs := chk_sound (.alloc a) cx h
    refine st_val (isTrue_plain' ?_ _) hs
    unfold chk at h
    cases a <;> first | (unfold chkF at h; cases h; done) | skip
    · unfold chkF at h; split at h
      · rfl
      · cases h
    · rename_i o x y
      cases o <;> first | (unfold chkF at h; cases h; done) | skip
      unfold chkF at h; split at h
      · rfl
      · cases h
    · rename_i b es
      cases b <;> first | (unfold chkF at h; cases h; done) | skip
      unfold chkF at h; split at h
      · rfl
      · cases h
    · unfold chkF at h; split at h
      · rfl
      · cases h
  | .no, X, G, W, L, Γ, e, cx, h => by unfold chk at h; cases h
  | .lock a, X, G, W, L, Γ, e, cx, h => by
    have hs := chk_sound (.lock a) cx h
    unfold chk at h
    split at h
    · exact st_val (fun _ => rfl) hs
    · cases h
  | .mth m o es, X, G, W, L, Γ, e, cx, h => by
    have hs := chk_sound (.mth m o es) cx h
    refine st_val (isTrue_plain' ?_ _) hs
    unfold chk at h
    split at h
    · split at h
      · rfl
      · cases h
    · split at h
      · rfl
      · cases h
    · split at h
      · rfl
      · cases h
    · cases h
  | .mst m o es, X, G, W, L, Γ, e, cx, h => by
    have hs := chk_sound (.mst m o es) cx h
    refine st_val (isTrue_plain' ?_ _) hs
    unfold chk at h
    split at h
    · split at h
      · rfl
      · cases h
    · split at h
      · rfl
      · cases h
    · split at h
      · rfl
      · cases h
    · cases h
theorem chkP_sound : ∀ (es : Ces) {X : Cx} {G : Gx} {W : WX} {L : Lib} {Γ : Gam} {ks : List Str} {keys : List (Option Expr)} {xs : List Expr} {pos : Pos}, Ctx X G W L Γ → chkK ks keys = true → chks Γ es xs = true → ks.length = es.len → PPs X pos keys xs (trsD G W L ks es)
  | .nil, X, G, W, L, Γ, ks, keys, xs, pos, cx, hk, h, hl => by
    unfold chks at h
    cases ks with
    | nil =>
      unfold chkK at hk
      cases keys with
      | nil => cases xs with
        | nil => exact pps_nil
        | cons _ _ => cases h
      | cons _ _ => cases hk
    | cons _ _ => simp [Ces.len] at hl
  | .cons a as, X, G, W, L, Γ, ks, keys, xs, pos, cx, hk, h, hl => by
    unfold chks at h
    cases ks with
    | nil => simp [Ces.len] at hl
    | cons k ks =>
      cases xs with
      | nil => cases h
      | cons x xs =>
        simp only [Bool.and_eq_true] at h
        unfold chkK at hk
        split at hk
        · simp only [Bool.and_eq_true, decide_eq_true_eq] at hk
          have ek := hk.1
          subst ek
          exact pps_cons (tk := tK_ k) pe_str (chk_sound a cx h.1.1) (chkP_sound as cx hk.2 h.1.2 (by simpa [Ces.len] using hl))
        · cases hk
theorem chkC_sound : ∀ (es : Ces) {X : Cx} {G : Gx} {L : Lib} {Γ : Gam} {xs : List Expr}, Ctx X G W0 L Γ → chkC Γ es xs = true → ST1 X G L es xs
  | .nil, X, G, L, Γ, xs, cx, h => by
    unfold chkC at h
    cases xs with
    | nil => exact sc_nil
    | cons _ _ => cases h
  | .cons a as, X, G, L, Γ, xs, cx, h => by
    unfold chkC at h
    split at h
    · exact sc_one (chkT_sound a cx h)
    · cases h
theorem chkO_sound : ∀ (c : Ce) {X : Cx} {G : Gx} {W : WX} {L : Lib} {Γ : Gam} {e : Option Expr}, Ctx X G W L Γ → chkO Γ c e = true → SO X G W L c e := fun c {X G W L Γ e} cx h => by
  unfold chkO chkOp at h
  cases e with
  | none => cases c <;> first | exact so_no | (simp at h)
  | some e =>
    by_cases hn : c = .no
    · subst hn; simp [chk] at h
    · exact so_some hn (chk_sound c cx h)
theorem chkI_sound : ∀ (c : Ci) {X : Cx} {G : Gx} {W : WX} {L : Lib} {Γ : Gam} {tg e : Expr}, Ctx X G W L Γ → chkI Γ c e (isTuple tg) = true → PI X tg e (tIs G W (denI L c))
  | .seq a, X, G, W, L, Γ, tg, e, cx, h => by
    unfold chkI at h
    simp only [Bool.and_eq_true] at h
    exact si_seq cx.ok.hK (chk_sound a cx h.1)
  | .range1 a, X, G, W, L, Γ, tg, e, cx, h => by
    unfold chkI at h
    split at h
    · simp only [Bool.and_eq_true, decide_eq_true_eq] at h
      have ef := h.1.1.1
      have ⟨g1, _⟩ := cx.glo h.1.1.2
      subst ef
      exact si_range1 h.2 g1 (cx.blt _ (by decide +kernel)) (chk_sound a cx h.1.2)
    · cases h
  | .range2 a b, X, G, W, L, Γ, tg, e, cx, h => by
    unfold chkI at h
    split at h
    · simp only [Bool.and_eq_true, decide_eq_true_eq] at h
      have ef := h.1.1.1.1.1
      have ⟨g1, _⟩ := cx.glo h.1.1.1.1.2
      subst ef
      exact si_range2 h.1.2 h.2 g1 (cx.blt _ (by decide +kernel)) (chk_sound a cx h.1.1.1.2) (chk_sound b cx h.1.1.2)
    · cases h
  | .enum a, X, G, W, L, Γ, tg, e, cx, h => by
    unfold chkI at h
    split at h
    · simp only [Bool.and_eq_true, decide_eq_true_eq] at h
      have ef := h.1.1.1.2
      have ⟨g1, _⟩ := cx.glo h.1.1.2
      subst ef
      have ht := h.1.1.1.1
      cases tg <;> first | (simp [isTuple] at ht; done) | skip
      exact si_enum cx.ok.hK h.2 g1 (cx.blt _ (by decide +kernel)) (chk_sound a cx h.1.2)
    · cases h
  | .zip a b, X, G, W, L, Γ, tg, e, cx, h => by
    unfold chkI at h
    split at h
    · simp only [Bool.and_eq_true, decide_eq_true_eq] at h
      have ef := h.1.1.1.1.1.2
      have ⟨g1, _⟩ := cx.glo h.1.1.1.1.2
      subst ef
      have ht := h.1.1.1.1.1.1
      cases tg <;> first | (simp [isTuple] at ht; done) | skip
      exact si_zip cx.ok.hK h.1.2 h.2 g1 (cx.blt _ (by decide +kernel)) (chk_sound a cx h.1.1.1.2) (chk_sound b cx h.1.1.2)
    · cases h
  | .ezip a b, X, G, W, L, Γ, tg, e, cx, h => by
    unfold chkI at h
    split at h
    · simp only [Bool.and_eq_true, decide_eq_true_eq] at h
      have eg := h.1.1.1.1.1.1.1.2
      have ⟨g2, _⟩ := cx.glo h.1.1.1.1.1.1.2
      have ef := h.1.1.1.1.1.2
      have ⟨g1, _⟩ := cx.glo h.1.1.1.1.2
      subst ef eg
      have ht := h.1.1.1.1.1.1.1.1
      cases tg <;> first | (simp [isTuple] at ht; done) | skip
      exact si_ezip cx.ok.hK h.1.2 h.2 g1 (cx.blt _ (by decide +kernel)) g2 (cx.blt _ (by decide +kernel)) (chk_sound a cx h.1.1.1.2) (chk_sound b cx h.1.1.2)
    · cases h
end
end L2

set_option Elab.async false
set_option linter.all false
set_option autoImplicit false
set_option maxRecDepth 100000
set_option maxHeartbeats 4000000
/-! ZC: the look at statements; a def keeps its meaning's promise. -/
namespace L2
open PySem PySem.Spec PyProof.Rows Z
theorem alloc_reads {X : Cx} {G : Gx} {W : WX} {L : Lib} {a : Ce} {σ : St} {H : Hp} {Q : VK} (q : tE G W (den L (.alloc a)) σ H Q) : tF G W (denF L a) σ H Q := by
  obtain ⟨A, ρ, en, h, S, E, P⟩ := q
  simp only [den] at P
  refine ⟨A, ρ, en, h, S, E, ?_⟩
  cases hd : denF L a en h with
  | exc c h1 => rw [hd] at P; exact P
  | bad => rw [hd] at P; exact P
  | ok v h1 =>
    rw [hd] at P
    simp only [Res.bind_ok] at P
    intro ρ' H' q xs ds ev X1 S1 hn hl rp
    subst ev
    simp only [allocV] at P
    have nA : ¬ A q := fun z => (S.far q z).1 hn
    have S2 := S1.alloc nA hl rp
    exact P _ H' _ (X1.adopt hn) S2 (.ref (by rw [← S1.len]; simp))
theorem ss_setlcA {X : Cx} {G : Gx} {W : WX} {L : Lib} {tg iter elt : Expr} {pos : Pos} (ok : Okx X G W) {i : Nat} {y : Str} {py spos : Pos} {t : Ct} {src : Ci} {c : Ces} {a : Ce} {own : List (Str × Nat)} {scope : Scope} {ifs : List Expr} (hy : X.N[i]? = some y) (hyl : X.env.scope.names.lookup y = some .local)
    (hsw : swapsWith (.ListComp elt [⟨tg, iter, ifs, 0⟩] scope pos) (some (.Name y py)) spos.line X.env = pure true) (hown : ∀ i ∈ tG.slotsT t, i ∈ own.map (·.2)) (hp : plainE iter = true) (hi : PI X tg iter (tIs G W (denI L src))) (blk : BlkOk X.N X.env.scope scope own)
    (hg : ∀ (s : Shared) (H : Hp) (C : Addr) (cl : List (Str × Addr)) (fp : List Addr), PG (X.blk s H scope (compEnvC scope cl C X.env) fp) tg (tG G t))
    (ht : ∀ (s : Shared) (H : Hp) (C : Addr) (cl : List (Str × Addr)) (fp : List Addr), ST1 (X.blk s H scope (compEnvC scope cl C X.env) fp) G L c ifs)
    (he : ∀ (s : Shared) (H : Hp) (C : Addr) (cl : List (Str × Addr)) (fp : List Addr), SE (X.blk s H scope (compEnvC scope cl C X.env) fp) G W0 L a elt) :
    SS X G W L (.set i (.alloc (.comp t src c a (own.map (·.2))))) (.Assign [.Name y py] (.ListComp elt [⟨tg, iter, ifs, 0⟩] scope pos) spos) :=
  (ps_setLc ok.calm ok.nd hy hyl hsw hi blk hg ht he (plain_fold hp X.env)).imp fun D σ H q => set_reads (fun Q z => by
    obtain ⟨A, ρ, en, h, S, E, P⟩ := alloc_reads (X := X) z
    exact comp_reads hown S E (by rw [denF_comp] at P; exact P)) q

theorem ss_setlcR {X : Cx} {G : Gx} {W : WX} {L : Lib} {tg iter elt : Expr} {pos : Pos} (ok : Okx X G W) {i : Nat} {y : Str} {py spos : Pos} {t : Ct} {src : Ci} {c : Ces} {a : Ce} {own : List (Str × Nat)} {scope : Scope} {ifs : List Expr} (hy : X.N[i]? = some y) (hyl : X.env.scope.names.lookup y = some .local)
    (hsw : swapsWith (.ListComp elt [⟨tg, iter, ifs, 0⟩] scope pos) (some (.Name y py)) spos.line X.env = pure true) (hown : ∀ i ∈ tG.slotsT t, i ∈ own.map (·.2)) (hp : plainE iter = true) (hi : PI X tg iter (tIs G W (denI L src))) (blk : BlkOk X.N X.env.scope scope own)
    (hg : ∀ (s : Shared) (H : Hp) (C : Addr) (cl : List (Str × Addr)) (fp : List Addr), PG (X.blk s H scope (compEnvC scope cl C X.env) fp) tg (tG G t))
    (ht : ∀ (s : Shared) (H : Hp) (C : Addr) (cl : List (Str × Addr)) (fp : List Addr), ST1 (X.blk s H scope (compEnvC scope cl C X.env) fp) G L c ifs)
    (he : ∀ (s : Shared) (H : Hp) (C : Addr) (cl : List (Str × Addr)) (fp : List Addr), SE (X.blk s H scope (compEnvC scope cl C X.env) fp) G W0 L a elt) :
    SS X G W L (.set i (.compR t src c a (own.map (·.2)))) (.Assign [.Name y py] (.ListComp elt [⟨tg, iter, ifs, 0⟩] scope pos) spos) :=
  (ps_setLc ok.calm ok.nd hy hyl hsw hi blk hg ht he (plain_fold hp X.env)).imp fun D σ H q => set_reads (fun Q ⟨A, ρ, en, h, S, E, P⟩ => compR_reads hown S E (by rw [den_compR] at P; exact P)) q

def kindFn (sc : Scope) : Bool := match sc.kind with
  | .function => true
  | _ => false
theorem kindFn_eq {sc : Scope} (h : kindFn sc = true) : sc.kind = .function := by
  unfold kindFn at h
  split at h
  · assumption
  · cases h
def lclB (Γ : Gam) (x : Str) : Bool := match kindB Γ x with
  | some .local => true
  | _ => false
theorem lclB_eq {Γ : Gam} {x : Str} (h : lclB Γ x = true) : Γ.sc.names.lookup x = some .local := by
  unfold lclB kindB at h
  split at h
  · assumption
  · cases h
/-- the comprehension's value goes straight to a local name -/
def lcTo (Γ : Gam) (x : Str) (p : Pos) (scope : Scope) (pos : Pos) : Bool := lclB Γ x && kindFn Γ.sc && (p.line == pos.line) && !(scope.names.any fun (n, k) => n == x && (k == .local || k == .cell))
def celB (Γ : Gam) (x : Str) : Bool := match kindB Γ x with
  | some .cell => true
  | _ => false
def isLC : Expr → Bool
  | .ListComp .. => true
  | _ => false
def setB (Γ : Gam) (x : Str) (p : Pos) (e : Expr) : Bool := noComp e || (isLC e && celB Γ x)
theorem setB_sw {X : Cx} {G : Gx} {W : WX} {L : Lib} {Γ : Gam} (cx : Ctx X G W L Γ) {x : Str} {p : Pos} {e : Expr} (h : setB Γ x p e = true) (l : Nat) : swapsWith e (some (.Name x p)) l X.env = pure false := by
  unfold setB at h
  rw [Bool.or_eq_true] at h
  rcases h with h | h
  · exact noComp_swaps h _ _ _
  · simp only [Bool.and_eq_true] at h
    have hk : X.env.kindOf x = some .cell := by
      show X.env.scope.names.lookup x = _
      rw [cx.sc]
      have q := h.2
      unfold celB kindB at q
      split at q
      · assumption
      · cases q
    cases e <;> first | (simp [isLC] at h; done) | skip
    unfold swapsWith
    have hf : (NameKind.cell == NameKind.local) = false := rfl
    simp [hk, hf]
def par2B (Γ : Gam) (i j : Nat) (x y : Str) (px py : Pos) (a b : Expr) : Bool :=
  decide (i ≠ j) && atB Γ i x && atB Γ j y && lclB Γ x && lclB Γ y && kindFn Γ.sc && (py.line == px.line) && decide (x ≠ y) && plainE a && plainE b && !(foldedForSure 8 a && foldedForSure 8 b) && !(constantsAlone 8 a && constantsAlone 8 b)
theorem swapped2 {env : PySem.Env} {x y : Str} {px py pt : Pos} {kt k2 : Nat} {pt2 : Pos} {a b : Expr} (hk : env.scope.kind = .function) (hx : env.kindOf x = some .local) (hy : env.kindOf y = some .local) (hl : (py.line == px.line) = true) (hn : x ≠ y) (ha : plainE a = true) (hb : plainE b = true)
    (hf : (foldedForSure 8 a && foldedForSure 8 b) = false) (hc : (constantsAlone 8 a && constantsAlone 8 b) = false) : swappedStores [.Tuple [.Name x px, .Name y py] kt pt] (.Tuple [a, b] k2 pt2) env = pure (some [x, y]) := by
  have hb' : env.blockKind = .function := by unfold PySem.Env.blockKind; rw [hk]; rfl
  have ed : [x, y].eraseDups.length = 2 := by
    have : (y == x) = false := by simpa using fun e => hn e.symm
    simp [List.eraseDups_cons, this]
  have hl' : (py.line == px.line) = true := hl
  unfold swappedStores
  simp only [hb']
  simp [hx, hy, hf, hc, ed, Expr.pos, beq_iff_eq.mp hl]
  intro h
  exfalso
  rcases h with h | h
  · cases a <;> first | (simp [plainE] at ha; done) | (simp at h; done)
  · cases b <;> first | (simp [plainE] at hb; done) | (simp at h; done)
def par3B (Γ : Gam) (i j k : Nat) (x y z : Str) (px py pz : Pos) (a b c : Expr) : Bool :=
  decide (i ≠ j) && decide (i ≠ k) && decide (j ≠ k) && atB Γ i x && atB Γ j y && atB Γ k z && lclB Γ x && lclB Γ y && lclB Γ z && kindFn Γ.sc && (py.line == px.line) && (pz.line == px.line) && decide (x ≠ y) && decide (x ≠ z) && decide (y ≠ z) && plainE a && plainE b && plainE c && !(foldedForSure 8 a && (foldedForSure 8 b && foldedForSure 8 c)) && !(constantsAlone 8 a && (constantsAlone 8 b && constantsAlone 8 c))
theorem swapped3 {env : PySem.Env} {x y z : Str} {px py pz pt : Pos} {kt k2 : Nat} {pt2 : Pos} {a b c : Expr} (hk : env.scope.kind = .function) (hx : env.kindOf x = some .local) (hy : env.kindOf y = some .local) (hz : env.kindOf z = some .local) (hl : (py.line == px.line) = true) (hl2 : (pz.line == px.line) = true) (hn : x ≠ y) (hn2 : x ≠ z) (hn3 : y ≠ z) (ha : plainE a = true) (hb : plainE b = true) (hc0 : plainE c = true)
    (hf : (foldedForSure 8 a && (foldedForSure 8 b && foldedForSure 8 c)) = false) (hc : (constantsAlone 8 a && (constantsAlone 8 b && constantsAlone 8 c)) = false) : swappedStores [.Tuple [.Name x px, .Name y py, .Name z pz] kt pt] (.Tuple [a, b, c] k2 pt2) env = pure (some [x, y, z]) := by
  have hb' : env.blockKind = .function := by unfold PySem.Env.blockKind; rw [hk]; rfl
  have ed : [x, y, z].eraseDups.length = 3 := by
    have h1 : (y == x) = false := by simpa using fun e => hn e.symm
    have h2 : (z == x) = false := by simpa using fun e => hn2 e.symm
    have h3 : (z == y) = false := by simpa using fun e => hn3 e.symm
    simp [List.eraseDups_cons, h1, h2, h3]
  have hl' : (py.line == px.line) = true := hl
  unfold swappedStores
  simp only [hb']
  simp [hx, hy, hz, hf, hc, ed, Expr.pos, beq_iff_eq.mp hl, beq_iff_eq.mp hl2]
  intro h
  exfalso
  rcases h with h | h | h
  · cases a <;> first | (simp [plainE] at ha; done) | (simp at h; done)
  · cases b <;> first | (simp [plainE] at hb; done) | (simp at h; done)
  · cases c <;> first | (simp [plainE] at hc0; done) | (simp at h; done)

def loOk (Γ : Gam) (line : Nat) : Expr → Bool
  | .Name x pos => (match kindB Γ x with
    | some .local => true
    | _ => false) && pos.line == line
  | _ => false
def noSwap (Γ : Gam) : Expr → Expr → Bool
  | .Tuple ts _ _, .Tuple _ _ _ => !(ts.length == 2 || ts.length == 3) || !(ts.all (loOk Γ ((ts.head?.map (·.pos.line)).getD 0)))
  | _, e => noTuple e
theorem noSwap_stores {X : Cx} {G : Gx} {W : WX} {L : Lib} {Γ : Gam} (cx : Ctx X G W L Γ) {tg e : Expr} (h : noSwap Γ tg e = true) : swappedStores [tg] e X.env = pure none := by
  unfold noSwap at h
  split at h
  · rename_i ts k p vs k2 p2
    unfold swappedStores
    simp only
    split
    · rfl
    rename_i hlen
    split
    · rfl
    split
    · rfl
    · rename_i _ _ hn
      exfalso
      have hl : (!(ts.length == 2 || ts.length == 3)) = false := by
        cases q : (!(ts.length == 2 || ts.length == 3)) with
        | false => rfl
        | true => exact absurd (by rw [q]; rfl) hlen
      rw [hl, Bool.false_or] at h
      simp only [Bool.or_eq_true, bne_iff_ne, ne_eq, not_or, Decidable.not_not] at hn
      have h1 := List.filterMap_length_eq_length.mp hn.1
      have h2 : ts.all (loOk Γ ((ts.head?.map (·.pos.line)).getD 0)) = true := List.all_eq_true.mpr fun t ht => by
        have q := h1 t ht
        cases t <;> first | (simp at q; done) | skip
        rename_i x pos
        unfold loOk kindB
        simp only at q
        split at q
        · rename_i hq
          have hk : X.env.kindOf x = Γ.sc.names.lookup x := by
            show X.env.scope.names.lookup x = _
            rw [cx.sc]
          rw [hk] at hq
          simp only [Bool.and_eq_true] at hq
          have e1 := hq.1
          rw [Bool.and_eq_true]
          refine ⟨?_, hq.2⟩
          revert e1
          cases Γ.sc.names.lookup x with
          | none => intro e1; exact absurd e1 (by decide)
          | some k => cases k <;> intro e1 <;> first | rfl | exact absurd e1 (by decide)
        · simp at q
      rw [h2] at h
      cases h
  · exact noTuple_stores h _ _
mutual
def chkS (Γ : Gam) : Cs → Stmt → Bool
  | .set i a, s => match s with
    | .Assign [.Name x p] e _ => match e with
      | .ListComp elt [⟨tg, iter, ifs, k⟩] scope pos => atB Γ i x && (if lcTo Γ x p scope pos then (match a with
        | .comp t src c b own => decide (k = 0) && chkI Γ src iter (isTuple tg) && blkC Γ.N Γ.sc scope (ownOf Γ own) && ((tG.slotsT t).all fun i => own.contains i) && chkTg (inBlk Γ scope) t tg && chkC (inBlk Γ scope) c ifs && chk (inBlk Γ scope) b elt
        | .compR t src c b own => decide (k = 0) && chkI Γ src iter (isTuple tg) && blkC Γ.N Γ.sc scope (ownOf Γ own) && ((tG.slotsT t).all fun i => own.contains i) && chkTg (inBlk Γ scope) t tg && chkC (inBlk Γ scope) c ifs && chk (inBlk Γ scope) b elt
        | .alloc (.comp t src c b own) => decide (k = 0) && chkI Γ src iter (isTuple tg) && blkC Γ.N Γ.sc scope (ownOf Γ own) && ((tG.slotsT t).all fun i => own.contains i) && chkTg (inBlk Γ scope) t tg && chkC (inBlk Γ scope) c ifs && chk (inBlk Γ scope) b elt
        | _ => false) else locB Γ x && celB Γ x && chk Γ a e)
      | _ => atB Γ i x && locB Γ x && noComp e && chk Γ a e
    | _ => false
  | .par is es, s => match is, s with
    | [i, j], .Assign [.Tuple [.Name x px, .Name y py] _ _] (.Tuple [a, b] _ _) _ => par2B Γ i j x y px py a b && chks Γ es [a, b]
    | [i, j, k], .Assign [.Tuple [.Name x px, .Name y py, .Name z pz] _ _] (.Tuple [a, b, c] _ _) _ => par3B Γ i j k x y z px py pz a b c && chks Γ es [a, b, c]
    | _, _ => false
  | .asg t a, s => match s with
    | .Assign [tg] e _ => noComp e && noSwap Γ tg e && chkTg Γ t tg && chk Γ a e
    | _ => false
  | .aug i a, s => match s with
    | .AugAssign (.Name x _) .Add e _ => atB Γ i x && locB Γ x && chk Γ a e
    | _ => false
  | .sub o i a, s => match s with
    | .Assign [.Subscript x y _] e _ => plainE y && chk Γ o x && chk Γ i y && chk Γ a e
    | _ => false
  | .expr a, s => match s with
    | .Expr e _ => noComp e && chk Γ a e
    | _ => false
  | .ret a, s => match s with
    | .Return (some e) _ => chk Γ a e
    | _ => false
  | .ite c a b, s => match s with
    | .If e x y _ => chk Γ c e && chkSs Γ a x && chkSs Γ b y
    | _ => false
  | .for_ t src b, s => match s with
    | .For tg iter body [] _ => chkTg Γ t tg && chkI Γ src iter (isTuple tg) && chkSs Γ b body
    | _ => false
  | .while_ c b, s => match s with
    | .While e body [] _ => chk Γ c e && chkSs Γ b body
    | _ => false
  | .raise c, s => match s with
    | .Raise (some (.Call (.Name x _) [.Constant (.str _) _ _] [] _)) none _ => decide (c = x) && glB Γ x && Γ.ex.contains x
    | _ => false
  | .pass, s => match s with
    | .Pass _ => true
    | _ => false
  | .tryx b i j xc subs, s => match s with
    | .Try body [.ExceptHandler (some (.Name x _)) (some n) [.Assign [.Name y _] (.Name n2 _) _] _] [] [] _ => Γ.tr && decide (x = xc) && glB Γ x && Γ.cl.contains x && decide (n2 = n) && atB Γ i n && lclB Γ n && atB Γ j y && locB Γ y && !(n == ("__debug__" : Str)) && !(n == ("__classdict__" : Str)) && subs.all (fun z => Γ.exm.contains (z, x)) && chkSs { Γ with tr := false } b body
    | _ => false
  | .setf cs o f a, s => match s with
    | .Assign [.Attribute x g _] e _ => decide (g = f) && noComp e && cs.all (fun c => Γ.kl.contains c && Γ.na.contains (c, f)) && chk Γ o x && chk Γ a e
    | _ => false
  | .asgs ts es, s => match s with
    | .Assign [.Tuple tgs k p] (.Tuple xs k2 p2) _ => noSwap Γ (.Tuple tgs k p) (.Tuple xs k2 p2) && chkTgs Γ ts tgs && chks Γ es xs && decide (ts.length ≤ 100)
    | _ => false
def chkSs (Γ : Gam) : Css → List Stmt → Bool
  | .nil, ss => ss.isEmpty
  | .cons c cs, ss => match ss with
    | s :: ss => chkS Γ c s && chkSs Γ cs ss
    | [] => false
end
mutual
theorem chkS_sound : ∀ (c : Cs) {X : Cx} {G : Gx} {W : WX} {L : Lib} {Γ : Gam} {s : Stmt}, Ctx X G W L Γ → chkS Γ c s = true → SS X G W L c s
  | .set i a, X, G, W, L, Γ, s, cx, h => by
    unfold chkS at h
    split at h
    · split at h
      · simp only [Bool.and_eq_true] at h
        have h0 := h.1
        have h2 := h.2
        split at h2
        · rename_i hto
          unfold lcTo at hto
          simp only [Bool.and_eq_true] at hto
          have hl := lclB_eq hto.1.1.1
          have hk := kindFn_eq hto.1.1.2
          have hsw : ∀ {elt : Expr} {gs : List Comprehension} {l : Nat}, swapsWith (.ListComp elt gs _ _) (some (.Name _ _)) l X.env = pure true := fun {elt gs l} => sw_true (by rw [cx.sc]; exact hk) (by rw [cx.sc]; exact hl) hto.1.2 (by have q := hto.2; rw [Bool.not_eq_true'] at q; exact q)
          split at h2
          · rename_i t src c b own
            simp only [Bool.and_eq_true, decide_eq_true_eq] at h2
            have ek := h2.1.1.1.1.1.1
            subst ek
            have hI := h2.1.1.1.1.1.2
            have hO := h2.1.1.1.2
            have key := fun (spos : Pos) => ss_setlc (spos := spos) (X := X) (G := G) (W := W) (L := L) (t := t) (src := src) (c := c) (a := b) (own := ownOf Γ own) cx.ok (cx.at_ h0) (by rw [cx.sc]; exact hl) hsw (by rw [ownOf_snd]; intro i hi; have := List.all_eq_true.mp hO i hi; simpa using this) (chkI_plain hI) (chkI_sound src cx hI) (by rw [cx.N, cx.sc]; exact blkOk_by h2.1.1.1.1.2)
              (fun s H C cl fp => chkTg_sound (cx.blk (s := s) (H := H) (C := C) (cl := cl) (fp := fp)) h2.1.1.2) (fun s H C cl fp => chkC_sound c cx.blk h2.1.2) (fun s H C cl fp => chk_sound b cx.blk h2.2)
            simp only [ownOf_snd] at key
            exact key _
          · rename_i t src c b own
            simp only [Bool.and_eq_true, decide_eq_true_eq] at h2
            have ek := h2.1.1.1.1.1.1
            subst ek
            have hI := h2.1.1.1.1.1.2
            have hO := h2.1.1.1.2
            have key := fun (spos : Pos) => ss_setlcR (spos := spos) (X := X) (G := G) (W := W) (L := L) (t := t) (src := src) (c := c) (a := b) (own := ownOf Γ own) cx.ok (cx.at_ h0) (by rw [cx.sc]; exact hl) hsw (by rw [ownOf_snd]; intro i hi; have := List.all_eq_true.mp hO i hi; simpa using this) (chkI_plain hI) (chkI_sound src cx hI) (by rw [cx.N, cx.sc]; exact blkOk_by h2.1.1.1.1.2)
              (fun s H C cl fp => chkTg_sound (cx.blk (s := s) (H := H) (C := C) (cl := cl) (fp := fp)) h2.1.1.2) (fun s H C cl fp => chkC_sound c cx.blk h2.1.2) (fun s H C cl fp => chk_sound b cx.blk h2.2)
            simp only [ownOf_snd] at key
            exact key _
          · rename_i t src c b own
            simp only [Bool.and_eq_true, decide_eq_true_eq] at h2
            have ek := h2.1.1.1.1.1.1
            subst ek
            have hI := h2.1.1.1.1.1.2
            have hO := h2.1.1.1.2
            have key := fun (spos : Pos) => ss_setlcA (spos := spos) (X := X) (G := G) (W := W) (L := L) (t := t) (src := src) (c := c) (a := b) (own := ownOf Γ own) cx.ok (cx.at_ h0) (by rw [cx.sc]; exact hl) hsw (by rw [ownOf_snd]; intro i hi; have := List.all_eq_true.mp hO i hi; simpa using this) (chkI_plain hI) (chkI_sound src cx hI) (by rw [cx.N, cx.sc]; exact blkOk_by h2.1.1.1.1.2)
              (fun s H C cl fp => chkTg_sound (cx.blk (s := s) (H := H) (C := C) (cl := cl) (fp := fp)) h2.1.1.2) (fun s H C cl fp => chkC_sound c cx.blk h2.1.2) (fun s H C cl fp => chk_sound b cx.blk h2.2)
            simp only [ownOf_snd] at key
            exact key _
          · cases h2
        · simp only [Bool.and_eq_true] at h2
          have ⟨h3, h4⟩ := cx.loc h2.1.1
          exact ss_set cx.ok.nd (cx.at_ h0) h3 h4 (setB_sw cx (by unfold setB; rw [h2.1.2]; rfl) _) (chk_sound a cx h2.2)
      · simp only [Bool.and_eq_true] at h
        have ⟨h3, h4⟩ := cx.loc h.1.1.2
        exact ss_set cx.ok.nd (cx.at_ h.1.1.1) h3 h4 (noComp_swaps h.1.2 _ _ _) (chk_sound a cx h.2)
    · cases h
  | .par is es, X, G, W, L, Γ, s, cx, h => by
    unfold chkS at h
    split at h
    · simp only [Bool.and_eq_true] at h
      have h1 := h.1
      unfold par2B at h1
      simp only [Bool.and_eq_true, decide_eq_true_eq, Bool.not_eq_true'] at h1
      have q1 := h1.1.1.1.1.1.1.1.1.1.1.1
      have hx := lclB_eq h1.1.1.1.1.1.1.1.1.2
      have hy := lclB_eq h1.1.1.1.1.1.1.1.2
      have hk := kindFn_eq h1.1.1.1.1.1.1.2
      refine ss_par2 cx.ok (cx.at_ h1.1.1.1.1.1.1.1.1.1.1.2) (cx.at_ h1.1.1.1.1.1.1.1.1.1.2) q1 (by rw [cx.sc]; exact hx) (by rw [cx.sc]; exact hy) ?_ (chks_sound es cx h.2)
      exact swapped2 (by rw [cx.sc]; exact hk) (by show X.env.scope.names.lookup _ = _; rw [cx.sc]; exact hx) (by show X.env.scope.names.lookup _ = _; rw [cx.sc]; exact hy) h1.1.1.1.1.1.2 h1.1.1.1.1.2 h1.1.1.1.2 h1.1.1.2 h1.1.2 h1.2
    · simp only [Bool.and_eq_true] at h
      have h1 := h.1
      unfold par3B at h1
      simp only [Bool.and_eq_true, decide_eq_true_eq, Bool.not_eq_true', and_assoc] at h1
      obtain ⟨n1, n2, n3, a1, a2, a3, l1, l2, l3, kf, p1, p2, d1, d2, d3, q1, q2, q3, f1, f2⟩ := h1
      have hx := lclB_eq l1
      have hy := lclB_eq l2
      have hz := lclB_eq l3
      have hk := kindFn_eq kf
      refine ss_par3 cx.ok (cx.at_ a1) (cx.at_ a2) (cx.at_ a3) n1 n2 n3 (by rw [cx.sc]; exact hx) (by rw [cx.sc]; exact hy) (by rw [cx.sc]; exact hz) ?_ (chks_sound es cx h.2)
      exact swapped3 (by rw [cx.sc]; exact hk) (by show X.env.scope.names.lookup _ = _; rw [cx.sc]; exact hx) (by show X.env.scope.names.lookup _ = _; rw [cx.sc]; exact hy) (by show X.env.scope.names.lookup _ = _; rw [cx.sc]; exact hz) p1 p2 d1 d2 d3 q1 q2 q3 f1 f2
    · cases h
  | .asg t a, X, G, W, L, Γ, s, cx, h => by
    unfold chkS at h
    split at h
    · simp only [Bool.and_eq_true] at h
      exact ss_asg h.1.1.1 (noSwap_stores cx h.1.1.2) (by rw [tgt_each (chkTg_star h.1.2)]; rfl) (chkTg_sound cx h.1.2) (chk_sound a cx h.2)
    · cases h
  | .aug i a, X, G, W, L, Γ, s, cx, h => by
    unfold chkS at h
    split at h
    · simp only [Bool.and_eq_true] at h
      have ⟨h3, h4⟩ := cx.loc h.1.2
      exact ss_aug cx.ok.nd (cx.at_ h.1.1) h3 h4 (chk_sound a cx h.2)
    · cases h
  | .sub o i a, X, G, W, L, Γ, s, cx, h => by
    unfold chkS at h
    split at h
    · simp only [Bool.and_eq_true] at h
      exact ss_sub cx.ok h.1.1.1 (chk_sound o cx h.1.1.2) (chk_sound i cx h.1.2) (chk_sound a cx h.2)
    · cases h
  | .expr a, X, G, W, L, Γ, s, cx, h => by
    unfold chkS at h
    split at h
    · simp only [Bool.and_eq_true] at h
      exact ss_expr h.1 (chk_sound a cx h.2)
    · cases h
  | .ret a, X, G, W, L, Γ, s, cx, h => by
    unfold chkS at h
    split at h
    · exact ss_ret (chk_sound a cx h)
    · cases h
  | .ite c a b, X, G, W, L, Γ, s, cx, h => by
    unfold chkS at h
    split at h
    · simp only [Bool.and_eq_true] at h
      exact ss_ite (chkT_sound c cx h.1.1) (chkSs_sound a cx h.1.2) (chkSs_sound b cx h.2)
    · cases h
  | .for_ t src b, X, G, W, L, Γ, s, cx, h => by
    unfold chkS at h
    split at h
    · simp only [Bool.and_eq_true] at h
      exact ss_for cx.ok cx.hpo (chkI_plain h.1.2) (chkI_sound src cx h.1.2) (chkTg_sound cx h.1.1) (chkSs_sound b cx h.2)
    · cases h
  | .while_ c b, X, G, W, L, Γ, s, cx, h => by
    unfold chkS at h
    split at h
    · simp only [Bool.and_eq_true] at h
      exact ss_while cx.ok cx.hpo (chkT_sound c cx h.1) (chkSs_sound b cx h.2)
    · cases h
  | .raise c, X, G, W, L, Γ, s, cx, h => by
    unfold chkS at h
    split at h
    · simp only [Bool.and_eq_true, decide_eq_true_eq] at h
      have ec := h.1.1
      subst ec
      have ⟨g1, g2⟩ := cx.glo h.1.2
      obtain ⟨C, bmB, B, nI, iI, q1, q2, q3, q4, q5, q6⟩ := cx.ex _ (by simpa using h.2)
      exact ss_raise cx.ok cx.tk q1 q2 q3 q4 q5 g1 g2 q6
    · cases h
  | .pass, X, G, W, L, Γ, s, cx, h => by
    unfold chkS at h
    split at h
    · exact ss_pass
    · cases h
  | .tryx b i j xc subs, X, G, W, L, Γ, s, cx, h => by
    unfold chkS at h
    split at h
    · simp only [Bool.and_eq_true, decide_eq_true_eq, Bool.not_eq_true', and_assoc] at h
      obtain ⟨t1, e1, g0, c0, e2, a1, l1, a2, l2, n1, n2, s0, b0⟩ := h
      subst e1 e2
      obtain ⟨x1, x2, x3⟩ := cx.try_ t1
      have ⟨g1, g2⟩ := cx.glo g0
      obtain ⟨m1, m2⟩ := cx.cl _ (List.contains_iff_mem.mp c0)
      have ⟨y1, y2⟩ := cx.loc l2
      have hl : X.env.kindOf _ = some .local := (congrArg (fun z : Scope => z.names.lookup _) cx.sc).trans (lclB_eq l1)
      exact ss_tryx cx.ok x1 x2 x3 (cx.at_ a1) hl n1 n2 (cx.at_ a2) y1 y2 ⟨g1, g2, .inl m1⟩ (fun z hz => cx.exm (z, _) (List.contains_iff_mem.mp (List.all_eq_true.mp s0 z hz))) fun W' pn xe tk po => chkSs_sound b (cx.tr tk po) b0
    · cases h
  | .setf cs o f a, X, G, W, L, Γ, s, cx, h => by
    unfold chkS at h
    split at h
    · simp only [Bool.and_eq_true, decide_eq_true_eq] at h
      have ef := h.1.1.1.1
      subst ef
      exact ss_setf h.1.1.1.2 (cx.flds h.1.1.2) (chk_sound o cx h.1.2) (chk_sound a cx h.2)
    · cases h
  | .asgs ts es, X, G, W, L, Γ, s, cx, h => by
    unfold chkS at h
    split at h
    · simp only [Bool.and_eq_true, decide_eq_true_eq] at h
      obtain ⟨q1, q2, q3⟩ := chkTgs_sound cx h.1.1.2
      exact ss_asgs cx.ok (noSwap_stores cx h.1.1.1) q1 q2 q3 h.2 (chks_sound es cx h.1.2)
    · cases h
theorem chkSs_sound : ∀ (cs : Css) {X : Cx} {G : Gx} {W : WX} {L : Lib} {Γ : Gam} {ss : List Stmt}, Ctx X G W L Γ → chkSs Γ cs ss = true → SSs X G W L cs ss
  | .nil, X, G, W, L, Γ, ss, cx, h => by
    unfold chkSs at h
    cases ss with
    | nil => exact ss_nil
    | cons _ _ => cases h
  | .cons c cs, X, G, W, L, Γ, ss, cx, h => by
    unfold chkSs at h
    cases ss with
    | nil => cases h
    | cons s ss =>
      simp only [Bool.and_eq_true] at h
      exact ss_cons (chkS_sound c cx h.1) (chkSs_sound cs cx h.2)
end
end L2

set_option Elab.async false
set_option linter.all false
set_option autoImplicit false
set_option maxRecDepth 100000
set_option maxHeartbeats 4000000
/-! ZD: defs keep the promise of their meanings. -/
namespace L2
open PySem PySem.Spec PyProof.Rows Z
theorem Rp.keepA {G : Gx} {A B : Addr → Prop} {H : Hp} (h : ∀ a, B a → A a) {v : V} {d : PyData} (r : Rp G A H v d) : Rp G B H v d := r.keep (Kp.of (fun a o e n => ⟨e, fun z => n (h a z)⟩) fun _ _ _ e => e)
theorem nodup_take {ρ : List Addr} (nd : ρ.Nodup) {n b : Nat} {a : Addr} (h : ρ[n]? = some a) (hb : b ≤ n) : a ∉ ρ.take b := fun m => by
  obtain ⟨j, hj⟩ := List.getElem?_of_mem m
  rw [List.getElem?_take] at hj
  split at hj
  · rename_i hlt
    have e : j = n := by
      have h1 := (List.getElem?_eq_some_iff.mp hj)
      have h2 := (List.getElem?_eq_some_iff.mp h)
      obtain ⟨l1, e1⟩ := h1
      obtain ⟨l2, e2⟩ := h2
      exact (List.getElem_inj (h₀ := l1) (h₁ := l2) nd).mp (e1.trans e2.symm)
    omega
  · cases hj
theorem mapO_rep {G : Gx} {A B : Addr → Prop} {ρ : List Addr} {H : Hp} {f : Val → Option D} (hf : ∀ {v : Val} {x : V} {d : PyData}, RepV G A ρ H x v → f v = some d → Rp G B H x d) {xs : List V} {vs : List Val} (r : RepVs G A ρ H xs vs) : ∀ {ds : List PyData}, mapO f vs = some ds → RpAll G B H xs ds := by
  induction r with
  | nil => intro ds e; unfold mapO at e; cases e; exact .nil
  | cons r t ih =>
    intro ds e
    unfold mapO at e
    rw [Option.bind_eq_some_iff] at e
    obtain ⟨d, e1, e⟩ := e
    rw [Option.map_eq_some_iff] at e
    obtain ⟨ds', e2, e⟩ := e
    subst e
    exact .cons (hf r e1) (ih e2)
theorem dval_frz {G : Gx} {A B : Addr → Prop} {ρ : List Addr} {H : Hp} {f : Val → Option D} (hk : ∀ {x : V} {d : PyData}, Rp G (Av A ρ) H x d → Rp G B H x d) (hf : ∀ {v : Val} {x : V} {d : PyData}, RepV G A ρ H x v → f v = some d → Rp G B H x d) {xs : List DE} {kvs : List (PyData × Val)} (r : Paired (DVal G A ρ H) xs kvs) : ∀ {ds : List PyData}, mapO f (kvs.map (·.2)) = some ds → RpD G B H xs ((kvs.map (·.1)).zip ds) := by
  induction r with
  | nil => intro ds e; simp only [List.map_nil, mapO, Option.some.injEq] at e; subst e; exact .nil
  | @cons x q xs kvs r t ih =>
    intro ds e
    obtain ⟨k, kv, vv⟩ := x
    obtain ⟨kd, v⟩ := q
    obtain ⟨r1, r2, r3⟩ := r
    simp only [List.map_cons, mapO] at e
    rw [Option.bind_eq_some_iff] at e
    obtain ⟨d, e1, e⟩ := e
    rw [Option.map_eq_some_iff] at e
    obtain ⟨ds', e2, e⟩ := e
    subst e
    exact .cons r1 (hk r2) (hf r3 e1) (ih e2)
theorem frz_rep {G : Gx} {A : Addr → Prop} {ρ : List Addr} {h : MH} {H : Hp} {b : Nat} (S : Sim G A ρ h H) : ∀ {k : Nat} {v : Val} {x : V} {d : PyData}, RepV G A ρ H x v → frz b h k v = some d → Rp G (Av A (ρ.take b)) H x d := by
  intro k
  induction k with
  | zero =>
    intro v x d r e
    cases r with
    | d r => unfold frz at e; cases e; exact r.keepA fun a z => z.imp id fun m => List.mem_of_mem_take m
    | ref r => unfold frz at e; cases e
    | scr r => unfold frz at e; cases e
    | exc _ _ => unfold frz at e; cases e
    | dic _ _ _ _ => unfold frz at e; cases e
  | succ k ih =>
    intro v x d r e
    cases r with
    | d r => unfold frz at e; cases e; exact r.keepA fun a z => z.imp id fun m => List.mem_of_mem_take m
    | scr r => unfold frz at e; cases e
    | exc _ _ => unfold frz at e; cases e
    | dic _ _ _ _ => unfold frz at e; cases e
    | @ref n a r =>
      unfold frz at e
      simp only at e
      split at e
      · rename_i hb
        have na : ¬ Av A (ρ.take b) a := fun z => by
          rcases z with z | z
          · exact (S.far a z).2 (List.mem_of_getElem? r)
          · exact nodup_take S.nd r hb z
        split at e
        · rename_i vs hc
          rw [Option.map_eq_some_iff] at e
          obtain ⟨ds, e1, e2⟩ := e
          subst e2
          have q := S.cell _ _ _ hc r
          cases q with
          | lst q rv => exact .lst q na (mapO_rep (fun r e => ih r e) rv e1)
        · rename_i ds hc
          cases e
          cases S.cell _ _ _ hc r with
          | fro q rv => exact .lstF q (rpAll_map (fun r => r.keepA fun a z => z.imp id fun m => List.mem_of_mem_take m) rv)
        · rename_i vs hc
          rw [Option.map_eq_some_iff] at e
          obtain ⟨ds, e1, e2⟩ := e
          subst e2
          have q := S.cell _ _ _ hc r
          cases q with
          | tup q rv => exact .tup q na (mapO_rep (fun r e => ih r e) rv e1)
        · rename_i lk kvs hc
          rw [Option.map_eq_some_iff] at e
          obtain ⟨ds, e1, e2⟩ := e
          subst e2
          have q := S.cell _ _ _ hc r
          cases q with
          | dict q rv => exact .dct q.rd na (dval_frz (fun r => r.keepA fun a z => z.imp id fun m => List.mem_of_mem_take m) (fun r e => ih r e) rv e1)
        · cases e
      · cases e
section
variable {G : Gx} {A : Addr → Prop} {ρ : List Addr} {h : MH} {H H' : Hp}
theorem Sim.fresh (S : Sim G A ρ h H) : Sim G (Av A ρ) [] [] H :=
  ⟨rfl, .nil, fun a z => ⟨z.elim (fun z => (S.far a z).1) S.tracked, by simp⟩, fun n c a hc => by simp at hc⟩
theorem Ext.outer {ρ' : List Addr} (e : Ext (Av A ρ) [] H ρ' H') : Ext A ρ H ρ H' := ⟨fun _ _ z => z, fun _ z => .inl z, fun a o z _ => by
    rcases e.keep a o z (by simp) with q | ⟨n, q⟩
    · exact .inl q
    · exact .inr ⟨fun z => n (.inl z), q⟩, e.live, e.frzs⟩
theorem Sim.outer {ρ' : List Addr} (S : Sim G A ρ h H) (e : Ext (Av A ρ) [] H ρ' H') : Sim G A ρ h H' :=
  S.re ⟨fun a o z n => ⟨e.keep a o z (by simp), n⟩, e.frzs⟩ (fun a o m z => e.strg z (by simp) (.inr m)) fun a z => ⟨e.live a (S.far a z).1, (S.far a z).2⟩
theorem reps_of_dats {xs : List V} {vs : List Val} (rv : RepVs G A ρ H xs vs) {ds : List PyData} (e : dats vs = some ds) : RepVs G (Av A ρ) [] H xs vs := by
  induction rv generalizing ds with
  | nil => exact .nil
  | cons r t ih =>
    cases r with
    | d r =>
      simp only [dats, dat, Option.bind_some, Option.map_eq_some_iff] at e
      obtain ⟨ds', h1, h2⟩ := e
      exact .cons (.d (r.keepA fun a z => z.elim id fun m => by simp at m)) (ih h1)
    | ref r => simp [dats, dat] at e
    | scr r => simp [dats, dat] at e
    | exc _ _ => simp [dats, dat] at e
    | dic _ _ _ _ => simp [dats, dat] at e
theorem Ext.take (S : Sim G A ρ h H) {ρ' : List Addr} (e : Ext A ρ H ρ' H') : ρ'.take h.length = ρ := by
  rw [← S.len]
  apply List.ext_getElem?
  intro i
  rw [List.getElem?_take]
  split
  · rename_i hi
    rw [List.getElem?_eq_getElem hi, e.pre i _ (List.getElem?_eq_getElem hi)]
  · rename_i hi
    rw [List.getElem?_eq_none (by omega)]
theorem RepV.below2 {n : Nat} {ρ' ρ2 : List Addr} (k : Kp (Av A ρ') (Av A ρ2) H H) (pre : ∀ (m : Nat) a, m < n → ρ'[m]? = some a → ρ2[m]? = some a) {x : V} {v : Val} (r : RepV G A ρ' H x v) (hb : valBelow n v = true) : RepV G A ρ2 H x v := by
  cases r with
  | d r => exact .d (r.keep k)
  | ref r =>
    simp only [valBelow, decide_eq_true_eq] at hb
    exact .ref (pre _ _ hb r)
  | exc r q => exact .exc (k.rd r q).1 (k.rd r q).2
  | scr r => exact .scr (r.re k)
  | dic r n l t => exact .dic r (k.at_ r n (by intro φ e; cases e)).2 l (t.keep k)
theorem paired_all {α β : Type} {R R' : α → β → Prop} {p : β → Bool} (h : ∀ x y, R x y → p y = true → R' x y) {xs : List α} {ys : List β} (r : Paired R xs ys) (hb : ys.all p = true) : Paired R' xs ys := by
  induction r with
  | nil => exact .nil
  | cons r t ih =>
    simp only [List.all_cons, Bool.and_eq_true] at hb
    exact .cons (h _ _ r hb.1) (ih hb.2)
theorem CellR.below2 {n : Nat} {ρ' ρ2 : List Addr} (k : Kp (Av A ρ') (Av A ρ2) H H) (pre : ∀ (m : Nat) a, m < n → ρ'[m]? = some a → ρ2[m]? = some a) {a : Addr} {c : Cell} (r : CellR G A ρ' H a c) (hb : cellBelow n c = true) : CellR G A ρ2 H a c := by
  cases r with
  | lst q rv => exact .lst q (paired_all (fun _ _ z hb => z.below2 k pre hb) rv hb)
  | fro q rv => exact .fro q (rv.keep k)
  | tup q rv => exact .tup q (paired_all (fun _ _ z hb => z.below2 k pre hb) rv hb)
  | dict q rv => exact .dict q (paired_all (p := fun (kv : PyData × Val) => valBelow n kv.2) (fun _ _ z hb => ⟨z.1, z.2.1.keep k, z.2.2.below2 k pre hb⟩) rv hb)
  | ins q rv => exact .ins q (paired_all (p := fun (kv : Str × Val) => valBelow n kv.2) (fun _ _ z hb => ⟨z.1, z.2.below2 k pre hb⟩) rv hb)
theorem CellR.below {n : Nat} {ρ' : List Addr} {a : Addr} {c : Cell} (r : CellR G A ρ' H a c) (hb : cellBelow n c = true) : CellR G A (ρ'.take n) H a c :=
  r.below2 (Kp.of (fun a o e q => ⟨e, fun z => q (z.imp id fun m => List.mem_of_mem_take m)⟩) fun _ _ _ e => e) (fun m a hm q => by rw [List.getElem?_take, if_pos hm]; exact q) hb
theorem dats_below {n : Nat} : ∀ {vs : List Val} {ds : List PyData}, dats vs = some ds → vs.all (valBelow n) = true
  | [], _, _ => rfl
  | v :: vs, ds, e => by
    simp only [dats] at e
    rw [Option.bind_eq_some_iff] at e
    obtain ⟨d, e1, e⟩ := e
    rw [Option.map_eq_some_iff] at e
    obtain ⟨ds', e2, _⟩ := e
    have hv : valBelow n v = true := by cases v <;> simp [dat] at e1 <;> rfl
    simp [hv, dats_below (n := n) e2]
/-- the new list alone goes over -/
theorem Sim.newL {ρ' : List Addr} {h1 : MH} {n : Nat} {a : Addr} {vs : List Val} {ds : List PyData} (S0 : Sim G A ρ h H) (e : Ext A ρ H ρ' H') (S : Sim G A ρ' h1 H') (hn : h.length ≤ n) (ra : ρ'[n]? = some a) (hc : h1[n]? = some (.lst vs)) (hd : dats vs = some ds) (hb : (h1.take h.length).all (cellBelow h.length) = true) (hl : h.length ≤ h1.length) :
    Ext A ρ H (ρ ++ [a]) H' ∧ Sim G A (ρ ++ [a]) (h1.take h.length ++ [.lst vs]) H' := by
  have et := Ext.take S0 e
  have am := List.mem_of_getElem? ra
  have na : a ∉ ρ := by
    have := nodup_take S.nd ra hn
    rw [et] at this; exact this
  have fresh : H a = none := (e.new a am).resolve_left na
  have sub : ∀ b, b ∈ ρ ++ [a] → b ∈ ρ' := fun b m => by
    rcases List.mem_append.mp m with m | m
    · rw [← et] at m; exact List.mem_of_mem_take m
    · rw [List.mem_singleton.mp m]; exact am
  have k : Kp (Av A ρ') (Av A (ρ ++ [a])) H' H' := Kp.of (fun b o e q => ⟨e, fun z => q (z.imp id (sub b))⟩) fun _ _ _ e => e
  have pre : ∀ (m : Nat) b, m < h.length → ρ'[m]? = some b → (ρ ++ [a])[m]? = some b := fun m b hm q => by
    have hm' : m < ρ.length := by rw [S0.len]; exact hm
    rw [List.getElem?_append_left hm', ← et, List.getElem?_take, if_pos hm]; exact q
  have hlen : (h1.take h.length).length = ρ.length := by rw [List.length_take, S0.len]; omega
  refine ⟨⟨fun n b q => by rw [List.getElem?_append_left (List.getElem?_eq_some_iff.mp q).1]; exact q, fun b m => ?_, e.keep, e.live, e.frzs⟩, by simp [hlen], ?_, fun b z => ⟨(S.far b z).1, fun m => (S.far b z).2 (sub b m)⟩, fun i c b hc2 hb2 => ?_⟩
  · rcases List.mem_append.mp m with m | m
    · exact .inl m
    · rw [List.mem_singleton.mp m]; exact .inr fresh
  · rw [List.nodup_append]
    exact ⟨S0.nd, by simp, fun b hb c hc => by rw [List.mem_singleton.mp hc]; exact fun e => na (e ▸ hb)⟩
  · rcases getElem?_snoc hc2 with hc2 | ⟨e1, e2⟩
    · have m := List.all_eq_true.mp hb c (List.mem_of_getElem? hc2)
      rw [List.getElem?_take] at hc2
      split at hc2
      · rename_i hi
        rw [List.getElem?_append_left (by rw [S0.len]; exact hi)] at hb2
        exact (S.cell i c b hc2 (e.pre i b hb2)).below2 k pre m
      · cases hc2
    · subst e2
      rw [e1, hlen, List.getElem?_append_right (Nat.le_refl _)] at hb2
      simp at hb2
      subst hb2
      have q := S.cell _ _ _ hc ra
      exact q.below2 (n := h.length) k pre (dats_below hd)
theorem Sim.below {n : Nat} (S : Sim G A ρ h H) (hb : (h.take n).all (cellBelow n) = true) : Sim G A (ρ.take n) (h.take n) H :=
  ⟨by simp [S.len], S.nd.sublist (List.take_sublist _ _), fun a z => ⟨(S.far a z).1, fun m => (S.far a z).2 (List.mem_of_mem_take m)⟩, fun i c a hc ha => by
    have m := List.all_eq_true.mp hb c (List.mem_of_getElem? hc)
    rw [List.getElem?_take] at hc ha
    split at hc
    · rename_i hi
      rw [if_pos hi] at ha
      exact (S.cell i c a hc ha).below m
    · cases hc⟩
end
theorem spF_pure {G : Gx} {g : FnS} {n : Nat} : ∀ vs H Q E, spF G (pureF g) n vs H Q E → spF G g n vs H Q E := fun vs H Q E ⟨hn, A, ρ, h, us, S, R, P⟩ => by
  unfold pureF at P
  split at P
  · exact P.elim
  · rename_i ds hd
    refine ⟨hn, Av A ρ, [], [], us, S.fresh, reps_of_dats R hd, ?_⟩
    cases hg : g us [] with
    | bad => rw [hg] at P; exact P
    | exc c h1 =>
      rw [hg] at P
      exact fun ρ' H' e s => P ρ H' e.outer (S.outer e)
    | ok v h1 =>
      rw [hg] at P
      simp only at P
      split at P
      · rename_i d hf
        exact fun ρ' H' x e s r => P ρ H' x e.outer (S.outer e) (.d ((frz_rep s r hf).keepA fun a z => .inl z))
      · exact P.elim
theorem spF_cut {G : Gx} {g : FnS} {n : Nat} : ∀ vs H Q E, spF G (cutF g) n vs H Q E → spF G g n vs H Q E := fun vs H Q E ⟨hn, A, ρ, h, us, S, R, P⟩ => by
  unfold cutF at P
  refine ⟨hn, A, ρ, h, us, S, R, ?_⟩
  cases hg : g us h with
  | bad => rw [hg] at P; exact P
  | exc c h1 => rw [hg] at P; exact P
  | ok v h1 =>
    rw [hg] at P
    simp only at P
    split at P
    · rename_i d hf
      split at P
      · rename_i hb
        simp only [Bool.and_eq_true, decide_eq_true_eq] at hb
        intro ρ' H' x e s r
        have et := Ext.take S e
        have e' : Ext A ρ H ρ H' := ⟨fun _ _ z => z, fun _ z => .inl z, e.keep, e.live, e.frzs⟩
        have s' := s.below hb.1
        rw [et] at s'
        have r' := frz_rep s r hf
        rw [et] at r'
        exact P ρ H' x e' s' (.d r')
      · exact P.elim
    · exact P.elim
theorem spF_new {G : Gx} {g : FnS} {n : Nat} : ∀ vs H Q E, spF G (newF g) n vs H Q E → spF G g n vs H Q E := fun vs H Q E ⟨hn, A, ρ, h, us, S, R, P⟩ => by
  unfold newF at P
  refine ⟨hn, A, ρ, h, us, S, R, ?_⟩
  cases hg : g us h with
  | bad => rw [hg] at P; exact P
  | exc c h1 => rw [hg] at P; exact P
  | ok v h1 =>
    rw [hg] at P
    cases v with
    | ref m =>
      simp only at P
      split at P
      · rename_i hm
        split at P
        · rename_i vs' hc
          split at P
          · rename_i ds hd
            split at P
            · rename_i hb
              simp only [Bool.and_eq_true, decide_eq_true_eq] at hb
              intro ρ' H' x e s r
              cases r with
              | ref ra =>
                obtain ⟨e', s'⟩ := Sim.newL S e s hm ra hc hd hb.1 hb.2
                exact P _ H' _ e' s' (.ref (by rw [← S.len, List.getElem?_append_right (Nat.le_refl _)]; simp))
            · exact P.elim
          · exact P.elim
        · exact P.elim
      · exact P.elim
    | _ => exact P.elim
/-! ### defs -/
structure FnT (P : Program) (w : World) (mg : Str → Option Value) (base : Heap) (G : Gx) (lv : Nat) (x : Str) (n : Nat) (g : FnS) : Prop where
  ex : ∃ f fd ps, ps.length = n ∧ FnOk P w G.K mg base (L2.CX P w) lv f fd ps (spF G g n) ∧ mg x = some (.ref f) ∧ PySem.W.keepIn G.K (.ref f) = true ∧ Binds G.K fd ps []
section
variable {P : Program} {w : World} {mg : Str → Option Value} {base : Heap} {G : Gx} {lv n : Nat} {x : Str} {g : FnS}
theorem FnT.mono {lv' : Nat} (h : FnT P w mg base G lv x n g) (l : lv ≤ lv') : FnT P w mg base G lv' x n g := by
  obtain ⟨f, fd, ps, h1, h2, h3⟩ := h.ex
  exact ⟨f, fd, ps, h1, h2.mono l, h3⟩
theorem FnT.pure (h : FnT P w mg base G lv x n g) : FnT P w mg base G lv x n (pureF g) := by
  obtain ⟨f, fd, ps, h1, h2, h3⟩ := h.ex
  exact ⟨f, fd, ps, h1, h2.imp spF_pure, h3⟩
theorem FnT.new (h : FnT P w mg base G lv x n g) : FnT P w mg base G lv x n (newF g) := by
  obtain ⟨f, fd, ps, h1, h2, h3⟩ := h.ex
  exact ⟨f, fd, ps, h1, h2.imp spF_new, h3⟩
theorem FnT.cut (h : FnT P w mg base G lv x n g) : FnT P w mg base G lv x n (cutF g) := by
  obtain ⟨f, fd, ps, h1, h2, h3⟩ := h.ex
  exact ⟨f, fd, ps, h1, h2.imp spF_cut, h3⟩
end
/-- a method -/
structure MethT (P : Program) (w : World) (mg : Str → Option Value) (base : Heap) (G : Gx) (lv : Nat) (c m : Str) (n : Nat) (g : FnS) : Prop where
  ex : ∃ f fd ps k, ps.length = n ∧ k + 1 ≤ lv ∧ FnOk P w G.K mg base (L2.CX P w) k f fd ps (spF G g n) ∧ Cls G.K (G.cx c) ∧ Meth G.K (G.cx c) m f ∧ Binds G.K fd ps [] ∧ (m = "__init__" → Mk G.K (G.cx c) f ∧ mg c = some (.ref (G.cx c)))
section
variable {P : Program} {w : World} {mg : Str → Option Value} {base : Heap} {G : Gx} {lv n : Nat} {x m : Str} {g : FnS}
theorem MethT.mono {lv' : Nat} (h : MethT P w mg base G lv x m n g) (l : lv ≤ lv') : MethT P w mg base G lv' x m n g := by
  obtain ⟨f, fd, ps, k, h1, h2, h3⟩ := h.ex
  exact ⟨f, fd, ps, k, h1, Nat.le_trans h2 l, h3⟩
theorem MethT.pure (h : MethT P w mg base G lv x m n g) : MethT P w mg base G lv x m n (pureF g) := by
  obtain ⟨f, fd, ps, k, h1, h0, h2, h3⟩ := h.ex
  exact ⟨f, fd, ps, k, h1, h0, h2.imp spF_pure, h3⟩
theorem MethT.new (h : MethT P w mg base G lv x m n g) : MethT P w mg base G lv x m n (newF g) := by
  obtain ⟨f, fd, ps, k, h1, h0, h2, h3⟩ := h.ex
  exact ⟨f, fd, ps, k, h1, h0, h2.imp spF_new, h3⟩
theorem MethT.cut (h : MethT P w mg base G lv x m n g) : MethT P w mg base G lv x m n (cutF g) := by
  obtain ⟨f, fd, ps, k, h1, h0, h2, h3⟩ := h.ex
  exact ⟨f, fd, ps, k, h1, h0, h2.imp spF_cut, h3⟩
end
/-- what all defs of a text lean on -/
structure Wd (mg : Str → Option Value) (G : Gx) (gl : List (Str × PyData)) (ex : List Str) (cl : List Str) (sub : List (Str × Str × Bool)) (exm : List (Str × Str)) (kl : List Str) (na : List (Str × Str)) : Prop where
  gl : ∀ q ∈ gl, ∃ u v, mg q.1 = some u ∧ RelV v u ∧ ∀ A H, Rp G A H v q.2
  blt : ∀ x ∈ bltNames, mg x = none
  ex : ∀ x ∈ ex, mg x = some (.ref (G.cx x)) ∧ PySem.W.excIn G.K (G.cx x) He.veBase "ValueError.__new__" = true ∧ PySem.W.keepIn G.K (.ref (G.cx x)) = true ∧ PySem.W.subIn G.K (.ref (G.cx x)) (.type "BaseException") = some true ∧ PySem.W.typeIn G.K (.ref (G.cx x)) = some (.type "type")
  cl : ∀ y, y ∈ cl → mg y = some (.ref (G.cx y)) ∧ y ≠ ("ValueError" : Str)
  sub : ∀ q, q ∈ sub → ExcC G.K (G.cx q.1) ∧ PySem.W.kitOne G.K (.ref (G.cx q.1)) (clsV G q.2.1) = some q.2.2
  exm : ∀ q, q ∈ exm → PySem.W.exmOne G.K (.ref (G.cx q.1)) (.ref (G.cx q.2)) = some true
  kl : ∀ y, y ∈ kl → Cls G.K (G.cx y)
  na : ∀ q, q ∈ na → NoAttr G.K (G.cx q.1) q.2
theorem fnOk_of {P : Program} {w : World} {mg : Str → Option Value} {base : Heap} {G : Gx} {glT : List (Str × PyData)} {exT clT : List Str} {subT : List (Str × Str × Bool)} {exmT : List (Str × Str)} {klT : List Str} {naT : List (Str × Str)} {lv : Nat} {x qual : Str} {pa : Arguments} {bd : List Stmt} {sc : Scope} {kws : List (Str × V)} {f : Addr} {fd : FuncData} {N ps : List Str} {gl : List (Str × PyData)} {fn : List (Str × Nat × FnS)} {ms : List ((Str × Str) × Nat × FnS)} {fuel : Nat} {b : Css}
    (hw : w = G.w) (D : Wd mg G glT exT clT subT exmT klT naT) (F : FunD G.K x qual pa bd sc [] kws f fd) (S : FnScope N ps sc)
    (hgl : ∀ q ∈ gl, q ∈ glT)
    (hfn : ∀ q ∈ fn, FnT P w mg base G lv q.1 q.2.1 q.2.2)
    (hms : ∀ q ∈ ms, MethT P w mg base G lv q.1.1 q.1.2 q.2.1 q.2.2)
    (hc : chkSs ⟨N, sc, fun _ => true, gl.map (·.1), fn.map (fun q => (q.1, q.2.1)), exT, clT, subT, exmT, true, klT, naT, ms.map (fun q => (q.1.1, q.1.2, q.2.1))⟩ b bd = true) :
    FnOk P w G.K mg base (L2.CX P w) (lv + 1) f fd ps (spF G (runF ⟨fn.map (·.2.2) ++ ms.map (·.2.2), gl.map (·.2), fuel⟩ b N.length) ps.length) := by
  have hpl : ps.length ≤ N.length := by have := congrArg List.length S.pre; rw [List.length_take] at this; omega
  refine F.ok S (fun vs H Q E h => h.1) (fun cdv A outer s H vs Q E hr h => ?_)
  obtain ⟨hn, Av', ρ, hh, us, Sm, R, Po⟩ := h
  have cx : Ctx (cxOf (L2.CX P w) P w G.K mg base N qual sc f cdv A outer s H E) G (fun c d _ H => E c d H) ⟨fn.map (·.2.2) ++ ms.map (·.2.2), gl.map (·.2), fuel⟩ ⟨N, sc, fun _ => true, gl.map (·.1), fn.map (fun q => (q.1, q.2.1)), exT, clT, subT, exmT, true, klT, naT, ms.map (fun q => (q.1.1, q.1.2, q.2.1))⟩ := {
    ok := ⟨rfl, hw, S.nd, rfl, by have := hr.un; show (A.deeper (envOfC qual sc s.heap.objs.size f cdv)).units + 65 < _; omega, by have := hr.un; show (A.deeper (envOfC qual sc s.heap.objs.size f cdv)).units + 80 < _; omega⟩
    N := rfl
    sc := rfl
    fnc := fun _ _ => rfl
    gl := fun k y hy => by
      simp only [List.getElem?_map, Option.map_eq_some_iff] at hy ⊢
      obtain ⟨q, hq, rfl⟩ := hy
      obtain ⟨u, v, h1, h2, h3⟩ := D.gl q (hgl q (List.mem_of_getElem? hq))
      exact ⟨u, v, q.2, ⟨q, hq, rfl⟩, h1, h2, h3⟩
    fn := fun k y m hy => by
      simp only [List.getElem?_map, Option.map_eq_some_iff] at hy
      obtain ⟨q, hq, e⟩ := hy
      cases e
      refine ⟨q.2.2, by rw [List.getElem?_append_left (by rw [List.length_map]; exact (List.getElem?_eq_some_iff.mp hq).1), List.getElem?_map, hq]; rfl, ⟨?_⟩⟩
      obtain ⟨f', fd', ps', h1, h2, h3, h4, h5⟩ := (hfn q (List.mem_of_getElem? hq)).ex
      exact ⟨f', fd', ps', lv, h1, h2, hr, h3, h4, h5⟩
    blt := D.blt
    ex := fun y hy => by
      obtain ⟨h1, h2, h3, h4, h5⟩ := D.ex y hy
      exact ⟨G.cx y, He.veBase, _, _, _, PySem.F.excBase_ValueError, h2, h1, h3, raises_own h4 h5, rfl⟩
    tk := takes_of rfl rfl rfl rfl
    hpo := passes_of rfl
    cl := D.cl
    sub := D.sub
    exm := D.exm
    try_ := fun _ => ⟨rfl, rfl, rfl⟩
    kl := D.kl
    na := D.na
    ms := fun j y m n hy => by
      simp only [List.getElem?_map, Option.map_eq_some_iff] at hy
      obtain ⟨q, hq, e⟩ := hy
      cases e
      obtain ⟨f', fd', ps', k', h1, h0, h2, h3, h4, h5, h6⟩ := (hms q (List.mem_of_getElem? hq)).ex
      refine ⟨q.2.2, ?_, ⟨f', fd', ps', k', h1, h2, hr.mono h0, h3, h4, h5, h6⟩⟩
      show (fn.map (·.2.2) ++ ms.map (·.2.2))[(fn.map (fun q => (q.1, q.2.1))).length + j]? = _
      rw [List.length_map, List.getElem?_append_right (by rw [List.length_map]; omega), List.length_map, show fn.length + j - fn.length = j by omega, List.getElem?_map, hq]
      rfl }
  refine ⟨_, chkSs_sound b cx hc, Av', ρ, us.map some ++ List.replicate (N.length - us.length) none, hh, Sm, ?_, ?_⟩
  · have hl := Paired.length R
    refine ⟨by simp [start, hl], fun i v hv => ?_⟩
    rw [List.getElem?_append] at hv
    split at hv
    · rename_i hi
      rw [List.getElem?_map, Option.map_eq_some_iff] at hv
      obtain ⟨v', hv', e⟩ := hv
      cases e
      have : ∃ xv, vs[i]? = some xv ∧ RepV G Av' ρ H xv v := by
        clear Po hn
        induction R generalizing i with
        | nil => simp at hv'
        | cons r t ih =>
          cases i with
          | zero => simp at hv'; subst hv'; exact ⟨_, rfl, r⟩
          | succ i => simpa using ih (i := i) (by simpa using hl) (by simpa using hi) (by simpa using hv')
      obtain ⟨xv, h1, h2⟩ := this
      refine ⟨xv, ?_, h2⟩
      unfold start
      rw [List.getElem?_append_left (by simpa using (List.getElem?_eq_some_iff.mp h1).1), List.getElem?_map, h1]
      rfl
    · rw [List.getElem?_replicate] at hv
      split at hv <;> cases hv
  · unfold runF at Po
    revert Po
    cases hx : execs ⟨fn.map (·.2.2) ++ ms.map (·.2.2), gl.map (·.2), fuel⟩ b (us.map some ++ List.replicate (N.length - us.length) none) hh with
    | ret v h1 => exact fun Po => Po
    | next e h1 => exact fun Po ρ' H' σ' e s _ => Po ρ' H' .non e s (.d .non)
    | exc c e h1 => exact fun Po ρ' H' σ' e s _ => Po ρ' H' e s
    | bad => exact fun Po => Po.elim
    | brk e h1 => exact fun Po => Po.elim
    | cont e h1 => exact fun Po => Po.elim
theorem fnT_of {P : Program} {w : World} {mg : Str → Option Value} {base : Heap} {G : Gx} {glT : List (Str × PyData)} {exT clT : List Str} {subT : List (Str × Str × Bool)} {exmT : List (Str × Str)} {klT : List Str} {naT : List (Str × Str)} {lv : Nat} {x qual : Str} {pa : Arguments} {bd : List Stmt} {sc : Scope} {kws : List (Str × V)} {f : Addr} {fd : FuncData} {N ps : List Str} {gl : List (Str × PyData)} {fn : List (Str × Nat × FnS)} {ms : List ((Str × Str) × Nat × FnS)} {fuel : Nat} {b : Css}
    (hw : w = G.w) (D : Wd mg G glT exT clT subT exmT klT naT) (F : FunD G.K x qual pa bd sc [] kws f fd) (hm : mg x = some (.ref f)) (S : FnScope N ps sc)
    (hb : ∀ (kV doc pm : Value) (an : Option Addr) (cdv ct : Value) (us : List Value), us.length = ps.length → bindArgs (PySem.W.fnOf x qual pa bd sc .none kV doc pm an cdv ct) ⟨us, []⟩ = pure (ps.zip us))
    (hgl : ∀ q ∈ gl, q ∈ glT)
    (hfn : ∀ q ∈ fn, FnT P w mg base G lv q.1 q.2.1 q.2.2)
    (hms : ∀ q ∈ ms, MethT P w mg base G lv q.1.1 q.1.2 q.2.1 q.2.2)
    (hc : chkSs ⟨N, sc, fun _ => true, gl.map (·.1), fn.map (fun q => (q.1, q.2.1)), exT, clT, subT, exmT, true, klT, naT, ms.map (fun q => (q.1.1, q.1.2, q.2.1))⟩ b bd = true) :
    FnT P w mg base G (lv + 1) x ps.length (runF ⟨fn.map (·.2.2) ++ ms.map (·.2.2), gl.map (·.2), fuel⟩ b N.length) := ⟨f, fd, ps, rfl, fnOk_of hw D F S hgl hfn hms hc, hm, F.kp, F.bindsN hb⟩
theorem methT_of {P : Program} {w : World} {mg : Str → Option Value} {base : Heap} {G : Gx} {glT : List (Str × PyData)} {exT clT : List Str} {subT : List (Str × Str × Bool)} {exmT : List (Str × Str)} {klT : List Str} {naT : List (Str × Str)} {lv : Nat} {c x qual : Str} {pa : Arguments} {bd : List Stmt} {sc : Scope} {kws : List (Str × V)} {f : Addr} {fd : FuncData} {N ps : List Str} {gl : List (Str × PyData)} {fn : List (Str × Nat × FnS)} {ms : List ((Str × Str) × Nat × FnS)} {fuel : Nat} {b : Css}
    (hw : w = G.w) (D : Wd mg G glT exT clT subT exmT klT naT) (F : FunD G.K x qual pa bd sc [] kws f fd) (hcl : Cls G.K (G.cx c)) (hm : Meth G.K (G.cx c) x f) (hmk : x = "__init__" → Mk G.K (G.cx c) f ∧ mg c = some (.ref (G.cx c))) (S : FnScope N ps sc)
    (hb : ∀ (kV doc pm : Value) (an : Option Addr) (cdv ct : Value) (us : List Value), us.length = ps.length → bindArgs (PySem.W.fnOf x qual pa bd sc .none kV doc pm an cdv ct) ⟨us, []⟩ = pure (ps.zip us))
    (hgl : ∀ q ∈ gl, q ∈ glT)
    (hfn : ∀ q ∈ fn, FnT P w mg base G lv q.1 q.2.1 q.2.2)
    (hms : ∀ q ∈ ms, MethT P w mg base G lv q.1.1 q.1.2 q.2.1 q.2.2)
    (hc : chkSs ⟨N, sc, fun _ => true, gl.map (·.1), fn.map (fun q => (q.1, q.2.1)), exT, clT, subT, exmT, true, klT, naT, ms.map (fun q => (q.1.1, q.1.2, q.2.1))⟩ b bd = true) :
    MethT P w mg base G (lv + 2) c x ps.length (runF ⟨fn.map (·.2.2) ++ ms.map (·.2.2), gl.map (·.2), fuel⟩ b N.length) := ⟨f, fd, ps, lv + 1, rfl, Nat.le_refl _, fnOk_of hw D F S hgl hfn hms hc, hcl, hm, F.bindsN hb, hmk⟩
end L2

set_option Elab.async false
set_option linter.all false
set_option autoImplicit false
set_option maxRecDepth 100000
set_option maxHeartbeats 4000000
/-! ZE: the head's facts, a law's end. -/
namespace L2
open PySem PySem.Spec PyProof.Rows Z
mutual
/-- a value of the written part is this data -/
def repB (K : PySem.W.Frag) : Nat → Value → PyData → Bool
  | n, u, .none => (match u with
    | .none => true
    | _ => false)
  | n, u, .bool b => (match u with
    | .bool c => b == c
    | _ => false)
  | n, u, .int i => (match u with
    | .int j _ => decide (i = j)
    | _ => false)
  | n, u, .str x => (match u with
    | .str y _ => decide (x = y)
    | _ => false)
  | n + 1, u, .tuple ds => (match u with
    | .ref a => (match K.lookup a with
      | some ⟨.type c, _, .seq its _, _⟩ => decide (c = "tuple") && decide (its.size ≤ sizeLine) && repsB K n its.toList ds
      | _ => false)
    | _ => false)
  | _, _, _ => false
def repsB (K : PySem.W.Frag) : Nat → List Value → List PyData → Bool
  | _, [], ds => ds.isEmpty
  | n, u :: us, ds => (match ds with
    | d :: ds => repB K n u d && repsB K n us ds
    | [] => false)
end
mutual
theorem repB_ok {G : Gx} : ∀ (n : Nat) (u : Value) (d : PyData), repB G.K n u d = true → ∃ v, RelV v u ∧ ∀ A H, Rp G A H v d
  | n, u, .none, h => by
    unfold repB at h
    cases u <;> first | (cases h; done) | exact ⟨.non, rfl, fun _ _ => .non⟩
  | n, u, .bool b, h => by
    unfold repB at h
    cases u <;> first | (cases h; done) | skip
    rename_i c
    have e : b = c := eq_of_beq h
    subst e
    exact ⟨.bl b, rfl, fun _ _ => .bl b⟩
  | n, u, .int i, h => by
    unfold repB at h
    cases u <;> first | (cases h; done) | skip
    rename_i c t
    have e : i = c := of_decide_eq_true h
    subst e
    exact ⟨.int i, ⟨t, rfl⟩, fun _ _ => .int i⟩
  | n, u, .str i, h => by
    unfold repB at h
    cases u <;> first | (cases h; done) | skip
    rename_i c t
    have e : i = c := of_decide_eq_true h
    subst e
    exact ⟨.str i, ⟨t, rfl⟩, fun _ _ => .str i⟩
  | n + 1, u, .tuple ds, h => by
    unfold repB at h
    cases u <;> first | (cases h; done) | skip
    rename_i a
    simp only at h
    split at h
    · rename_i c od its m osl q
      simp only [Bool.and_eq_true, decide_eq_true_eq] at h
      obtain ⟨vs, h1, h2⟩ := repsB_ok n its.toList ds h.2
      exact ⟨.ref a, rfl, fun A H => .tupK ⟨_, its, m, q, by rw [h.1.1], rfl, h.1.2, h1⟩ (h2 A H)⟩
    · cases h
  | 0, _, .tuple _, h => by unfold repB at h; cases h
  | n, _, .list _, h => by cases n <;> (unfold repB at h; cases h)
  | n, _, .dict _, h => by cases n <;> (unfold repB at h; cases h)
theorem repsB_ok {G : Gx} : ∀ (n : Nat) (us : List Value) (ds : List PyData), repsB G.K n us ds = true → ∃ vs, Vals vs us ∧ ∀ A H, RpAll G A H vs ds
  | n, [], ds, h => by
    unfold repsB at h
    cases ds with
    | nil => exact ⟨[], .nil, fun _ _ => .nil⟩
    | cons _ _ => cases h
  | n, u :: us, ds, h => by
    unfold repsB at h
    cases ds with
    | nil => cases h
    | cons d ds =>
      simp only [Bool.and_eq_true] at h
      obtain ⟨v, h1, h2⟩ := repB_ok n u d h.1
      obtain ⟨vs, h3, h4⟩ := repsB_ok n us ds h.2
      exact ⟨v :: vs, .cons h1 h3, fun A H => .cons (h2 A H) (h4 A H)⟩
end
def glB_ (K : PySem.W.Frag) (gl : List (Str × PyData)) : Bool := gl.all fun q => match PySem.W.nsIn K mainGlobals q.1 with
  | some (some u) => repB K 8 u q.2
  | _ => false
/-- a text: its constants, exceptions, defs -/
structure Txt where
  gl : List (Str × PyData)
  ex : List Str
  fn : List He.DefD
  cl : List Str := []
  sub : List (Str × Str × Bool) := []
  exm : List (Str × Str) := []
  kl : List Str := []
  na : List (Str × Str) := []
  mt : List He.DefD := []
  mkc : List Str := []
def mtFa (d : He.DefD) : He.Fa := match d.at_ with
  | (c, some m) => .meth c m
  | (c, none) => .glo c
def Txt.fa0 (T : Txt) : List He.Fa := bltNames.map .free ++ T.fn.map (fun d => .glo d.name) ++ T.ex.map .glo ++ T.ex.map .exc ++ (T.cl.map .glo ++ T.exm.map fun q => .exm q.1 q.2 true)
def Txt.faC (T : Txt) : List He.Fa := T.kl.map .cls ++ (T.na.map (fun q => .noat q.1 q.2) ++ (T.mt.map mtFa ++ (T.mkc.map .mkr ++ T.mkc.map .glo)))
def Txt.fa (T : Txt) : List He.Fa := T.faC ++ T.fa0
def Txt.ds (T : Txt) : List He.DefD := T.fn ++ T.mt
def ecB (K : PySem.W.Frag) (D : Addr) : Bool := decide (PySem.W.findIn K (.ref D) "__getattribute__" = some (some (.builtin "BaseException.__getattribute__"))) && (decide (PySem.W.findIn K (.ref D) "__getattr__" = some none) && (decide (PySem.W.subIn K (.ref D) (.type "BaseException") = some true) && (PySem.W.hasDictIn K D && (decide (PySem.W.findIn K (.ref D) "__class__" = some (some (.builtin "object.__class__"))) &&
  (decide (PySem.W.specialIn K (.builtin "object.__class__") "__get__" = some (some (.builtin "getset_descriptor.__get__"))) && (decide (PySem.W.takesIn K (.builtin "object.__class__") = some true) && decide (PySem.W.mroIn K D (.type "object") = some true)))))))
theorem ecB_ok {K : PySem.W.Frag} {D : Addr} (h : ecB K D = true) : ExcC K D := by
  simp only [ecB, Bool.and_eq_true, decide_eq_true_eq] at h
  obtain ⟨h1, h2, h3, h4, h5, h6, h7, h8⟩ := h
  exact ⟨h1, h2, h3, h4, h5, h6, h7, h8⟩
/-- what isinstance says of caught ones -/
def suB (T : Txt) (K : PySem.W.Frag) : Bool := T.sub.all (fun q => decide (PySem.W.kitOne K (.ref (He.ga K q.1)) (if q.2.1 = ("ValueError" : Str) then .type "ValueError" else .ref (He.ga K q.2.1)) = some q.2.2)) && ((T.sub.map (·.1)).eraseDups.all (fun x => ecB K (He.ga K x)) && T.cl.all fun y => decide (y ≠ ("ValueError" : Str)))
abbrev AlZ : Type := He.AlD × Bool
def obsZ (T : Txt) (K : PySem.W.Frag) : AlZ := (He.obsD T.fa T.ds K, glB_ K T.gl && suB T K)
def valZ (T : Txt) : AlZ := (He.valD T.ds, true)
def SaysZ (T : Txt) (K : PySem.W.Frag) : Prop := obsZ T K = valZ T
def obsZG (n : Nat) (T : Txt) (g : Addr → Option Obj) : AlZ := obsZ T (He.frG g (He.asD g n))
def hookZ (n : Nat) (T : Txt) : PySem.W.Hook where
  α := AlZ
  obs := fun s => obsZG n T s.heap.get?
  val := fun _ => valZ T
  says := fun _ h => ∃ K : PySem.W.Frag, K.In h ∧ SaysZ T K
  of := fun _ _ e => ⟨_, He.frG_in, e⟩
  keeps := fun _ _ _ ⟨K, hK, c⟩ k => ⟨K, PySem.W.Frag.In.keeps hK k, c⟩
theorem obsZG_eq {n : Nat} {T : Txt} {g : Addr → Option Obj} {s : Shared} (h : ∀ a, g a = s.heap.get? a) : obsZG n T g = (hookZ n T).obs s := by
  have e : g = s.heap.get? := funext h
  rw [e] <;> rfl
section
variable {T : Txt} {K : PySem.W.Frag} {h : Heap} {mg : Str → Option Value}
theorem SaysZ.d (c : SaysZ T K) : He.SaysD T.fa T.ds K := congrArg (fun z : AlZ => z.1) c
theorem SaysZ.fact (c : SaysZ T K) {f : He.Fa} (hf : f ∈ T.fa) : f.ok K = true := by
  obtain ⟨i, hi, e⟩ := List.mem_iff_getElem.mp hf
  exact c.d.fact i (f := f) (by rw [List.getElem?_eq_getElem hi, e])
/-- the text's pieces behind the top -/
structure TW (T : Txt) (K : PySem.W.Frag) (mg : Str → Option Value) : Prop where
  says : SaysZ T K
  wd : ∀ w, Wd mg ⟨K, He.ga K, w⟩ T.gl T.ex T.cl T.sub T.exm T.kl T.na
  nm : ∀ d ∈ T.fn, mg d.name = some (.ref (He.ga K d.name))
  mkr : ∀ c ∈ T.mkc, Mk K (He.ga K c) (He.ma K (He.ga K c) "__init__") ∧ mg c = some (.ref (He.ga K c))
theorem tw_of (X : K.In h) (G : h.Ns mainGlobals mg) (c : SaysZ T K) : TW T K mg where
  says := c
  wd := fun w => {
    gl := fun q hq => by
      have e : glB_ K T.gl = true := (Bool.and_eq_true_iff.mp (show (glB_ K T.gl && suB T K) = true from congrArg (fun z : AlZ => z.2) c)).1
      have e2 := List.all_eq_true.mp e q hq
      split at e2
      · rename_i u hu
        obtain ⟨v, h1, h2⟩ := repB_ok (G := ⟨K, He.ga K, w⟩) _ _ _ e2
        exact ⟨u, v, PySem.W.mg_of X G hu, h1, h2⟩
      · cases e2
    blt := fun x hx => He.free_ok X G (c.fact (f := .free x) (by
      refine List.mem_append_right _ ?_
      unfold Txt.fa0
      exact List.mem_append_left _ (List.mem_append_left _ (List.mem_append_left _ (List.mem_append_left _ (List.mem_map_of_mem hx))))))
    ex := fun x hx => ⟨He.glo_ok X G (c.fact (f := .glo x) (by
      refine List.mem_append_right _ ?_
      unfold Txt.fa0
      exact List.mem_append_left _ (List.mem_append_left _ (List.mem_append_right _ (List.mem_map_of_mem hx))))), He.exc_ok (c.fact (f := .exc x) (by
      refine List.mem_append_right _ ?_
      unfold Txt.fa0
      exact List.mem_append_left _ (List.mem_append_right _ (List.mem_map_of_mem hx))))⟩
    cl := fun y hy => ⟨He.glo_ok X G (c.fact (f := .glo y) (by
      refine List.mem_append_right _ ?_
      unfold Txt.fa0
      exact List.mem_append_right _ (List.mem_append_left _ (List.mem_map_of_mem hy)))), by
      have e := (Bool.and_eq_true_iff.mp (show (glB_ K T.gl && suB T K) = true from congrArg (fun z : AlZ => z.2) c)).2
      simp only [suB, Bool.and_eq_true] at e
      exact of_decide_eq_true (List.all_eq_true.mp e.2.2 y hy)⟩
    sub := fun q hq => by
      have e := (Bool.and_eq_true_iff.mp (show (glB_ K T.gl && suB T K) = true from congrArg (fun z : AlZ => z.2) c)).2
      simp only [suB, Bool.and_eq_true] at e
      exact ⟨ecB_ok (List.all_eq_true.mp e.2.1 q.1 (List.mem_eraseDups.mpr (List.mem_map_of_mem (f := fun q : Str × Str × Bool => q.1) hq))), of_decide_eq_true (List.all_eq_true.mp e.1 q hq)⟩
    exm := fun q hq => He.exm_ok (c.fact (f := .exm q.1 q.2 true) (by
      refine List.mem_append_right _ ?_
      unfold Txt.fa0
      exact List.mem_append_right _ (List.mem_append_right _ (List.mem_map_of_mem (f := fun q : Str × Str => He.Fa.exm q.1 q.2 true) hq))))
    kl := fun y hy => He.cls_ok (c.fact (f := .cls y) (by
      refine List.mem_append_left _ ?_
      unfold Txt.faC
      exact List.mem_append_left _ (List.mem_map_of_mem hy)))
    na := fun q hq => He.noat_ok (c.fact (f := .noat q.1 q.2) (by
      refine List.mem_append_left _ ?_
      unfold Txt.faC
      exact List.mem_append_right _ (List.mem_append_left _ (List.mem_map_of_mem (f := fun q : Str × Str => He.Fa.noat q.1 q.2) hq)))) }
  mkr := fun y hy => ⟨He.mkr_ok (c.fact (f := .mkr y) (by
      refine List.mem_append_left _ ?_
      unfold Txt.faC
      exact List.mem_append_right _ (List.mem_append_right _ (List.mem_append_right _ (List.mem_append_left _ (List.mem_map_of_mem hy)))))), He.glo_ok X G (c.fact (f := .glo y) (by
      refine List.mem_append_left _ ?_
      unfold Txt.faC
      exact List.mem_append_right _ (List.mem_append_right _ (List.mem_append_right _ (List.mem_append_right _ (List.mem_map_of_mem hy))))))⟩
  nm := fun d hd => He.glo_ok X G (c.fact (f := .glo d.name) (by
      refine List.mem_append_right _ ?_
      unfold Txt.fa0
      exact List.mem_append_left _ (List.mem_append_left _ (List.mem_append_left _ (List.mem_append_right _ (List.mem_map_of_mem (f := fun d : He.DefD => He.Fa.glo d.name) hd))))))
end
theorem TW.fnAt {T : Txt} {K : PySem.W.Frag} {mg : Str → Option Value} (t : TW T K mg) {i : Nat} {d : He.DefD} (h : T.fn[i]? = some d) : T.ds[i]? = some d := by
  unfold Txt.ds
  rw [List.getElem?_append_left (List.getElem?_eq_some_iff.mp h).1]
  exact h
/-- one def of the text -/
def mkD (x : Str) (st : Stmt) : He.DefD := ⟨(x, none), x, x, defArgs st, defBody st, defScope st, [], []⟩
theorem fnT_at {T : Txt} {K : PySem.W.Frag} {P : Program} {w : World} {mg : Str → Option Value} {base : Heap} {lv : Nat} {x : Str} {st : Stmt} {N ps : List Str} {gl : List (Str × PyData)} {fn : List (Str × Nat × FnS)} {ms : List ((Str × Str) × Nat × FnS)} {fuel : Nat} {b : Css}
    (t : TW T K mg) (i : Nat) (hi : T.fn[i]? = some (mkD x st)) (S : FnScope N ps (defScope st))
    (hb : ∀ (kV doc pm : Value) (an : Option Addr) (cdv ct : Value) (us : List Value), us.length = ps.length → bindArgs (PySem.W.fnOf x x (defArgs st) (defBody st) (defScope st) .none kV doc pm an cdv ct) ⟨us, []⟩ = pure (ps.zip us))
    (hgl : ∀ q ∈ gl, q ∈ T.gl)
    (hfn : ∀ q ∈ fn, FnT P w mg base ⟨K, He.ga K, w⟩ lv q.1 q.2.1 q.2.2)
    (hms : ∀ q ∈ ms, MethT P w mg base ⟨K, He.ga K, w⟩ lv q.1.1 q.1.2 q.2.1 q.2.2)
    (hc : chkSs ⟨N, defScope st, fun _ => true, gl.map (·.1), fn.map (fun q => (q.1, q.2.1)), T.ex, T.cl, T.sub, T.exm, true, T.kl, T.na, ms.map (fun q => (q.1.1, q.1.2, q.2.1))⟩ b (defBody st) = true) :
    FnT P w mg base ⟨K, He.ga K, w⟩ (lv + 1) x ps.length (runF ⟨fn.map (·.2.2) ++ ms.map (·.2.2), gl.map (·.2), fuel⟩ b N.length) := by
  obtain ⟨fd, F⟩ := t.says.d.def_ i (t.fnAt hi)
  exact fnT_of rfl (t.wd w) F (t.nm _ (List.mem_of_getElem? hi)) S hb hgl hfn hms hc
/-- the j-th statement of a class -/
def methOf (st : Stmt) (j : Nat) : Stmt := match st with
  | .ClassDef _ _ _ body _ _ _ _ _ _ _ => body.getD j (.Pass ⟨0, 0, 0, 0⟩)
  | _ => .Pass ⟨0, 0, 0, 0⟩
/-- one method of the text -/
def mkM (c x q : Str) (st : Stmt) : He.DefD := ⟨(c, some x), x, q, defArgs st, defBody st, defScope st, [], []⟩
theorem methT_at {T : Txt} {K : PySem.W.Frag} {P : Program} {w : World} {mg : Str → Option Value} {base : Heap} {lv : Nat} {c x qu : Str} {st : Stmt} {N ps : List Str} {gl : List (Str × PyData)} {fn : List (Str × Nat × FnS)} {ms : List ((Str × Str) × Nat × FnS)} {fuel : Nat} {b : Css}
    (t : TW T K mg) (i : Nat) (hi : T.mt[i]? = some (mkM c x qu st)) (hk : c ∈ T.kl) (hmk : x = "__init__" → c ∈ T.mkc) (S : FnScope N ps (defScope st))
    (hb : ∀ (kV doc pm : Value) (an : Option Addr) (cdv ct : Value) (us : List Value), us.length = ps.length → bindArgs (PySem.W.fnOf x qu (defArgs st) (defBody st) (defScope st) .none kV doc pm an cdv ct) ⟨us, []⟩ = pure (ps.zip us))
    (hgl : ∀ q ∈ gl, q ∈ T.gl)
    (hfn : ∀ q ∈ fn, FnT P w mg base ⟨K, He.ga K, w⟩ lv q.1 q.2.1 q.2.2)
    (hms : ∀ q ∈ ms, MethT P w mg base ⟨K, He.ga K, w⟩ lv q.1.1 q.1.2 q.2.1 q.2.2)
    (hc : chkSs ⟨N, defScope st, fun _ => true, gl.map (·.1), fn.map (fun q => (q.1, q.2.1)), T.ex, T.cl, T.sub, T.exm, true, T.kl, T.na, ms.map (fun q => (q.1.1, q.1.2, q.2.1))⟩ b (defBody st) = true) :
    MethT P w mg base ⟨K, He.ga K, w⟩ (lv + 2) c x ps.length (runF ⟨fn.map (·.2.2) ++ ms.map (·.2.2), gl.map (·.2), fuel⟩ b N.length) := by
  obtain ⟨fd, F⟩ := t.says.d.def_ (T.fn.length + i) (by
    unfold Txt.ds
    rw [List.getElem?_append_right (by omega), show T.fn.length + i - T.fn.length = i by omega]; exact hi)
  have hm : Meth K (He.ga K c) x (He.ma K (He.ga K c) x) := He.meth_ok (t.says.fact (f := .meth c x) (by
    refine List.mem_append_left _ ?_
    unfold Txt.faC
    exact List.mem_append_right _ (List.mem_append_right _ (List.mem_append_left _ (List.mem_map_of_mem (f := mtFa) (List.mem_of_getElem? hi))))))
  exact methT_of (c := c) rfl (t.wd w) F ((t.wd w).kl c hk) hm (fun e => by subst e; exact t.mkr c (hmk rfl)) S hb hgl hfn hms hc
theorem mem_nil_ {α : Type} {p : α → Prop} : ∀ q ∈ ([] : List α), p q := fun q h => by cases h
theorem mem_cons_ {α : Type} {p : α → Prop} {a : α} {l : List α} (h : p a) (t : ∀ q ∈ l, p q) : ∀ q ∈ a :: l, p q := fun q hq => by
  rcases List.mem_cons.mp hq with e | m
  · rw [e]; exact h
  · exact t q m
/-! ### the end -/
theorem walk_ofZ {l : PySem.W.OpenLaw} {n k : Nat} {q : Program} {loose : List Str} {XP : (Str → Option Value) → Heap → Prop} {YP : World → Heap → Prop} {d : DefRec} {CX : World → CXT} {x : Str}
    (hn : l.most = some n) (hn2 : n ≤ sizeLine) (hdf : d.params.defaults = []) (hr : Room k callerA)
    (F : ∀ (w : World) (mg : Str → Option Value) (fa : Addr) (h : Heap), YP w h → h.Ns mainGlobals mg → mg d.name = some (.ref fa) →
      ∃ (K : PySem.W.Frag) (fd : FuncData) (sp : Sp), K.In h ∧ (∀ (s : Shared) (u : Value), BindsTo s fd ⟨[u], []⟩ [(x, u)]) ∧
        (∀ (H : Hp) (a : Addr) (ns : List Int), ns.length ≤ n → Only H → SqL K H a (ns.map V.int) → sp [.ref a] H (fun v _ => v = .bl true) fun _ _ _ => False) ∧
        ∀ base : Heap, K.In base → base.Ns mainGlobals mg → FnOk l.prog w K mg base (CX w) k fa fd [x] sp)
    (hCX : ∀ (w : World) (H : Hp) (s : Shared) (e : Value) (s' : Shared), CX w [] H s (fun _ _ _ => False) e s' → False) :
    PySem.W.WalkO q loose XP YP l.row.toRowW d [] (fun f vs => PySem.call f vs) := by
  refine Att.attach_call hn hdf fun w s₀ s₁ mg mb fa o pm cd doc a vs ns G Y ho hd hcd hmg hobj hints hlen hg => ?_
  obtain ⟨K, fd, sp, KX, hb, hsp, hF⟩ := F w mg fa _ Y G.T.g hmg
  exact law_call KX G.T.g G.T.b G.T.builtins G.T.nolimit hg hobj hints (Nat.le_trans hlen hn2) hr hF hb (fun H hO hS => hsp H a ns hlen hO hS) fun H e s' => hCX w H s₁ e s'
theorem cx_none {P : Program} {w : World} {H : Hp} {s : Shared} {e : Value} {s' : Shared} (h : L2.CX P w [] H s (fun _ _ _ => False) e s') : False := by
  obtain ⟨_, _, _, _, _, _, _, _, _, _, _, _, z⟩ := h
  exact z
theorem spLaw_of {G : Gx} {g : FnS} {n : Nat} (hs : ∀ ns : List Int, ns.length ≤ n → ∃ h', g [.scr ns] [] = .ok (.d (.bool true)) h') {H : Hp} {a : Addr} {ns : List Int} (hl : ns.length ≤ n) (hS : SqL G.K H a (ns.map V.int)) :
    spF G g 1 [.ref a] H (fun v _ => v = .bl true) fun _ _ _ => False := by
  refine ⟨rfl, fun _ => False, [], [], [.scr ns], ⟨rfl, .nil, fun _ z => z.elim, fun _ _ _ z => by simp at z⟩, .cons (.scr ?_) .nil, ?_⟩
  · rcases hS with r | r
    · exact .inl ⟨r, fun z => z.elim id fun m => by simp at m⟩
    · exact .inr r
  · obtain ⟨h', e⟩ := hs ns hl
    rw [e]
    intro ρ' H' x _ _ r
    cases r with
    | d r => exact r.scal_bl
/-- the law's def keeps its promise, so the law's call answers True -/
theorem law_ofZ {T : Txt} {l : PySem.W.OpenLaw} {w : World} {n lv i : Nat} {mg : Str → Option Value} {fa : Addr} {h : Heap} {x p : Str} {st : Stmt} {N : List Str} {gl : List (Str × PyData)} {fn : List (Str × Nat × FnS)} {ms : List ((Str × Str) × Nat × FnS)} {fuel : Nat} {b : Css} {m : Nat} (Y : (hookZ m T).says w h) (G : h.Ns mainGlobals mg) (hmg : mg x = some (.ref fa))
    (hi : T.fn[i]? = some (mkD x st)) (S : FnScope N [p] (defScope st)) (hb : ∀ (kV doc pm : Value) (an : Option Addr) (cdv ct : Value) (us : List Value), us.length = [p].length → bindArgs (PySem.W.fnOf x x (defArgs st) (defBody st) (defScope st) .none kV doc pm an cdv ct) ⟨us, []⟩ = pure ([p].zip us))
    (hgl : ∀ q ∈ gl, q ∈ T.gl)
    (hc : chkSs ⟨N, defScope st, fun _ => true, gl.map (·.1), fn.map (fun q => (q.1, q.2.1)), T.ex, T.cl, T.sub, T.exm, true, T.kl, T.na, ms.map (fun q => (q.1.1, q.1.2, q.2.1))⟩ b (defBody st) = true)
    (hfn : ∀ (K : PySem.W.Frag) (base : Heap), TW T K mg → ∀ q ∈ fn, FnT l.prog w mg base ⟨K, He.ga K, w⟩ lv q.1 q.2.1 q.2.2)
    (hms : ∀ (K : PySem.W.Frag) (base : Heap), TW T K mg → ∀ q ∈ ms, MethT l.prog w mg base ⟨K, He.ga K, w⟩ lv q.1.1 q.1.2 q.2.1 q.2.2)
    (hs : ∀ ns : List Int, ns.length ≤ n → ∃ h', runF ⟨fn.map (·.2.2) ++ ms.map (·.2.2), gl.map (·.2), fuel⟩ b N.length [.scr ns] [] = .ok (.d (.bool true)) h') :
    ∃ (K : PySem.W.Frag) (fd : FuncData) (sp : Sp), K.In h ∧ (∀ (s : Shared) (u : Value), BindsTo s fd ⟨[u], []⟩ [(p, u)]) ∧
        (∀ (H : Hp) (a : Addr) (ns : List Int), ns.length ≤ n → Only H → SqL K H a (ns.map V.int) → sp [.ref a] H (fun v _ => v = .bl true) fun _ _ _ => False) ∧
        ∀ base : Heap, K.In base → base.Ns mainGlobals mg → FnOk l.prog w K mg base (L2.CX l.prog w) (lv + 1) fa fd [p] sp := by
  obtain ⟨K, KX, c⟩ := Y
  have t := tw_of KX G c
  obtain ⟨fd, F⟩ := t.says.d.def_ i (t.fnAt hi)
  have e := hmg.symm.trans (t.nm _ (List.mem_of_getElem? hi))
  cases e
  have hbA := FunD.bindsA (ps := [p]) F hb
  exact ⟨K, fd, _, KX, fun s v => hbA s [v] rfl, fun H a ns hl _ hS => spLaw_of (G := ⟨K, He.ga K, w⟩) hs hl hS, fun base _ _ => fnOk_of rfl (t.wd w) F S hgl (hfn K base t) (hms K base t) hc⟩
end L2

set_option Elab.async false
set_option linter.all false
set_option autoImplicit false
set_option maxRecDepth 100000
set_option maxHeartbeats 4000000
/-! Q0: reading meanings. -/
namespace Z
open PySem L2
/-! ### data -/
theorem eqv_int (a b : Int) : PyData.eqv (.int a) (.int b) = decide (a = b) := by
  unfold PyData.eqv
  by_cases h : a = b <;> simp [h]
theorem eqv_str (a b : Str) : PyData.eqv (.str a) (.str b) = decide (a = b) := by
  unfold PyData.eqv
  by_cases h : a = b <;> simp [h]
theorem eqv_bool (a b : Bool) : PyData.eqv (.bool a) (.bool b) = decide (a = b) := by
  unfold PyData.eqv
  by_cases h : a = b <;> simp [h]
theorem eqv_tup (a b : List D) : PyData.eqv (.tuple a) (.tuple b) = PyData.eqvAll a b := by
  unfold PyData.eqv; rfl
theorem eqv_lst (a b : List D) : PyData.eqv (.list a) (.list b) = PyData.eqvAll a b := by
  unfold PyData.eqv; rfl
theorem eqvAll_nil : PyData.eqvAll [] [] = true := by unfold PyData.eqvAll; rfl
theorem eqvAll_cons (a b : D) (as bs : List D) : PyData.eqvAll (a :: as) (b :: bs) = (PyData.eqv a b && PyData.eqvAll as bs) := by rw [PyData.eqvAll]
theorem eqvAll_nc (a : D) (as : List D) : PyData.eqvAll [] (a :: as) = false := by rw [PyData.eqvAll]
theorem eqvAll_cn (a : D) (as : List D) : PyData.eqvAll (a :: as) [] = false := by rw [PyData.eqvAll]
/-- data of a kind whose equality is the things' own -/
theorem eqvAll_map {α : Type} {f : α → D} {l m : List α} (h : ∀ x ∈ l, ∀ y ∈ m, (PyData.eqv (f x) (f y) = true ↔ x = y)) : (PyData.eqvAll (l.map f) (m.map f) = true ↔ l = m) := by
  induction l generalizing m with
  | nil => cases m with
    | nil => simp [eqvAll_nil]
    | cons b m => simp [eqvAll_nc]
  | cons a l ih => cases m with
    | nil => simp [eqvAll_cn]
    | cons b m =>
      simp only [List.map_cons, eqvAll_cons, Bool.and_eq_true, List.cons.injEq]
      rw [h a (by simp) b (by simp), ih (fun x hx y hy => h x (by simp [hx]) y (by simp [hy]))]
/-! ### shapes: data of small depth -/
def shD (n : Nat) (d : D) : Prop := d.canLay0 = true ∧ d.depth ≤ n
theorem sh_of {n : Nat} {d : D} (h : shD n d) (hn : n ≤ 64) : sh d = true := by
  unfold sh SeqAt.shaped
  rw [h.1, decide_eq_true (Nat.le_trans h.2 hn)]
  rfl
theorem depthAll_le {n : Nat} : ∀ {ds : List D}, (∀ x ∈ ds, x.depth ≤ n) → PyData.depthAll ds ≤ n
  | [], _ => by simp [PyData.depthAll]
  | d :: ds, h => by
    have h1 := h d (by simp)
    have h2 := depthAll_le (ds := ds) (n := n) fun x hx => h x (by simp [hx])
    simp only [PyData.depthAll]
    omega
theorem canAll_ok : ∀ {ds : List D}, (∀ x ∈ ds, x.canLay0 = true) → PyData.canLayAll0 ds = true
  | [], _ => by simp [PyData.canLayAll0]
  | d :: ds, h => by
    simp only [PyData.canLayAll0, Bool.and_eq_true]
    exact ⟨h d (by simp), canAll_ok fun x hx => h x (by simp [hx])⟩
theorem shD_int {n : Nat} (i : Int) : shD n (.int i) := ⟨by simp [PyData.canLay0], by simp [PyData.depth]⟩
theorem shD_bool {n : Nat} (i : Bool) : shD n (.bool i) := ⟨by simp [PyData.canLay0], by simp [PyData.depth]⟩
theorem shD_none {n : Nat} : shD n .none := ⟨by simp [PyData.canLay0], by simp [PyData.depth]⟩
theorem shD_str {n : Nat} {x : Str} (h : PyData.strOk x = true) : shD n (.str x) := ⟨by simp [PyData.canLay0, h], by simp [PyData.depth]⟩
theorem shD_tup {n : Nat} {ds : List D} (h : ∀ x ∈ ds, shD n x) : shD (n + 1) (.tuple ds) := ⟨by simp only [PyData.canLay0]; exact canAll_ok fun x hx => (h x hx).1, by
  simp only [PyData.depth]
  have := depthAll_le (n := n) fun x hx => (h x hx).2
  omega⟩
theorem shD_lst {n : Nat} {ds : List D} (h : ∀ x ∈ ds, shD n x) : shD (n + 1) (.list ds) := ⟨by simp only [PyData.canLay0]; exact canAll_ok fun x hx => (h x hx).1, by
  simp only [PyData.depth]
  have := depthAll_le (n := n) fun x hx => (h x hx).2
  omega⟩
theorem shD.mono {m n : Nat} {d : D} (h : shD m d) (l : m ≤ n) : shD n d := ⟨h.1, Nat.le_trans h.2 l⟩
/-! ### indexes -/
theorem ixN_nat (n k : Nat) (h : k < n) : ixN n (k : Int) = some k := by
  unfold ixN
  rw [if_pos (by omega), if_pos (by omega)]
  simp
theorem ixN_last (n : Nat) (h : 0 < n) : ixN n (-1) = some (n - 1) := by
  unfold ixN
  rw [if_neg (by omega), if_pos (by omega)]
  congr 1
  omega
theorem atI_nat {α : Type} (xs : List α) (k : Nat) (h : k < xs.length) : atI xs (k : Int) = xs[k]? := by
  unfold atI
  rw [ixN_nat _ _ h]
  rfl
theorem atI_0 {α : Type} (x : α) (xs : List α) : atI (x :: xs) 0 = some x := by
  have := atI_nat (x :: xs) 0 (by simp)
  simpa using this
theorem atI_1 {α : Type} (x y : α) (xs : List α) : atI (x :: y :: xs) 1 = some y := by
  have := atI_nat (x :: y :: xs) 1 (by simp)
  simpa using this
theorem atI_last {α : Type} (xs : List α) (h : xs ≠ []) : atI xs (-1) = xs.getLast? := by
  have hl : 0 < xs.length := List.length_pos_iff.mpr h
  unfold atI
  rw [ixN_last _ hl]
  simp [List.getLast?_eq_getElem?]
theorem atI_k {α : Type} (xs : List α) (i : Int) (k : Nat) (x : α) (hi : i = (k : Int)) (h : xs[k]? = some x) : atI xs i = some x := by
  rw [hi, atI_nat _ _ (List.getElem?_eq_some_iff.mp h).1, h]
/-! ### reading: one rule a construct -/
def getV (o : Option (Option Val)) (h : MH) : Res Val := match o with
  | some (some v) => .ok v h
  | _ => .bad
def ifT {α : Type} (o : Option Bool) (a b c : α) : α := match o with
  | some true => a
  | some false => b
  | none => c
def ixC (o : Option Cell) (i : Int) : Option Val := match o with
  | some (.lst vs) => atI vs i
  | some (.tup vs) => atI vs i
  | some (.dict _ kvs) => if kOk kvs (.int i) then dget kvs (.int i) else none
  | _ => none
def lenC (o : Option Cell) : Option D := match o with
  | some (.lst vs) => some (.int vs.length)
  | some (.dict _ kvs) => some (.int kvs.length)
  | _ => none
def subC (o : Option Cell) (h : MH) (n : Nat) (i : Int) (v : Val) : Option MH := match o with
  | some (.lst vs) => (L2.ixN vs.length i).map fun j => h.set n (.lst (vs.set j v))
  | some (.dict false kvs) => if kOk kvs (.int i) && decide (kvs.length < PySem.sizeLine) then some (h.set n (.dict false (dput kvs (.int i) v))) else none
  | _ => none
def datC (o : Option Cell) : Option D := match o with
  | some (.lst vs) => (dats vs).map .list
  | some (.fro ds) => some (.list ds)
  | some (.dict _ kvs) => (dats (kvs.map (·.2))).map fun ds => .dict ((kvs.map (·.1)).zip ds)
  | _ => none
def nextH (o : Option MH) (e : Env) : RS := match o with
  | some h1 => .next e h1
  | none => .bad
def callG (o : Option FnS) (vs : List Val) (h : MH) : Res Val := match o with
  | some g => g vs h
  | none => .bad
@[simp] theorem getV_some (v : Val) (h : MH) : getV (some (some v)) h = .ok v h := rfl
@[simp] theorem ifT_some {α : Type} (b : Bool) (x y z : α) : ifT (some b) x y z = if b = true then x else y := by cases b <;> rfl
@[simp] theorem ixC_lst (vs : List Val) (i : Int) : ixC (some (.lst vs)) i = atI vs i := rfl
@[simp] theorem lenC_lst (vs : List Val) : lenC (some (.lst vs)) = some (.int vs.length) := rfl
@[simp] theorem datC_lst (vs : List Val) : datC (some (.lst vs)) = (dats vs).map .list := rfl
@[simp] theorem nextH_some (h : MH) (e : Env) : nextH (some h) e = .next e h := rfl
@[simp] theorem callG_some (g : FnS) (vs : List Val) (h : MH) : callG (some g) vs h = g vs h := rfl
theorem subC_lst (vs : List Val) (h : MH) (n : Nat) (i : Int) (v : Val) : subC (some (.lst vs)) h n i v = (L2.ixN vs.length i).map fun j => h.set n (.lst (vs.set j v)) := rfl
section
variable (L : Lib) (e : Env) (h : MH)
@[simp] theorem den_var (i : Nat) : den L (.var i) e h = getV e[i]? h := rfl
@[simp] theorem den_none : den L .none e h = .ok (.d .none) h := rfl
@[simp] theorem den_bool (b : Bool) : den L (.bool b) e h = .ok (.d (.bool b)) h := rfl
@[simp] theorem den_int (i : Int) : den L (.int i) e h = .ok (.d (.int i)) h := rfl
@[simp] theorem den_str (i : PySem.Str) : den L (.str i) e h = .ok (.d (.str i)) h := rfl
@[simp] theorem den_glob (k : Nat) : den L (.glob k) e h = lift h (L.gl[k]?.map .d) := rfl
@[simp] theorem den_tup (es : Ces) : den L (.tup es) e h = (dens L es e h).bind fun vs h => lift h ((dats vs).bind fun ds => if lOk ds.length then some (.d (.tuple ds)) else none) := rfl
@[simp] theorem den_lst (es : Ces) : den L (.lst es) e h = (dens L es e h).bind fun vs h => lift h ((dats vs).bind fun ds => if lOk ds.length then some (.d (.list ds)) else none) := rfl
@[simp] theorem den_lstR (es : Ces) : den L (.lstR es) e h = (dens L es e h).bind fun vs h => if lOk vs.length then .ok (.ref h.length) (h ++ [.lst vs]) else .bad := rfl
@[simp] theorem den_bin (o : Bop) (a b : Ce) : den L (.bin o a b) e h = (den L a e h).bind fun x h => (den L b e h).bind fun y h => lift h ((asD h x).bind fun x => (asD h y).bind fun y => (binD o x y).map .d) := rfl
@[simp] theorem den_cmp (o : Cop) (a b : Ce) : den L (.cmp o a b) e h = (den L a e h).bind fun x h => (den L b e h).bind fun y h => lift h ((cmpV h o x y).map fun b => .d (.bool b)) := rfl
@[simp] theorem den_and (es : Ces) : den L (.and es) e h = denAnd L es e h := rfl
@[simp] theorem den_or (es : Ces) : den L (.or es) e h = denOr L es e h := rfl
@[simp] theorem den_not (a : Ce) : den L (.not a) e h = (den L a e h).bind fun x h => lift h ((truth x).map fun b => .d (.bool (!b))) := rfl
@[simp] theorem den_ite (c a b : Ce) : den L (.ite c a b) e h = (den L c e h).bind fun x h => ifT (truth x) (den L a e h) (den L b e h) .bad := rfl
@[simp] theorem den_ix (a i : Ce) : den L (.ix a i) e h = (den L a e h).bind fun x h => (den L i e h).bind fun y h => lift h (ixV h x y) := rfl
@[simp] theorem den_sl (a lo hi : Ce) : den L (.sl a lo hi) e h = (den L a e h).bind fun x h => (partO lo (den L lo e h) h).bind fun l h => (partO hi (den L hi e h) h).bind fun u h => lift h ((asD h x).bind fun x => (slD x l u).map .d) := rfl
@[simp] theorem den_call (f : Nat) (es : Ces) : den L (.call f es) e h = (dens L es e h).bind fun vs h => callG L.fn[f]? vs h := rfl
@[simp] theorem den_blt (b : Bfn) (es : Ces) : den L (.blt b es) e h = (dens L es e h).bind fun vs h => lift h (bltV h b vs) := rfl
@[simp] theorem dens_nil : dens L .nil e h = .ok [] h := rfl
@[simp] theorem dens_cons (a : Ce) (as : Ces) : dens L (.cons a as) e h = (den L a e h).bind fun v h => (dens L as e h).bind fun vs h => .ok (v :: vs) h := rfl
@[simp] theorem denAnd_1 (a : Ce) : denAnd L (.cons a .nil) e h = (den L a e h).bind fun v h => lift h ((truth v).map fun b => .d (.bool b)) := rfl
@[simp] theorem denAnd_2 (a b : Ce) (as : Ces) : denAnd L (.cons a (.cons b as)) e h = (den L a e h).bind fun v h => ifT (truth v) (denAnd L (.cons b as) e h) (.ok (.d (.bool false)) h) .bad := rfl
@[simp] theorem denOr_1 (a : Ce) : denOr L (.cons a .nil) e h = (den L a e h).bind fun v h => lift h ((truth v).map fun b => .d (.bool b)) := rfl
@[simp] theorem denOr_2 (a b : Ce) (as : Ces) : denOr L (.cons a (.cons b as)) e h = (den L a e h).bind fun v h => ifT (truth v) (.ok (.d (.bool true)) h) (denOr L (.cons b as) e h) .bad := rfl
@[simp] theorem denC_nil : denC L .nil e h = .ok true h := rfl
@[simp] theorem denC_1 (a : Ce) : denC L (.cons a .nil) e h = (den L a e h).bind fun v h => lift h (truth v) := rfl
@[simp] theorem exec_set (i : Nat) (a : Ce) : exec L (.set i a) e h = ofR e (den L a e h) fun v h => toE (setE e i v) h := rfl
@[simp] theorem exec_par (is : List Nat) (es : Ces) : exec L (.par is es) e h = ofR e (dens L es e h) fun vs h => toE (setAll e is vs) h := rfl
@[simp] theorem exec_asg (t : Ct) (a : Ce) : exec L (.asg t a) e h = ofR e (den L a e h) fun v h => toE (bindT t v e) h := rfl
@[simp] theorem exec_asgs (ts : List Ct) (es : Ces) : exec L (.asgs ts es) e h = ofR e (dens L es e h) fun vs h => toE (bindAllV ts vs e) h := rfl
@[simp] theorem exec_sub (o i a : Ce) : exec L (.sub o i a) e h = ofR e (den L a e h) fun v h => ofR e (den L o e h) fun x h => ofR e (den L i e h) fun y h => nextH (subV h x y v) e := rfl
@[simp] theorem exec_expr (a : Ce) : exec L (.expr a) e h = ofR e (den L a e h) fun _ h => .next e h := rfl
@[simp] theorem exec_ret (a : Ce) : exec L (.ret a) e h = ofR e (den L a e h) fun v h => .ret v h := rfl
@[simp] theorem exec_ite (c : Ce) (a b : Css) : exec L (.ite c a b) e h = ofR e (den L c e h) fun v h => ifT (truth v) (execs L a e h) (execs L b e h) .bad := rfl
@[simp] theorem exec_raise (c : PySem.Str) : exec L (.raise c) e h = .exc c e h := rfl
@[simp] theorem exec_pass : exec L .pass e h = .next e h := rfl
@[simp] theorem execs_nil : execs L .nil e h = .next e h := rfl
@[simp] theorem execs_cons (s : Cs) (ss : Css) : execs L (.cons s ss) e h = (exec L s e h).andThen (execs L ss) := rfl
end
section
variable (h : MH)
@[simp] theorem asD_d (x : D) : asD h (.d x) = some x := rfl
@[simp] theorem asD_ref (n : Nat) : asD h (.ref n) = datC h[n]? := by unfold asD datC; first | rfl | (dsimp only; rfl) | (dsimp only; cases h[n]? with | none => rfl | some c => cases c <;> rfl)
@[simp] theorem dat_d (x : D) : dat (.d x) = some x := rfl
@[simp] theorem dats_nil : dats [] = some [] := rfl
@[simp] theorem dats_cons (v : Val) (vs : List Val) : dats (v :: vs) = (dat v).bind fun x => (dats vs).map (x :: ·) := rfl
@[simp] theorem dats_map (ds : List D) : dats (ds.map .d) = some ds := by
  induction ds with
  | nil => rfl
  | cons d ds ih => simp [ih]
@[simp] theorem truth_b (b : Bool) : truth (.d (.bool b)) = some b := rfl
@[simp] theorem setE_def (e : Env) (i : Nat) (v : Val) : setE e i v = if i < e.length then some (e.set i (some v)) else none := rfl
@[simp] theorem setAll_nil (e : Env) : setAll e [] [] = some e := rfl
@[simp] theorem setAll_cons (e : Env) (i : Nat) (is : List Nat) (v : Val) (vs : List Val) : setAll e (i :: is) (v :: vs) = (setE e i v).bind fun e => setAll e is vs := rfl
@[simp] theorem bindAllV_nil (e : Env) : bindAllV [] [] e = some e := rfl
@[simp] theorem bindAllV_cons (t : Ct) (ts : List Ct) (v : Val) (vs : List Val) (e : Env) : bindAllV (t :: ts) (v :: vs) e = (bindT t v e).bind (bindAllV ts vs) := rfl
@[simp] theorem bindT_name (i : Nat) (v : Val) (e : Env) : bindT (.name i) v e = setE e i v := rfl
@[simp] theorem bindT_pair (a b : Ct) (x y : D) (e : Env) : bindT (.pair a b) (.d (.tuple [x, y])) e = (bindT a (.d x) e).bind (bindT b (.d y)) := rfl
@[simp] theorem partO_no (r : Res Val) : partO .no r h = .ok none h := rfl
@[simp] theorem partO_int (i : Int) (r : Res Val) : partO (.int i) r h = r.bind partI := rfl
@[simp] theorem partO_var (i : Nat) (r : Res Val) : partO (.var i) r h = r.bind partI := rfl
@[simp] theorem partO_bin (o : Bop) (a b : Ce) (r : Res Val) : partO (.bin o a b) r h = r.bind partI := rfl
@[simp] theorem partO_neg (a : Ce) (r : Res Val) : partO (.neg a) r h = r.bind partI := rfl
@[simp] theorem partO_ix (a b : Ce) (r : Res Val) : partO (.ix a b) r h = r.bind partI := rfl
@[simp] theorem partI_int (i : Int) : partI (.d (.int i)) h = .ok (some i) h := rfl
@[simp] theorem den_neg_int (L : Lib) (e : Env) (a : Int) : den L (.neg (.int a)) e h = .ok (.d (.int (-a))) h := rfl
@[simp] theorem ixV_d (a i : D) : ixV h (.d a) (.d i) = (ixD a i).map .d := rfl
@[simp] theorem ixV_ref (n : Nat) (i : Int) : ixV h (.ref n) (.d (.int i)) = ixC h[n]? i := by unfold ixV ixC; first | rfl | (dsimp only; rfl) | (dsimp only; cases h[n]? with | none => rfl | some c => cases c <;> rfl)
@[simp] theorem ixD_t (xs : List D) (i : Int) : ixD (.tuple xs) (.int i) = atI xs i := rfl
@[simp] theorem ixD_l (xs : List D) (i : Int) : ixD (.list xs) (.int i) = atI xs i := rfl
@[simp] theorem slD_t (xs : List D) (l u : Option Int) : slD (.tuple xs) l u = some (.tuple (cutD xs l u)) := rfl
@[simp] theorem slD_l (xs : List D) (l u : Option Int) : slD (.list xs) l u = some (.list (cutD xs l u)) := rfl
@[simp] theorem subV_ref (n : Nat) (i : Int) (v : Val) : subV h (.ref n) (.d (.int i)) v = subC h[n]? h n i v := by unfold subV subC; first | rfl | (dsimp only; rfl) | (dsimp only; cases h[n]? with | none => rfl | some c => cases c <;> first | rfl | (rename_i b _; cases b <;> rfl))
@[simp] theorem bltV_len_ref (n : Nat) : bltV h .len [.ref n] = (lenC h[n]?).map .d := by unfold bltV lenV lenC; first | rfl | (dsimp only; rfl) | (dsimp only; cases h[n]? with | none => rfl | some c => cases c <;> rfl)
@[simp] theorem bltV_len_t (xs : List D) : bltV h .len [.d (.tuple xs)] = some (.d (.int xs.length)) := rfl
@[simp] theorem bltV_len_l (xs : List D) : bltV h .len [.d (.list xs)] = some (.d (.int xs.length)) := rfl
@[simp] theorem bltV_list_scr (ns : List Int) : bltV h .list [.scr ns] = some (.d (.list (ns.map .int))) := rfl
@[simp] theorem bltV_isInt (x : D) : bltV h .isInt [.d x] = some (.d (.bool (isT .isInt x))) := rfl
@[simp] theorem bltV_isBool (x : D) : bltV h .isBool [.d x] = some (.d (.bool (isT .isBool x))) := rfl
@[simp] theorem bltV_isStr (x : D) : bltV h .isStr [.d x] = some (.d (.bool (isT .isStr x))) := rfl
@[simp] theorem bltV_isTuple (x : D) : bltV h .isTuple [.d x] = some (.d (.bool (isT .isTuple x))) := rfl
@[simp] theorem bltV_isList (x : D) : bltV h .isList [.d x] = some (.d (.bool (isT .isList x))) := rfl
@[simp] theorem isT_int (i : Int) : isT .isInt (.int i) = true := rfl
@[simp] theorem isT_bint (i : Int) : isT .isBool (.int i) = false := rfl
@[simp] theorem isT_str (i : PySem.Str) : isT .isStr (.str i) = true := rfl
@[simp] theorem isT_tup (i : List D) : isT .isTuple (.tuple i) = true := rfl
@[simp] theorem isT_lst (i : List D) : isT .isList (.list i) = true := rfl
@[simp] theorem bltV_tuple_d (x : D) : bltV h .tuple [.d x] = (bltD .tuple [x]).map .d := rfl
@[simp] theorem bltV_all_d (x : D) : bltV h .all [.d x] = (bltD .all [x]).map .d := rfl
@[simp] theorem bltD_tuple_l (xs : List D) : bltD .tuple [.list xs] = some (.tuple xs) := rfl
@[simp] theorem bltD_all_l (xs : List D) : bltD .all [.list xs] = (boolsOf xs).map fun bs => .bool (bs.all id) := rfl
@[simp] theorem add_int (i j : Int) : binD .add (.int i) (.int j) = some (.int (i + j)) := rfl
@[simp] theorem sub_int (i j : Int) : binD .sub (.int i) (.int j) = some (.int (i - j)) := rfl
@[simp] theorem mod_int (i : Int) {j : Int} (hj : j ≠ 0) : binD .mod (.int i) (.int j) = some (.int (i.fmod j)) := by simp [binD, hj]
@[simp] theorem fdiv_int (i : Int) {j : Int} (hj : j ≠ 0) (hk : j.natAbs < 1073741824) : binD .fdiv (.int i) (.int j) = some (.int (i.fdiv j)) := by simp [binD, hj, hk]
@[simp] theorem add_t (a b : List D) : binD .add (.tuple a) (.tuple b) = if lOk (a.length + b.length) then some (.tuple (a ++ b)) else none := rfl
@[simp] theorem add_l (a b : List D) : binD .add (.list a) (.list b) = if lOk (a.length + b.length) then some (.list (a ++ b)) else none := rfl
@[simp] theorem cmpV_d (o : Cop) (a b : D) : cmpV h o (.d a) (.d b) = cmpD o a b := by
  unfold cmpV
  cases o <;> cases b <;> rfl
@[simp] theorem lt_int (i j : Int) : cmpD .lt (.int i) (.int j) = some (decide (i < j)) := rfl
@[simp] theorem le_int (i j : Int) : cmpD .le (.int i) (.int j) = some (decide (i ≤ j)) := rfl
@[simp] theorem gt_int (i j : Int) : cmpD .gt (.int i) (.int j) = some (decide (j < i)) := rfl
@[simp] theorem ge_int (i j : Int) : cmpD .ge (.int i) (.int j) = some (decide (j ≤ i)) := rfl
@[simp] theorem eq_D (a b : D) (ha : sh a = true) (hb : sh b = true) : cmpD .eq a b = some (PySem.PyData.eqv a b) := by simp [cmpD, ha, hb]
@[simp] theorem ne_D (a b : D) (ha : sh a = true) (hb : sh b = true) : cmpD .ne a b = some (!PySem.PyData.eqv a b) := by simp [cmpD, ha, hb]
@[simp] theorem sh_int (i : Int) : sh (.int i) = true := sh_of (n := 0) (shD_int i) (by decide)
@[simp] theorem sh_bool (i : Bool) : sh (.bool i) = true := sh_of (n := 0) (shD_bool i) (by decide)
end
@[simp] theorem lOk_of {n : Nat} (h : n ≤ 16777216) : lOk n = true := by
  unfold lOk
  exact decide_eq_true (by simpa [PySem.sizeLine] using h)
theorem mul_l {i : Int} (j : Int) (h1 : -18446744073709551616 < i) (h2 : i < 18446744073709551616) : binD .mul (.int i) (.int j) = some (.int (i * j)) := by
  have : wOk i = true := by simp [wOk]; omega
  simp [binD, this]
theorem mul_r (i : Int) {j : Int} (h1 : -18446744073709551616 < j) (h2 : j < 18446744073709551616) : binD .mul (.int i) (.int j) = some (.int (i * j)) := by
  have : wOk j = true := by simp [wOk]; omega
  simp [binD, this]
theorem pow_5 {i : Int} (h : i.natAbs < 18446744073709551616) : binD .pow (.int i) (.int 5) = some (.int (i ^ 5)) := by
  simp [binD, h]
@[simp] theorem ixN_21 : L2.ixN 2 1 = some 1 := rfl
def endR : RS → Res Val
  | .ret v h => .ok v h
  | .next _ h => .ok (.d .none) h
  | .exc c _ h => .exc c h
  | _ => .bad
theorem runF_def (L : Lib) (b : Css) (n : Nat) (args : List Val) (h : MH) : runF L b n args h = endR (execs L b (args.map some ++ List.replicate (n - args.length) none) h) := by
  unfold runF endR
  rfl
@[simp] theorem endR_ret (v : Val) (h : MH) : endR (.ret v h) = .ok v h := rfl
@[simp] theorem endR_next (e : Env) (h : MH) : endR (.next e h) = .ok (.d .none) h := rfl
@[simp] theorem endR_exc (c : PySem.Str) (e : Env) (h : MH) : endR (.exc c e h) = .exc c h := rfl
def leK (j : Int) (z : Val) (h : MH) : Res Val := match z with
  | .d (.int k) => .ok (.d (.bool (decide (j ≤ k)))) h
  | _ => .bad
def le2 (x y : Val) (h : MH) (k : MH → Res Val) : Res Val := match x, y with
  | .d (.int i), .d (.int j) => if i ≤ j then (k h).bind (leK j) else .ok (.d (.bool false)) h
  | _, _ => .bad
@[simp] theorem den_cmp2 (L : Lib) (e : Env) (h : MH) (a b c : Ce) : den L (.cmp2 a b c) e h = (den L a e h).bind fun x h => (den L b e h).bind fun y h => le2 x y h fun h => den L c e h := rfl
@[simp] theorem le2_int (i j : Int) (h : MH) (k : MH → Res Val) : le2 (.d (.int i)) (.d (.int j)) h k = if i ≤ j then (k h).bind (leK j) else .ok (.d (.bool false)) h := rfl
@[simp] theorem leK_int (i j : Int) (h : MH) : leK i (.d (.int j)) h = .ok (.d (.bool (decide (i ≤ j)))) h := rfl
theorem cutD_take (xs : List D) (k : Nat) : cutD xs none (some (k : Int)) = xs.take k := by
  unfold cutD
  rw [HT.sIx_nat]
  simp [HT.sIx, List.take_eq_take_iff]
theorem cutD_drop (xs : List D) (k : Nat) : cutD xs (some (k : Int)) none = xs.drop k := by
  unfold cutD
  rw [HT.sIx_nat]
  simp only [HT.sIx]
  by_cases hk : k ≤ xs.length
  · rw [Nat.min_eq_left hk, List.take_of_length_le (by simp)]
  · rw [Nat.min_eq_right (by omega), List.drop_of_length_le (by omega), List.drop_of_length_le (by omega)]; simp
theorem cutD_last (xs : List D) : cutD xs (some (-1)) none = xs.drop (xs.length - 1) := by
  unfold cutD
  have : HT.sIx xs.length 0 (some (-1)) = xs.length - 1 := by
    unfold HT.sIx
    simp only
    rw [if_pos (by decide)]; omega
  rw [this]
  simp only [HT.sIx]
  rw [List.take_of_length_le (by simp)]
theorem cutD_init (xs : List D) : cutD xs none (some (-1)) = xs.dropLast := by
  unfold cutD
  have : HT.sIx xs.length xs.length (some (-1)) = xs.length - 1 := by
    unfold HT.sIx
    simp only
    rw [if_pos (by decide)]; omega
  rw [this]
  simp [HT.sIx, List.dropLast_eq_take]
theorem cutD_mid (xs : List D) (j k : Nat) (hk : k ≤ xs.length) (hj : j ≤ k) : cutD xs (some (j : Int)) (some (k : Int)) = (xs.drop j).take (k - j) := by
  unfold cutD
  rw [HT.sIx_nat, HT.sIx_nat, Nat.min_eq_left hk, Nat.min_eq_left (by omega)]
theorem atI_t (xs : List D) : atI xs (-1) = xs.getLast? := by
  by_cases h : xs = []
  · subst h; rfl
  · exact atI_last xs h
theorem cutD_drop1 (xs : List D) (k : Nat) : cutD xs (some ((k : Int) + 1)) none = xs.drop (k + 1) := cutD_drop xs (k + 1)
theorem cutD_d (xs : List D) (k : Nat) (i : Int) (hi : i = (k : Int)) : cutD xs (some i) none = xs.drop k := by rw [hi, cutD_drop]
theorem cutD_t (xs : List D) (k : Nat) (i : Int) (hi : i = (k : Int)) : cutD xs none (some i) = xs.take k := by rw [hi, cutD_take]
@[simp] theorem cutD_d1 (xs : List D) : cutD xs (some 1) none = xs.drop 1 := cutD_drop xs 1
@[simp] theorem cutD_t1 (xs : List D) : cutD xs none (some 1) = xs.take 1 := cutD_take xs 1
@[simp] theorem cutD_dm (xs : List D) : cutD xs (some (-1)) none = xs.drop (xs.length - 1) := cutD_last xs
@[simp] theorem cutD_tm (xs : List D) : cutD xs none (some (-1)) = xs.dropLast := cutD_init xs
@[simp] theorem atI_l0 {α : Type} (a : α) (xs : List α) : atI (a :: xs) 0 = some a := atI_0 a xs
@[simp] theorem atI_l1 {α : Type} (a b : α) (xs : List α) : atI (a :: b :: xs) 1 = some b := atI_1 a b xs
@[simp] theorem atI_l2 {α : Type} (a b c : α) (xs : List α) : atI (a :: b :: c :: xs) 2 = some c := atI_k _ 2 2 c rfl rfl
@[simp] theorem atI_l3 {α : Type} (a b c d : α) (xs : List α) : atI (a :: b :: c :: d :: xs) 3 = some d := atI_k _ 3 3 d rfl rfl
@[simp] theorem atI_l4 {α : Type} (a b c d e : α) (xs : List α) : atI (a :: b :: c :: d :: e :: xs) 4 = some e := atI_k _ 4 4 e rfl rfl
@[simp] theorem atI_l5 {α : Type} (a b c d e f : α) (xs : List α) : atI (a :: b :: c :: d :: e :: f :: xs) 5 = some f := atI_k _ 5 5 f rfl rfl
@[simp] theorem atI_l6 {α : Type} (a b c d e f g : α) (xs : List α) : atI (a :: b :: c :: d :: e :: f :: g :: xs) 6 = some g := atI_k _ 6 6 g rfl rfl
@[simp] theorem ofS_inj (a b : String) : (PySem.Str.ofString a = PySem.Str.ofString b) = (a = b) := by
  apply propext
  constructor
  · intro h
    rw [PySem.Str.ofString_eq_toList, PySem.Str.ofString_eq_toList] at h
    injection h with h
    have h1 : a.toList.map Char.toNat = b.toList.map Char.toNat := by simpa using congrArg Array.toList h
    have inj : ∀ (l m : List Char), l.map Char.toNat = m.map Char.toNat → l = m := by
      intro l
      induction l with
      | nil => intro m e; cases m with
        | nil => rfl
        | cons _ _ => cases e
      | cons c l ih => intro m e; cases m with
        | nil => cases e
        | cons d m =>
          simp only [List.map_cons, List.cons.injEq] at e
          rw [Char.toNat_inj.mp e.1, ih m e.2]
    exact String.ext (inj _ _ h1)
  · intro h; rw [h]
@[simp] theorem sh_w0 : sh (.str (PySem.Str.ofString "ring")) = true := by decide +kernel
@[simp] theorem sh_w1 : sh (.str (PySem.Str.ofString "stack")) = true := by decide +kernel
@[simp] theorem sh_w2 : sh (.str (PySem.Str.ofString "keep")) = true := by decide +kernel
@[simp] theorem sh_w3 : sh (.str (PySem.Str.ofString "move")) = true := by decide +kernel
@[simp] theorem sh_w4 : sh (.str (PySem.Str.ofString "twice")) = true := by decide +kernel
@[simp] theorem sh_w5 : sh (.str (PySem.Str.ofString "stay")) = true := by decide +kernel
@[simp] theorem sh_w6 : sh (.str (PySem.Str.ofString "lowest")) = true := by decide +kernel
@[simp] theorem sh_w7 : sh (.str (PySem.Str.ofString "refuse")) = true := by decide +kernel
@[simp] theorem sh_w8 : sh (.str (PySem.Str.ofString "down")) = true := by decide +kernel
@[simp] theorem sh_w9 : sh (.str (PySem.Str.ofString "up")) = true := by decide +kernel
@[simp] theorem sh_w10 : sh (.str (PySem.Str.ofString "stays")) = true := by decide +kernel
@[simp] theorem sh_w11 : sh (.str (PySem.Str.ofString "none")) = true := by decide +kernel
@[simp] theorem sh_w12 : sh (.str (PySem.Str.ofString "all")) = true := by decide +kernel
@[simp] theorem sh_w13 : sh (.str (PySem.Str.ofString "loose")) = true := by decide +kernel
@[simp] theorem sh_w14 : sh (.str (PySem.Str.ofString "copy")) = true := by decide +kernel
@[simp] theorem sh_w15 : sh (.str (PySem.Str.ofString "paste")) = true := by decide +kernel
@[simp] theorem sh_w16 : sh (.str (PySem.Str.ofString "next")) = true := by decide +kernel
@[simp] theorem sh_w17 : sh (.str (PySem.Str.ofString "drop")) = true := by decide +kernel
@[simp] theorem sh_w18 : sh (.str (PySem.Str.ofString "pin")) = true := by decide +kernel
@[simp] theorem sh_w19 : sh (.str (PySem.Str.ofString "empty")) = true := by decide +kernel
/-! ### for, comprehensions -/
/-- a comprehension whose steps change nothing -/
theorem compRun_pure {α : Type} (f : D → MH → Res (Option D)) (h : MH) (inj : α → D) (g : α → Option D) : ∀ (xs : List α) (acc : List D), (∀ x ∈ xs, f (inj x) h = .ok (g x) h) → acc.length + xs.length ≤ 16777216 → compRun f (xs.map inj) h acc = .ok (acc ++ xs.filterMap g) h
  | [], acc, _, _ => by simp [compRun]
  | x :: xs, acc, hf, hl => by
    simp only [List.length_cons] at hl
    have h1 := hf x (by simp)
    have ih := compRun_pure f h inj g xs
    simp only [List.map_cons, compRun, h1]
    cases hg : g x with
    | none =>
      simp only
      rw [ih acc (fun y hy => hf y (by simp [hy])) (by omega)]
      simp [hg]
    | some y =>
      simp only
      have : acc.length < PySem.sizeLine := by simp only [PySem.sizeLine]; omega
      rw [if_pos this, ih (acc ++ [y]) (fun y hy => hf y (by simp [hy])) (by simp; omega)]
      simp [hg]
/-- a comprehension whose steps change a heap of a kind -/
theorem compRun_ex {f : D → MH → Res (Option D)} {P : MH → Prop} {R : D → D → Prop} : ∀ (xs : List D) (acc : List D) (h : MH), (∀ x ∈ xs, ∀ h, P h → ∃ y h', f x h = .ok (some y) h' ∧ R x y ∧ P h') → P h → acc.length + xs.length ≤ 16777216 →
    ∃ ys h', compRun f xs h acc = .ok (acc ++ ys) h' ∧ Paired R xs ys ∧ P h'
  | [], acc, h, _, hP, _ => ⟨[], h, by simp [compRun], .nil, hP⟩
  | x :: xs, acc, h, hf, hP, hl => by
    simp only [List.length_cons] at hl
    obtain ⟨y, h1, e1, r1, p1⟩ := hf x (by simp) h hP
    have hacc : acc.length < PySem.sizeLine := by simp only [PySem.sizeLine]; omega
    obtain ⟨ys, h2, e2, r2, p2⟩ := compRun_ex xs (acc ++ [y]) h1 (fun z hz => hf z (by simp [hz])) p1 (by simp; omega)
    exact ⟨y :: ys, h2, by simp [compRun, e1, hacc, e2], .cons r1 r2, p2⟩
def compK (L : Lib) (tg : Ct) (cond : Ces) (elt : Ce) (own : List Nat) (e : Env) (x : D) (h : MH) : Res (Option D) := match bindT tg (.d x) (wipeE e own) with
  | none => .bad
  | some e1 => (denC L cond e1 h).bind fun b h => if b then (den L elt e1 h).bind fun v h => lift h ((dat v).map some) else .ok none h
def compKV (L : Lib) (tg : Ct) (cond : Ces) (elt : Ce) (own : List Nat) (e : Env) (x : Val) (h : MH) : Res (Option Val) := match bindT tg x (wipeE e own) with
  | none => .bad
  | some e1 => (denC L cond e1 h).bind fun b h => if b then (den L elt e1 h).bind fun v h => .ok (some v) h else .ok none h
def srcK (s : Src) (f : D → MH → Res (Option D)) (g : Val → MH → Res (Option Val)) (h : MH) : Res Val := match s with
  | .items ds => (compRun f ds h []).bind fun ds h => .ok (.d (.list ds)) h
  | .live n len => (compGo g (.live n len) len h []).bind fun vs h => lift h ((dats vs).map fun ds => .d (.list ds))
@[simp] theorem den_comp_ (L : Lib) (tg : Ct) (src : Ci) (cond : Ces) (elt : Ce) (own : List Nat) (e : Env) (h : MH) : den L (.comp tg src cond elt own) e h = (denI L src e h).bind fun s h => srcK s (compK L tg cond elt own e) (compKV L tg cond elt own e) h := rfl
@[simp] theorem denF_comp_ (L : Lib) (tg : Ct) (src : Ci) (cond : Ces) (elt : Ce) (own : List Nat) (e : Env) (h : MH) : denF L (.comp tg src cond elt own) e h = (denI L src e h).bind fun s h => srcK s (compK L tg cond elt own e) (compKV L tg cond elt own e) h := rfl
@[simp] theorem srcK_items (ds : List D) (f : D → MH → Res (Option D)) (g : Val → MH → Res (Option Val)) (h : MH) : srcK (.items ds) f g h = (compRun f ds h []).bind fun ds h => .ok (.d (.list ds)) h := rfl
@[simp] theorem wipe_nil (e : Env) : wipeE e [] = e := rfl
@[simp] theorem wipe_cons (e : Env) (v : Nat) (vs : List Nat) : wipeE e (v :: vs) = (wipeE e vs).set v none := rfl
def optE (o : Option Env) (k : Env → Res (Option D)) : Res (Option D) := match o with
  | none => .bad
  | some e => k e
@[simp] theorem optE_some (e : Env) (k : Env → Res (Option D)) : optE (some e) k = k e := rfl
theorem compK_def (L : Lib) (tg : Ct) (cond : Ces) (elt : Ce) (own : List Nat) (e : Env) (x : D) (h : MH) : compK L tg cond elt own e x h = optE (bindT tg (.d x) (wipeE e own)) fun e1 => (denC L cond e1 h).bind fun b h => if b then (den L elt e1 h).bind fun v h => lift h ((dat v).map some) else .ok none h := rfl
@[simp] theorem denI_seq (L : Lib) (a : Ce) (e : Env) (h : MH) : denI L (.seq a) e h = (den L a e h).bind fun v h => lift (lockV h v) (seqV h v) := rfl
@[simp] theorem lockV_d (h : MH) (x : D) : lockV h (.d x) = h := rfl
theorem lockV_lst {h : MH} {n : Nat} {vs : List Val} (e : h[n]? = some (.lst vs)) : lockV h (.ref n) = h := by simp [lockV, e]
def rg1K (v : Val) (h : MH) : Res Src := match v with
  | .d (.int i) => if rgOk i then .ok (.items (rangeD 0 i)) h else .bad
  | _ => .bad
@[simp] theorem denI_range1 (L : Lib) (a : Ce) (e : Env) (h : MH) : denI L (.range1 a) e h = (den L a e h).bind rg1K := rfl
@[simp] theorem rg1K_int (i : Int) (h : MH) : rg1K (.d (.int i)) h = if rgOk i then .ok (.items (rangeD 0 i)) h else .bad := rfl
def enK (v : Val) (h : MH) : Res Src := match v with
  | .d (.list xs) => .ok (.items (enumD xs)) h
  | .d (.tuple xs) => .ok (.items (enumD xs)) h
  | _ => .bad
@[simp] theorem denI_enum (L : Lib) (a : Ce) (e : Env) (h : MH) : denI L (.enum a) e h = (den L a e h).bind enK := rfl
@[simp] theorem enK_t (xs : List D) (h : MH) : enK (.d (.tuple xs)) h = .ok (.items (enumD xs)) h := rfl
@[simp] theorem enK_l (xs : List D) (h : MH) : enK (.d (.list xs)) h = .ok (.items (enumD xs)) h := rfl
@[simp] theorem seqV_t (xs : List D) (h : MH) : seqV h (.d (.tuple xs)) = some (.items xs) := rfl
@[simp] theorem seqV_l (xs : List D) (h : MH) : seqV h (.d (.list xs)) = some (.items xs) := rfl
@[simp] theorem den_alloc_ (L : Lib) (a : Ce) (e : Env) (h : MH) : den L (.alloc a) e h = (denF L a e h).bind fun v h => (match allocV h v with
    | some (r, h1) => .ok r h1
    | none => .bad) := rfl
@[simp] theorem allocV_l (xs : List D) (h : MH) : allocV h (.d (.list xs)) = some (.ref h.length, h ++ [.lst (xs.map .d)]) := rfl
@[simp] theorem denF_lst (L : Lib) (es : Ces) (e : Env) (h : MH) : denF L (.lst es) e h = (dens L es e h).bind fun vs h => lift h ((dats vs).bind fun ds => if lOk ds.length then some (.d (.list ds)) else none) := rfl
@[simp] theorem denF_list (L : Lib) (es : Ces) (e : Env) (h : MH) : denF L (.blt .list es) e h = (dens L es e h).bind fun vs h => lift h (bltV h .list vs) := rfl
/-- enumerate over things -/
theorem enumD_map {α : Type} (f : α → D) (xs : List α) : enumD (xs.map f) = xs.zipIdx.map fun x => pairD x.2 (f x.1) := by
  apply List.ext_getElem?
  intro i
  unfold enumD
  rw [List.getElem?_zipWith, List.getElem?_map, List.getElem?_map, List.getElem?_zipIdx]
  by_cases hi : i < xs.length
  · rw [List.getElem?_range (by simpa using hi), List.getElem?_eq_getElem hi]
    simp
  · rw [List.getElem?_eq_none (by simp; omega), List.getElem?_eq_none (by omega)]
    rfl
section
variable (L : Lib) (e : Env) (h : MH)
@[simp] theorem isin_t (x : D) (ds : List D) (h1 : sh x = true) (h2 : sh (.tuple ds) = true) : cmpD .isin x (.tuple ds) = some (inD x ds) := by simp [cmpD, h1, h2]
@[simp] theorem notin_t (x : D) (ds : List D) (h1 : sh x = true) (h2 : sh (.tuple ds) = true) : cmpD .notin x (.tuple ds) = some (!inD x ds) := by simp [cmpD, h1, h2]
def lstC (o : Option Cell) : Bool := match o with
  | some (.lst _) => true
  | _ => false
def appC (o : Option Cell) (h : MH) (n : Nat) (v : Val) : Res Val := match o with
  | some (.lst vs) => if vs.length < PySem.sizeLine then .ok (.d .none) (h.set n (.lst (vs ++ [v]))) else .bad
  | _ => .bad
def appK (x : Val) (vs : List Val) (h : MH) : Res Val := match x, vs with
  | .ref n, [v] => appC h[n]? h n v
  | _, _ => .bad
def lockC (o : Option Cell) (n : Nat) (h : MH) : Res Val := match o with
  | some (.lst vs) => match dats vs with
    | some ds => .ok (.d (.list ds)) (h.set n (.fro ds))
    | none => .bad
  | some (.fro ds) => .ok (.d (.list ds)) h
  | _ => .bad
def lockK (v : Val) (h : MH) : Res Val := match lockL h v with
  | some (d, h1) => .ok (.d d) h1
  | none => .bad
@[simp] theorem lockK_d (x : D) : lockK (.d x) h = .ok (.d x) h := rfl
@[simp] theorem lockK_ref (n : Nat) : lockK (.ref n) h = lockC h[n]? n h := by
  unfold lockK lockL lockC
  dsimp only
  cases h[n]? with
  | none => rfl
  | some c => cases c with
    | lst vs => dsimp only; cases dats vs <;> rfl
    | _ => rfl
@[simp] theorem lockC_lst (n : Nat) (ds : List D) : lockC (some (.lst (ds.map .d))) n h = .ok (.d (.list ds)) (h.set n (.fro ds)) := by simp [lockC]
@[simp] theorem lockC_fro (n : Nat) (ds : List D) : lockC (some (.fro ds)) n h = .ok (.d (.list ds)) h := rfl
@[simp] theorem lstAt_ref (n : Nat) : lstAt h (.ref n) = lstC h[n]? := rfl
@[simp] theorem lstC_lst (vs : List Val) : lstC (some (.lst vs)) = true := rfl
@[simp] theorem den_append (o : Ce) (es : Ces) : den L (.mst .append o es) e h = (den L o e h).bind fun x h => if lstAt h x then (dens L es e h).bind fun vs h => appK x vs h else .bad := by
  simp only [den]
  congr 1
  funext x h
  have em : mstAt h .append x = lstAt h x := by cases x <;> rfl
  rw [em]
  split
  · congr 1
    funext vs h
    unfold appK appC mstV
    cases x with
    | ref n =>
      match vs with
      | [] => rfl
      | [v] =>
        simp only
        cases h[n]? with
        | none => rfl
        | some c => cases c with
          | lst vs =>
            simp only
            by_cases hv : vs.length < PySem.sizeLine <;> simp [hv]
          | _ => rfl
      | _ :: _ :: _ => rfl
    | _ => rfl
  · rfl
/-- lists that are changed no more, new lists of defs -/
@[simp] theorem den_lock (L : Lib) (e : Env) (h : MH) (a : Ce) : den L (.lock a) e h = (den L a e h).bind lockK := rfl
@[simp] theorem appK_ref (n : Nat) (v : Val) : appK (.ref n) [v] h = appC h[n]? h n v := rfl
theorem appC_lst (vs : List Val) (n : Nat) (v : Val) (hl : vs.length < PySem.sizeLine) : appC (some (.lst vs)) h n v = .ok (.d .none) (h.set n (.lst (vs ++ [v]))) := by simp [appC, hl]
def forK (s : Src) (t : Ct) (body : Env → MH → RS) (e : Env) (h : MH) : RS := match s with
  | .items ds => forRun t body ds e h
  | .live n len => forLive t n len body len e h
@[simp] theorem exec_for (t : Ct) (src : Ci) (body : Css) : exec L (.for_ t src body) e h = ofR e (denI L src e h) fun s h => forK s t (execs L body) e h := rfl
@[simp] theorem forK_items (ds : List D) (t : Ct) (body : Env → MH → RS) : forK (.items ds) t body e h = forRun t body ds e h := rfl
def fstK (o : Option Env) (k : Env → RS) : RS := match o with
  | none => .bad
  | some e => k e
def nxtK (r : RS) (k : Env → MH → RS) : RS := match r with
  | .next e2 h2 => k e2 h2
  | .cont e2 h2 => k e2 h2
  | .brk e2 h2 => .next e2 h2
  | r => r
theorem forRun_nil (t : Ct) (body : Env → MH → RS) : forRun t body [] e h = .next e h := rfl
theorem forRun_cons (t : Ct) (body : Env → MH → RS) (x : D) (xs : List D) : forRun t body (x :: xs) e h = fstK (bindT t (.d x) e) fun e1 => nxtK (body e1 h) (forRun t body xs) := rfl
@[simp] theorem fstK_some (k : Env → RS) : fstK (some e) k = k e := rfl
@[simp] theorem nxtK_next (k : Env → MH → RS) : nxtK (.next e h) k = k e h := rfl
@[simp] theorem nxtK_ret (v : Val) (k : Env → MH → RS) : nxtK (.ret v h) k = .ret v h := rfl
theorem mapO_d (b k : Nat) (ds : List D) : mapO (frz b h k) (ds.map .d) = some ds := by
  induction ds with
  | nil => rfl
  | cons d ds ih =>
    have : frz b h k (.d d) = some d := by cases k <;> rfl
    simp [mapO, this, ih]
def frzC (b : Nat) (o : Option Cell) (h : MH) (k : Nat) : Option D := match o with
  | some (.lst vs) => (mapO (frz b h k) vs).map .list
  | some (.fro ds) => some (.list ds)
  | some (.tup vs) => (mapO (frz b h k) vs).map .tuple
  | some (.dict _ kvs) => (mapO (frz b h k) (kvs.map (·.2))).map fun ds => .dict ((kvs.map (·.1)).zip ds)
  | _ => none
theorem frz_d (b k : Nat) (d : D) : frz b h k (.d d) = some d := by cases k <;> rfl
theorem frz_ref (b k n : Nat) : frz b h (k + 1) (.ref n) = if b ≤ n then frzC b h[n]? h k else none := by unfold frz frzC; first | rfl | (dsimp only; rfl) | (dsimp only; cases h[n]? with | none => rfl | some c => cases c <;> rfl)
theorem frzC_lst (b k : Nat) (ds : List D) : frzC b (some (.lst (ds.map .d))) h k = some (.list ds) := by
  simp [frzC, mapO_d]
end
/-- a def of its own heap -/
theorem pureF_ok {g : FnS} {args : List Val} {h h1 : MH} {v : Val} {d : D} {ds : List D} (ha : dats args = some ds) (hg : g args [] = .ok v h1) (hf : frz 0 h1 6 v = some d) : pureF g args h = .ok (.d d) h := by
  simp [pureF, ha, hg, hf]
@[simp] theorem den_dict_ (L : Lib) (e : Env) (h : MH) (ks : List PySem.Str) (es : Ces) : den L (.dict ks es) e h = (dens L es e h).bind fun vs h => lift h ((dats vs).bind fun ds => if dicOk ks ds.length then some (.dic (ks.zip ds)) else none) := rfl
@[simp] theorem ixV_dic (h : MH) (kvs : List (PySem.Str × D)) (k : PySem.Str) : ixV h (.dic kvs) (.d (.str k)) = (kvs.find? fun q => decide (q.1 = k)).map fun q => .d q.2 := rfl
@[simp] theorem dicOk_left : dicOk [PySem.Str.ofString "ring", PySem.Str.ofString "keep", PySem.Str.ofString "stack"] 3 = true := by decide +kernel
end Z

set_option Elab.async false
set_option linter.all false
set_option autoImplicit false
set_option maxRecDepth 100000
set_option maxHeartbeats 4000000
/-! k13: the text as core terms; printed by gen.py. -/
namespace Tx
open PySem PySem.Spec PyProof.Rows L2 Z
def top (i : Nat) : Stmt := PySem.Challenge.pw_pocketpastes_k13_whole_desks.main.body.getD i (.Pass ⟨0, 0, 0, 0⟩)
def c_KINDS : Str × PyData := ("KINDS", .tuple [.str "copy", .str "paste", .str "next", .str "drop", .str "pin", .str "empty"])
def c_MOST_DONE : Str × PyData := ("MOST_DONE", .int 100)
def c_KINDS_OF : Str × PyData := ("KINDS_OF", .tuple [.str "ring", .str "stack", .str "keep"])
def c_AGAINS : Str × PyData := ("AGAINS", .tuple [.str "move", .str "twice", .str "stay"])
def c_FULLS : Str × PyData := ("FULLS", .tuple [.str "lowest", .str "refuse"])
def c_TURNS : Str × PyData := ("TURNS", .tuple [.str "down", .str "up"])
def c_PINS : Str × PyData := ("PINS", .tuple [.str "stays", .str "none"])
def c_WIPES : Str × PyData := ("WIPES", .tuple [.str "all", .str "loose"])
def c_MOST_ROW : Str × PyData := ("MOST_ROW", .int 40)
def c_START : Str × PyData := ("START", .tuple [.tuple [], .int (-1)])
/-! ### _law_start -/
def b_law_start : Css :=
  (.cons (.ret (.lstR (.cons (.ite (.cmp .ne (.var 0) (.lst .nil)) (.alloc (.blt .list (.cons (.var 0) .nil))) (.alloc (.lst (.cons (.int 0) .nil)))) (.cons (.int 0) .nil)))) .nil)
def N_law_start : List Str := ["_law_script"]
def g_law_start : FnS := runF ⟨[], [], 0⟩ b_law_start 1
/-! ### _law_words -/
def b_law_words : Css :=
  (.cons (.set 0 (.lst (.cons (.lst (.cons (.str "ring") (.cons (.str "stack") (.cons (.str "keep") .nil)))) (.cons (.lst (.cons (.int 1) (.cons (.int 2) (.cons (.int 3) .nil)))) (.cons (.lst (.cons (.str "move") (.cons (.str "twice") (.cons (.str "stay") .nil)))) (.cons (.lst (.cons (.str "lowest") (.cons (.str "refuse") .nil))) .nil))))))
    (.cons (.ret (.bin .add (.var 0) (.lst (.cons (.lst (.cons (.str "down") (.cons (.str "up") .nil))) (.cons (.lst (.cons (.str "stays") (.cons (.str "none") .nil))) (.cons (.lst (.cons (.str "all") (.cons (.str "loose") .nil))) .nil))))))
    .nil))
def N_law_words : List Str := ["_law_found"]
def g_law_words : FnS := runF ⟨[], [], 0⟩ b_law_words 1
/-! ### _law_draw -/
def b_law_draw : Css :=
  (.cons (.set 2 (.ix (.var 0) (.int 0)))
    (.cons (.sub (.var 0) (.int 1) (.bin .add (.ix (.var 0) (.int 1)) (.int 1)))
    (.cons (.set 3 (.bin .mod (.ix (.var 0) (.int 1)) (.blt .len (.cons (.var 2) .nil))))
    (.cons (.set 4 (.ix (.var 2) (.var 3)))
    (.cons (.ite (.cmp .ge (.var 4) (.int 1000000000000000000)) (.cons (.sub (.var 2) (.var 3) (.bin .fdiv (.var 4) (.var 1)))
    (.cons (.ret (.bin .mod (.var 4) (.var 1)))
    .nil)) .nil)
    (.cons (.set 5 (.bin .mod (.bin .add (.var 4) (.bin .mul (.int 104729) (.ix (.var 0) (.int 1)))) (.int 4294967291)))
    (.cons (.set 5 (.bin .mod (.bin .pow (.var 5) (.int 5)) (.int 4294967279)))
    (.cons (.ret (.bin .mod (.bin .fdiv (.bin .mod (.bin .add (.bin .mul (.bin .fdiv (.var 5) (.int 64)) (.int 69621)) (.var 5)) (.int 4294967231)) (.int 8)) (.var 1)))
    .nil))))))))
def N_law_draw : List Str := ["_law_draws", "_law_limit", "_law_numbers", "_law_at", "_law_cell", "_law_mixed"]
def g_law_draw : FnS := runF ⟨[], [], 0⟩ b_law_draw 6
/-! ### _law_pick -/
def b_law_pick : Css :=
  (.cons (.ret (.ix (.var 1) (.call 0 (.cons (.var 0) (.cons (.blt .len (.cons (.var 1) .nil)) .nil)))))
    .nil)
def N_law_pick : List Str := ["_law_draws", "_law_choices"]
def g_law_pick : FnS := runF ⟨[g_law_draw], [], 0⟩ b_law_pick 2
/-! ### _law_way -/
def b_law_way : Css :=
  (.cons (.set 1 (.alloc (.comp (.name 2) (.seq (.call 0 .nil)) .nil (.call 1 (.cons (.var 0) (.cons (.var 2) .nil))) [2])))
    (.cons (.sub (.var 1) (.int 1) (.call 1 (.cons (.var 0) (.cons (.lst (.cons (.int 1) (.cons (.int 2) (.cons (.int 2) (.cons (.int 3) (.cons (.int 3) .nil)))))) .nil))))
    (.cons (.ret (.blt .tuple (.cons (.var 1) .nil)))
    .nil)))
def N_law_way : List Str := ["_law_draws", "_law_found", "_law_words_here"]
def g_law_way : FnS := cutF (runF ⟨[g_law_words, g_law_pick], [], 0⟩ b_law_way 3)
/-! ### _law_error -/
def b_law_error : Css :=
  (.cons (.set 1 (.lst (.cons (.isx (.var 0) "BadWay" [("BadWay", true), ("BadDeeds", false), ("BadViews", false), ("BadNumber", false), ("BadText", false), ("NotFound", false)]) (.cons (.isx (.var 0) "BadDeeds" [("BadWay", false), ("BadDeeds", true), ("BadViews", false), ("BadNumber", false), ("BadText", false), ("NotFound", false)]) (.cons (.isx (.var 0) "BadViews" [("BadWay", false), ("BadDeeds", false), ("BadViews", true), ("BadNumber", false), ("BadText", false), ("NotFound", false)]) .nil)))))
    (.cons (.set 1 (.bin .add (.var 1) (.lst (.cons (.isx (.var 0) "BadNumber" [("BadWay", false), ("BadDeeds", false), ("BadViews", false), ("BadNumber", true), ("BadText", false), ("NotFound", false)]) (.cons (.isx (.var 0) "BadText" [("BadWay", false), ("BadDeeds", false), ("BadViews", false), ("BadNumber", false), ("BadText", true), ("NotFound", false)]) (.cons (.isx (.var 0) "NotFound" [("BadWay", false), ("BadDeeds", false), ("BadViews", false), ("BadNumber", false), ("BadText", false), ("NotFound", true)]) .nil))))))
    (.cons (.ite (.or (.cons (.cmp .ne (.mth .count (.var 1) (.cons (.bool true) .nil)) (.int 1)) (.cons (.not (.isx (.var 0) "PasteError" [("BadWay", true), ("BadDeeds", true), ("BadViews", true), ("BadNumber", true), ("BadText", true), ("NotFound", true)])) (.cons (.not (.isx (.var 0) "ValueError" [("BadWay", true), ("BadDeeds", true), ("BadViews", true), ("BadNumber", true), ("BadText", true), ("NotFound", true)])) .nil)))) (.cons (.ret (.str "odd"))
    .nil) .nil)
    (.cons (.ret (.ix (.lst (.cons (.str "way") (.cons (.str "deeds") (.cons (.str "views") (.cons (.str "number") (.cons (.str "text") (.cons (.str "none") .nil))))))) (.mth .index (.var 1) (.cons (.bool true) .nil))))
    .nil))))
def N_law_error : List Str := ["_law_caught", "_law_kinds_here"]
def g_law_error : FnS := runF ⟨[], [], 0⟩ b_law_error 2
/-! ### is_int -/
def b_is_int : Css :=
  (.cons (.ret (.and (.cons (.blt .isInt (.cons (.var 0) .nil)) (.cons (.not (.blt .isBool (.cons (.var 0) .nil))) (.cons (.cmp2 (.var 1) (.var 0) (.var 2)) .nil)))))
    .nil)
def N_is_int : List Str := ["value", "low", "high"]
def g_is_int : FnS := runF ⟨[], [], 0⟩ b_is_int 3
/-! ### is_one -/
def b_is_one : Css :=
  (.cons (.ite (.or (.cons (.not (.blt .isTuple (.cons (.var 1) .nil))) (.cons (.cmp .notin (.blt .len (.cons (.var 1) .nil)) (.tup (.cons (.int 1) (.cons (.int 2) .nil)))) (.cons (.not (.blt .isStr (.cons (.ix (.var 1) (.int 0)) .nil))) .nil)))) (.cons (.ret (.bool false))
    .nil) .nil)
    (.cons (.ite (.or (.cons (.cmp .notin (.ix (.var 1) (.int 0)) (.glob 0)) (.cons (.cmp .ne (.cmp .eq (.ix (.var 1) (.int 0)) (.str "copy")) (.cmp .eq (.blt .len (.cons (.var 1) .nil)) (.int 2))) .nil))) (.cons (.ret (.bool false))
    .nil) .nil)
    (.cons (.ret (.or (.cons (.cmp .eq (.blt .len (.cons (.var 1) .nil)) (.int 1)) (.cons (.call 0 (.cons (.ix (.var 1) (.int 1)) (.cons (.int 0) (.cons (.bin .sub (.var 0) (.int 1)) .nil)))) .nil))))
    .nil)))
def N_is_one : List Str := ["size", "value"]
def g_is_one : FnS := runF ⟨[g_is_int], [c_KINDS.2], 0⟩ b_is_one 2
/-! ### check_deed -/
def b_check_deed : Css :=
  (.cons (.ite (.not (.call 0 (.cons (.var 0) (.cons (.var 1) .nil)))) (.cons (.raise "BadDeeds")
    .nil) .nil)
    .nil)
def N_check_deed : List Str := ["size", "value"]
def g_check_deed : FnS := runF ⟨[g_is_one], [], 0⟩ b_check_deed 2
/-! ### copied -/
def b_copied : Css :=
  (.cons (.set 3 (.comp (.pair (.name 8) (.pair (.name 6) (.name 7))) (.enum (.var 1)) (.cons (.cmp .eq (.var 6) (.var 2)) .nil) (.var 8) [6, 7, 8]))
    (.cons (.ite (.and (.cons (.cmp .ne (.var 3) (.lst .nil)) (.cons (.cmp .eq (.ix (.var 0) (.int 2)) (.str "stay")) .nil))) (.cons (.ret (.var 1))
    .nil) .nil)
    (.cons (.ite (.and (.cons (.cmp .ne (.var 3) (.lst .nil)) (.cons (.cmp .eq (.ix (.var 0) (.int 2)) (.str "move")) .nil))) (.cons (.set 4 (.ix (.var 3) (.int 0)))
    (.cons (.ret (.bin .add (.bin .add (.tup (.cons (.ix (.var 1) (.var 4)) .nil)) (.sl (.var 1) .no (.var 4))) (.sl (.var 1) (.bin .add (.var 4) (.int 1)) .no)))
    .nil)) .nil)
    (.cons (.ite (.cmp .eq (.blt .len (.cons (.var 1) .nil)) (.ix (.var 0) (.int 1))) (.cons (.set 5 (.comp (.pair (.name 8) (.pair (.name 6) (.name 7))) (.enum (.var 1)) (.cons (.cmp .eq (.var 7) (.int 0)) .nil) (.var 8) [6, 7, 8]))
    (.cons (.ite (.or (.cons (.cmp .eq (.ix (.var 0) (.int 3)) (.str "refuse")) (.cons (.cmp .eq (.var 5) (.lst .nil)) .nil))) (.cons (.ret (.var 1))
    .nil) .nil)
    (.cons (.set 1 (.bin .add (.sl (.var 1) .no (.ix (.var 5) (.neg (.int 1)))) (.sl (.var 1) (.bin .add (.ix (.var 5) (.neg (.int 1))) (.int 1)) .no)))
    .nil))) .nil)
    (.cons (.ret (.bin .add (.tup (.cons (.tup (.cons (.var 2) (.cons (.int 0) .nil))) .nil)) (.var 1)))
    .nil)))))
def N_copied : List Str := ["way", "pocket", "thing", "places", "first", "loose", "one", "pinned", "place"]
def g_copied : FnS := runF ⟨[], [], 0⟩ b_copied 9
/-! ### dropped -/
def b_dropped : Css :=
  (.cons (.ret (.ite (.cmp .eq (.ix (.ix (.var 0) (.int 0)) (.int 1)) (.int 1)) (.var 0) (.sl (.var 0) (.int 1) .no)))
    .nil)
def N_dropped : List Str := ["pocket"]
def g_dropped : FnS := runF ⟨[], [], 0⟩ b_dropped 1
/-! ### pasted -/
def b_pasted : Css :=
  (.cons (.ite (.cmp .eq (.ix (.var 0) (.int 0)) (.str "ring")) (.cons (.ret (.bin .add (.sl (.var 1) (.int 1) .no) (.sl (.var 1) .no (.int 1))))
    .nil) .nil)
    (.cons (.ret (.ite (.cmp .eq (.ix (.var 0) (.int 0)) (.str "stack")) (.call 0 (.cons (.var 1) .nil)) (.var 1)))
    .nil))
def N_pasted : List Str := ["way", "pocket"]
def g_pasted : FnS := runF ⟨[g_dropped], [], 0⟩ b_pasted 2
/-! ### changed -/
def b_changed : Css :=
  (.cons (.ite (.cmp .eq (.var 2) (.str "next")) (.cons (.ret (.ite (.cmp .eq (.ix (.var 0) (.int 4)) (.str "down")) (.bin .add (.sl (.var 1) (.int 1) .no) (.sl (.var 1) .no (.int 1))) (.bin .add (.sl (.var 1) (.neg (.int 1)) .no) (.sl (.var 1) .no (.neg (.int 1))))))
    .nil) .nil)
    (.cons (.ite (.cmp .eq (.var 2) (.str "drop")) (.cons (.ret (.call 0 (.cons (.var 1) .nil)))
    .nil) .nil)
    (.cons (.ite (.cmp .eq (.var 2) (.str "pin")) (.cons (.asg (.pair (.name 3) (.name 4)) (.ix (.var 1) (.int 0)))
    (.cons (.ret (.ite (.cmp .eq (.ix (.var 0) (.int 5)) (.str "stays")) (.bin .add (.tup (.cons (.tup (.cons (.var 3) (.cons (.bin .sub (.int 1) (.var 4)) .nil))) .nil)) (.sl (.var 1) (.int 1) .no)) (.var 1)))
    .nil)) .nil)
    (.cons (.ret (.ite (.cmp .eq (.ix (.var 0) (.int 6)) (.str "all")) (.tup .nil) (.blt .tuple (.cons (.comp (.name 5) (.seq (.var 1)) (.cons (.cmp .eq (.ix (.var 5) (.int 1)) (.int 1)) .nil) (.var 5) [5]) .nil))))
    .nil))))
def N_changed : List Str := ["way", "pocket", "kind", "thing", "pinned", "entry"]
def g_changed : FnS := runF ⟨[g_dropped], [], 0⟩ b_changed 6
/-! ### step -/
def b_step : Css :=
  (.cons (.asg (.pair (.name 3) (.name 4)) (.var 1))
    (.cons (.ite (.cmp .eq (.ix (.var 2) (.int 0)) (.str "copy")) (.cons (.ret (.tup (.cons (.call 0 (.cons (.var 0) (.cons (.var 3) (.cons (.ix (.var 2) (.int 1)) .nil)))) (.cons (.neg (.int 1)) .nil))))
    .nil) .nil)
    (.cons (.ite (.cmp .eq (.var 3) (.tup .nil)) (.cons (.ret (.tup (.cons (.var 3) (.cons (.neg (.int 1)) .nil))))
    .nil) .nil)
    (.cons (.ite (.cmp .eq (.ix (.var 2) (.int 0)) (.str "paste")) (.cons (.ret (.tup (.cons (.call 1 (.cons (.var 0) (.cons (.var 3) .nil))) (.cons (.ix (.ix (.var 3) (.int 0)) (.int 0)) .nil))))
    .nil) .nil)
    (.cons (.ret (.tup (.cons (.call 2 (.cons (.var 0) (.cons (.var 3) (.cons (.ix (.var 2) (.int 0)) .nil)))) (.cons (.neg (.int 1)) .nil))))
    .nil)))))
def N_step : List Str := ["way", "state", "deed", "pocket", "told"]
def g_step : FnS := runF ⟨[g_copied, g_pasted, g_changed], [], 0⟩ b_step 5
/-! ### view_of -/
def b_view_of : Css :=
  (.cons (.ret (.ite (.cmp .eq (.var 1) (.int 0)) (.tup (.cons (.blt .tuple (.cons (.comp (.pair (.name 3) (.name 2)) (.seq (.ix (.var 0) (.int 0))) .nil (.var 3) [2, 3]) .nil)) (.cons (.ix (.var 0) (.int 1)) .nil))) (.ix (.var 0) (.int 1))))
    .nil)
def N_view_of : List Str := ["state", "sight", "pinned", "thing"]
def g_view_of : FnS := runF ⟨[], [], 0⟩ b_view_of 4
/-! ### Desk.view -/
def b_Desk_view : Css :=
  (.cons (.ret (.call 0 (.cons (.ix (.fld ["Desk"] (.var 0) "states") (.neg (.int 1))) (.cons (.fld ["Desk"] (.var 0) "sight") .nil))))
    .nil)
def N_Desk_view : List Str := ["self"]
def g_Desk_view : FnS := runF ⟨[g_view_of], [], 0⟩ b_Desk_view 1
/-! ### Desk.do -/
def b_Desk_do : Css :=
  (.cons (.expr (.call 0 (.cons (.fld ["Desk"] (.var 0) "size") (.cons (.var 1) .nil))))
    (.cons (.ite (.cmp .eq (.blt .len (.cons (.fld ["Desk"] (.var 0) "line") .nil)) (.glob 0)) (.cons (.raise "BadNumber")
    .nil) .nil)
    (.cons (.expr (.mst .append (.fld ["Desk"] (.var 0) "states") (.cons (.call 1 (.cons (.fld ["Desk"] (.var 0) "way") (.cons (.ix (.fld ["Desk"] (.var 0) "states") (.neg (.int 1))) (.cons (.var 1) .nil)))) .nil)))
    (.cons (.expr (.mst .append (.fld ["Desk"] (.var 0) "line") (.cons (.var 1) .nil)))
    (.cons (.ret (.mcall "Desk" "view" 2 (.var 0) .nil))
    .nil)))))
def N_Desk_do : List Str := ["self", "deed"]
def g_Desk_do : FnS := runF ⟨[g_check_deed, g_step, g_Desk_view], [c_MOST_DONE.2], 0⟩ b_Desk_do 2
/-! ### Desk.undo -/
def b_Desk_undo : Css :=
  (.cons (.ite (.cmp .eq (.fld ["Desk"] (.var 0) "line") (.lst .nil)) (.cons (.raise "NotFound")
    .nil) .nil)
    (.cons (.expr (.mst .pop (.fld ["Desk"] (.var 0) "states") .nil))
    (.cons (.ret (.mst .pop (.fld ["Desk"] (.var 0) "line") .nil))
    .nil)))
def N_Desk_undo : List Str := ["self"]
def g_Desk_undo : FnS := runF ⟨[], [], 0⟩ b_Desk_undo 1
/-! ### _law_call -/
def b_law_call : Css :=
  (.cons (.set 3 .none)
    (.cons (.set 4 .none)
    (.cons (.tryx (.cons (.set 3 (.ite (.cmp .eq (.var 1) (.int 0)) (.mcall "Desk" "do" 1 (.var 0) (.cons (.var 2) .nil)) (.mcall "Desk" "undo" 2 (.var 0) .nil)))
    .nil) 5 4 "PasteError" ["BadWay", "BadDeeds", "BadViews", "BadNumber", "BadText", "NotFound"])
    (.cons (.ret (.ite (.cmp .is_ (.var 4) .none) (.tup (.cons (.str "told") (.cons (.var 3) .nil))) (.tup (.cons (.str "error") (.cons (.call 0 (.cons (.var 4) .nil)) .nil)))))
    .nil))))
def N_law_call : List Str := ["_law_shown_here", "_law_kind", "_law_thing", "_law_found", "_law_caught", "e"]
def g_law_call : FnS := runF ⟨[g_law_error, g_Desk_do, g_Desk_undo], [], 0⟩ b_law_call 6
/-! ### _law_first -/
def b_law_first : Css :=
  (.cons (.ret (.tup (.cons (.tup .nil) (.cons (.neg (.int 1)) .nil))))
    .nil)
def N_law_first : List Str := ["_law_size"]
def g_law_first : FnS := runF ⟨[], [], 0⟩ b_law_first 1
/-! ### _law_copy -/
def b_law_copy : Css :=
  (.cons (.set 3 (.comp (.name 7) (.range1 (.blt .len (.cons (.var 1) .nil))) (.cons (.cmp .eq (.ix (.ix (.var 1) (.var 7)) (.int 0)) (.var 2)) .nil) (.var 7) [7]))
    (.cons (.ite (.and (.cons (.cmp .ne (.var 3) (.lst .nil)) (.cons (.cmp .ne (.ix (.var 0) (.int 2)) (.str "twice")) .nil))) (.cons (.set 4 (.ix (.var 3) (.int 0)))
    (.cons (.set 5 (.bin .add (.bin .add (.tup (.cons (.ix (.var 1) (.var 4)) .nil)) (.sl (.var 1) .no (.var 4))) (.sl (.var 1) (.bin .add (.var 4) (.int 1)) .no)))
    (.cons (.ret (.ite (.cmp .eq (.ix (.var 0) (.int 2)) (.str "stay")) (.var 1) (.var 5)))
    .nil))) .nil)
    (.cons (.ite (.cmp .lt (.blt .len (.cons (.var 1) .nil)) (.ix (.var 0) (.int 1))) (.cons (.ret (.bin .add (.tup (.cons (.tup (.cons (.var 2) (.cons (.int 0) .nil))) .nil)) (.var 1)))
    .nil) .nil)
    (.cons (.set 6 (.comp (.name 7) (.range1 (.blt .len (.cons (.var 1) .nil))) (.cons (.cmp .eq (.ix (.ix (.var 1) (.var 7)) (.int 1)) (.int 0)) .nil) (.var 7) [7]))
    (.cons (.ite (.or (.cons (.cmp .eq (.var 6) (.lst .nil)) (.cons (.cmp .eq (.ix (.var 0) (.int 3)) (.str "refuse")) .nil))) (.cons (.ret (.var 1))
    .nil) .nil)
    (.cons (.ret (.bin .add (.tup (.cons (.tup (.cons (.var 2) (.cons (.int 0) .nil))) .nil)) (.blt .tuple (.cons (.comp (.name 7) (.range1 (.blt .len (.cons (.var 1) .nil))) (.cons (.cmp .ne (.var 7) (.ix (.var 6) (.neg (.int 1)))) .nil) (.ix (.var 1) (.var 7)) [7]) .nil))))
    .nil))))))
def N_law_copy : List Str := ["_law_way_here", "_law_pocket", "_law_thing", "_law_lying", "_law_at", "_law_moved", "_law_able", "_law_k"]
def g_law_copy : FnS := runF ⟨[], [], 0⟩ b_law_copy 8
/-! ### _law_step -/
def b_law_step : Css :=
  (.cons (.par [3, 4] (.cons (.ix (.var 1) (.int 0)) (.cons (.ix (.var 2) (.int 0)) .nil)))
    (.cons (.ite (.cmp .eq (.var 4) (.str "copy")) (.cons (.ret (.tup (.cons (.call 0 (.cons (.var 0) (.cons (.var 3) (.cons (.ix (.var 2) (.int 1)) .nil)))) (.cons (.neg (.int 1)) .nil))))
    .nil) .nil)
    (.cons (.ite (.cmp .eq (.var 3) (.tup .nil)) (.cons (.ret (.tup (.cons (.tup .nil) (.cons (.neg (.int 1)) .nil))))
    .nil) .nil)
    (.cons (.par [5, 6] (.cons (.ix (.var 3) (.int 0)) (.cons (.sl (.var 3) (.int 1) .no) .nil)))
    (.cons (.ite (.cmp .eq (.var 4) (.str "paste")) (.cons (.set 7 (.dict ["ring", "keep", "stack"] (.cons (.bin .add (.var 6) (.tup (.cons (.var 5) .nil))) (.cons (.var 3) (.cons (.ite (.cmp .eq (.ix (.var 5) (.int 1)) (.int 1)) (.var 3) (.var 6)) .nil)))))
    (.cons (.ret (.tup (.cons (.ix (.var 7) (.ix (.var 0) (.int 0))) (.cons (.ix (.var 5) (.int 0)) .nil))))
    .nil)) .nil)
    (.cons (.ite (.cmp .eq (.var 4) (.str "next")) (.cons (.ret (.tup (.cons (.ite (.cmp .eq (.ix (.var 0) (.int 4)) (.str "down")) (.bin .add (.var 6) (.tup (.cons (.var 5) .nil))) (.bin .add (.tup (.cons (.ix (.var 3) (.neg (.int 1))) .nil)) (.sl (.var 3) .no (.neg (.int 1))))) (.cons (.neg (.int 1)) .nil))))
    .nil) .nil)
    (.cons (.ite (.cmp .eq (.var 4) (.str "drop")) (.cons (.ret (.tup (.cons (.ite (.cmp .eq (.ix (.var 5) (.int 1)) (.int 1)) (.var 3) (.var 6)) (.cons (.neg (.int 1)) .nil))))
    .nil) .nil)
    (.cons (.ite (.cmp .eq (.var 4) (.str "pin")) (.cons (.ret (.tup (.cons (.ite (.cmp .eq (.ix (.var 0) (.int 5)) (.str "stays")) (.bin .add (.tup (.cons (.tup (.cons (.ix (.var 5) (.int 0)) (.cons (.bin .sub (.int 1) (.ix (.var 5) (.int 1))) .nil))) .nil)) (.var 6)) (.var 3)) (.cons (.neg (.int 1)) .nil))))
    .nil) .nil)
    (.cons (.ret (.tup (.cons (.blt .tuple (.cons (.comp (.name 8) (.seq (.var 3)) (.cons (.and (.cons (.cmp .eq (.ix (.var 0) (.int 6)) (.str "loose")) (.cons (.cmp .eq (.ix (.var 8) (.int 1)) (.int 1)) .nil))) .nil) (.var 8) [8]) .nil)) (.cons (.neg (.int 1)) .nil))))
    .nil)))))))))
def N_law_step : List Str := ["_law_way_here", "_law_state", "_law_deed", "_law_pocket", "_law_kind", "_law_top", "_law_rest", "_law_left", "_law_entry"]
def g_law_step : FnS := runF ⟨[g_law_copy], [], 0⟩ b_law_step 9
/-! ### _law_states -/
def b_law_states : Css :=
  (.cons (.set 3 (.alloc (.lst (.cons (.call 0 (.cons (.var 1) .nil)) .nil))))
    (.cons (.for_ (.name 4) (.seq (.var 2)) (.cons (.expr (.mst .append (.var 3) (.cons (.call 1 (.cons (.var 0) (.cons (.ix (.var 3) (.neg (.int 1))) (.cons (.var 4) .nil)))) .nil)))
    .nil))
    (.cons (.ret (.var 3))
    .nil)))
def N_law_states : List Str := ["_law_way_here", "_law_size", "_law_row", "_law_found", "_law_deed"]
def g_law_states : FnS := pureF (runF ⟨[g_law_first, g_law_step], [], 0⟩ b_law_states 5)
/-! ### _law_view -/
def b_law_view : Css :=
  (.cons (.ret (.ite (.cmp .eq (.var 1) (.int 0)) (.tup (.cons (.blt .tuple (.cons (.comp (.name 2) (.seq (.ix (.var 0) (.int 0))) .nil (.ix (.var 2) (.int 0)) [2]) .nil)) (.cons (.ix (.var 0) (.int 1)) .nil))) (.ix (.var 0) (.int 1))))
    .nil)
def N_law_view : List Str := ["_law_state", "_law_sight", "_law_entry"]
def g_law_view : FnS := runF ⟨[], [], 0⟩ b_law_view 3
/-! ### _law_kinds -/
def b_law_kinds : Css :=
  (.cons (.ret (.lst (.cons (.str "copy") (.cons (.str "paste") (.cons (.str "next") (.cons (.str "drop") (.cons (.str "pin") (.cons (.str "empty") .nil))))))))
    .nil)
def N_law_kinds : List Str := []
def g_law_kinds : FnS := runF ⟨[], [], 0⟩ b_law_kinds 0
/-! ### _law_deeds -/
def b_law_deeds : Css :=
  (.cons (.ret (.bin .add (.comp (.name 2) (.range1 (.var 0)) .nil (.tup (.cons (.str "copy") (.cons (.var 2) .nil))) [2]) (.comp (.name 1) (.seq (.sl (.call 0 .nil) (.int 1) .no)) .nil (.tup (.cons (.var 1) .nil)) [1])))
    .nil)
def N_law_deeds : List Str := ["_law_size", "_law_kind", "_law_thing"]
def g_law_deeds : FnS := runF ⟨[g_law_kinds], [], 0⟩ b_law_deeds 3
/-! ### is_word -/
def b_is_word : Css :=
  (.cons (.ret (.and (.cons (.blt .isStr (.cons (.var 0) .nil)) (.cons (.cmp .isin (.var 0) (.var 1)) .nil))))
    .nil)
def N_is_word : List Str := ["value", "words"]
def g_is_word : FnS := runF ⟨[], [], 0⟩ b_is_word 2
/-! ### is_way -/
def b_is_way : Css :=
  (.cons (.ite (.or (.cons (.not (.blt .isTuple (.cons (.var 0) .nil))) (.cons (.cmp .ne (.blt .len (.cons (.var 0) .nil)) (.int 7)) .nil))) (.cons (.ret (.bool false))
    .nil) .nil)
    (.cons (.ite (.or (.cons (.not (.call 0 (.cons (.ix (.var 0) (.int 0)) (.cons (.glob 0) .nil)))) (.cons (.not (.call 1 (.cons (.ix (.var 0) (.int 1)) (.cons (.int 1) (.cons (.int 3) .nil))))) (.cons (.not (.call 0 (.cons (.ix (.var 0) (.int 2)) (.cons (.glob 1) .nil)))) .nil)))) (.cons (.ret (.bool false))
    .nil) .nil)
    (.cons (.ite (.or (.cons (.not (.call 0 (.cons (.ix (.var 0) (.int 3)) (.cons (.glob 2) .nil)))) (.cons (.not (.call 0 (.cons (.ix (.var 0) (.int 4)) (.cons (.glob 3) .nil)))) .nil))) (.cons (.ret (.bool false))
    .nil) .nil)
    (.cons (.ret (.and (.cons (.call 0 (.cons (.ix (.var 0) (.int 5)) (.cons (.glob 4) .nil))) (.cons (.call 0 (.cons (.ix (.var 0) (.int 6)) (.cons (.glob 5) .nil))) .nil))))
    .nil))))
def N_is_way : List Str := ["value"]
def g_is_way : FnS := runF ⟨[g_is_word, g_is_int], [c_KINDS_OF.2, c_AGAINS.2, c_FULLS.2, c_TURNS.2, c_PINS.2, c_WIPES.2], 0⟩ b_is_way 1
/-! ### check_way -/
def b_check_way : Css :=
  (.cons (.ite (.not (.call 0 (.cons (.var 0) .nil))) (.cons (.raise "BadWay")
    .nil) .nil)
    .nil)
def N_check_way : List Str := ["value"]
def g_check_way : FnS := runF ⟨[g_is_way], [], 0⟩ b_check_way 1
/-! ### check_number -/
def b_check_number : Css :=
  (.cons (.ite (.not (.call 0 (.cons (.var 0) (.cons (.var 1) (.cons (.var 2) .nil))))) (.cons (.raise "BadNumber")
    .nil) .nil)
    .nil)
def N_check_number : List Str := ["value", "low", "high"]
def g_check_number : FnS := runF ⟨[g_is_int], [], 0⟩ b_check_number 3
/-! ### check_size -/
def b_check_size : Css :=
  (.cons (.expr (.call 0 (.cons (.var 0) (.cons (.int 2) (.cons (.int 3) .nil)))))
    .nil)
def N_check_size : List Str := ["value"]
def g_check_size : FnS := runF ⟨[g_check_number], [], 0⟩ b_check_size 1
/-! ### check_sight -/
def b_check_sight : Css :=
  (.cons (.expr (.call 0 (.cons (.var 0) (.cons (.int 0) (.cons (.int 1) .nil)))))
    .nil)
def N_check_sight : List Str := ["value"]
def g_check_sight : FnS := runF ⟨[g_check_number], [], 0⟩ b_check_sight 1
/-! ### are_deeds -/
def b_are_deeds : Css :=
  (.cons (.ret (.and (.cons (.blt .isList (.cons (.var 1) .nil)) (.cons (.cmp .le (.blt .len (.cons (.var 1) .nil)) (.glob 0)) (.cons (.blt .all (.cons (.comp (.name 2) (.seq (.var 1)) .nil (.call 0 (.cons (.var 0) (.cons (.var 2) .nil))) [2]) .nil)) .nil)))))
    .nil)
def N_are_deeds : List Str := ["size", "value", "one"]
def g_are_deeds : FnS := runF ⟨[g_is_one], [c_MOST_ROW.2], 0⟩ b_are_deeds 3
/-! ### check_row -/
def b_check_row : Css :=
  (.cons (.ite (.not (.call 0 (.cons (.var 0) (.cons (.var 1) .nil)))) (.cons (.raise "BadDeeds")
    .nil) .nil)
    .nil)
def N_check_row : List Str := ["size", "value"]
def g_check_row : FnS := runF ⟨[g_are_deeds], [], 0⟩ b_check_row 2
/-! ### states_of -/
def b_states_of : Css :=
  (.cons (.set 3 (.alloc (.lst (.cons (.glob 0) .nil))))
    (.cons (.for_ (.name 4) (.seq (.var 2)) (.cons (.expr (.mst .append (.var 3) (.cons (.call 0 (.cons (.var 0) (.cons (.ix (.var 3) (.neg (.int 1))) (.cons (.var 4) .nil)))) .nil)))
    .nil))
    (.cons (.ret (.var 3))
    .nil)))
def N_states_of : List Str := ["way", "size", "row", "found", "deed"]
def g_states_of : FnS := pureF (runF ⟨[g_step], [c_START.2], 0⟩ b_states_of 5)
/-! ### shown -/
def b_shown : Css :=
  (.cons (.ret (.comp (.name 4) (.seq (.sl (.call 0 (.cons (.var 0) (.cons (.var 1) (.cons (.var 3) .nil)))) (.int 1) .no)) .nil (.call 1 (.cons (.var 4) (.cons (.var 2) .nil))) [4]))
    .nil)
def N_shown : List Str := ["way", "size", "sight", "row", "state"]
def g_shown : FnS := runF ⟨[g_states_of, g_view_of], [], 0⟩ b_shown 5
/-! ### views_of -/
def b_views_of : Css :=
  (.cons (.expr (.call 0 (.cons (.var 0) .nil)))
    (.cons (.expr (.call 1 (.cons (.var 1) .nil)))
    (.cons (.expr (.call 2 (.cons (.var 2) .nil)))
    (.cons (.expr (.call 3 (.cons (.var 1) (.cons (.var 3) .nil))))
    (.cons (.ret (.call 4 (.cons (.var 0) (.cons (.var 1) (.cons (.var 2) (.cons (.var 3) .nil))))))
    .nil)))))
def N_views_of : List Str := ["way", "size", "sight", "row"]
def g_views_of : FnS := runF ⟨[g_check_way, g_check_size, g_check_sight, g_check_row, g_shown], [], 0⟩ b_views_of 4
/-! ### Desk.__init__ -/
def b_Desk_init : Css :=
  (.cons (.expr (.call 0 (.cons (.var 1) .nil)))
    (.cons (.expr (.call 1 (.cons (.var 2) .nil)))
    (.cons (.expr (.call 2 (.cons (.var 3) .nil)))
    (.cons (.setf ["Desk"] (.var 0) "way" (.var 1))
    (.cons (.setf ["Desk"] (.var 0) "size" (.var 2))
    (.cons (.setf ["Desk"] (.var 0) "sight" (.var 3))
    (.cons (.setf ["Desk"] (.var 0) "line" (.alloc (.lst .nil)))
    (.cons (.setf ["Desk"] (.var 0) "states" (.alloc (.lst (.cons (.glob 0) .nil))))
    .nil))))))))
def N_Desk_init : List Str := ["self", "way", "size", "sight"]
def g_Desk_init : FnS := runF ⟨[g_check_way, g_check_size, g_check_sight], [c_START.2], 0⟩ b_Desk_init 4
/-! ### Desk.state -/
def b_Desk_state : Css :=
  (.cons (.ret (.ix (.fld ["Desk"] (.var 0) "states") (.neg (.int 1))))
    .nil)
def N_Desk_state : List Str := ["self"]
def g_Desk_state : FnS := runF ⟨[], [], 0⟩ b_Desk_state 1
/-! ### Desk.done -/
def b_Desk_done : Css :=
  (.cons (.ret (.blt .list (.cons (.fld ["Desk"] (.var 0) "line") .nil)))
    .nil)
def N_Desk_done : List Str := ["self"]
def g_Desk_done : FnS := runF ⟨[], [], 0⟩ b_Desk_done 1
/-! ### Desk.__len__ -/
def b_Desk_len : Css :=
  (.cons (.ret (.blt .len (.cons (.fld ["Desk"] (.var 0) "line") .nil)))
    .nil)
def N_Desk_len : List Str := ["self"]
def g_Desk_len : FnS := runF ⟨[], [], 0⟩ b_Desk_len 1
/-! ### law -/
def s_law_1 : Cs := .set 1 (.call 0 (.cons (.var 0) .nil))
def s_law_2 : Cs := .par [2, 3, 4] (.cons (.call 1 (.cons (.var 1) .nil)) (.cons (.bin .add (.int 2) (.call 2 (.cons (.var 1) (.cons (.int 2) .nil)))) (.cons (.call 2 (.cons (.var 1) (.cons (.int 2) .nil))) .nil)))
def s_law_3 : Cs := .par [5, 6] (.cons (.make "Desk" 10 (.cons (.var 2) (.cons (.var 3) (.cons (.var 4) .nil)))) (.cons (.lst .nil) .nil))
def s_law_4 : Cs := .ite (.cmp .ne (.call 3 (.cons (.var 5) (.cons (.int 1) (.cons (.int 0) .nil)))) (.tup (.cons (.str "error") (.cons (.str "none") .nil)))) (.cons (.ret (.bool false))
    .nil) .nil
def s_law_5 : Cs := .set 7 (.tup (.cons (.str "stack") (.cons (.int 3) (.cons (.str "twice") (.cons (.str "refuse") (.cons (.str "up") (.cons (.str "stays") (.cons (.str "loose") .nil))))))))
def s_law_6 : Cs := .par [8, 9] (.cons (.make "Desk" 10 (.cons (.var 7) (.cons (.int 3) (.cons (.int 0) .nil)))) (.cons (.lst (.cons (.tup (.cons (.str "copy") (.cons (.int 2) .nil))) (.cons (.tup (.cons (.str "pin") .nil)) (.cons (.tup (.cons (.str "copy") (.cons (.int 0) .nil))) (.cons (.tup (.cons (.str "paste") .nil)) .nil))))) .nil))
def fb_law_7 : Css :=
  (.cons (.expr (.mcall "Desk" "do" 11 (.var 8) (.cons (.ix (.var 9) (.bin .mod (.var 10) (.int 4))) .nil)))
    (.cons (.set 11 (.call 4 (.cons (.var 2) (.cons (.var 3) (.cons (.var 6) .nil)))))
    (.cons (.ite (.or (.cons (.cmp .ne (.mcall "Desk" "state" 12 (.var 5) .nil) (.ix (.var 11) (.neg (.int 1)))) (.cons (.cmp .ne (.mcall "Desk" "done" 13 (.var 5) .nil) (.var 6)) (.cons (.cmp .ne (.lenc "Desk" 14 (.var 5)) (.blt .len (.cons (.var 6) .nil))) (.cons (.cmp .ne (.mcall "Desk" "view" 15 (.var 5) .nil) (.call 5 (.cons (.ix (.var 11) (.neg (.int 1))) (.cons (.var 4) .nil)))) .nil))))) (.cons (.ret (.bool false))
    .nil) .nil)
    (.cons (.ite (.cmp .eq (.call 2 (.cons (.var 1) (.cons (.int 5) .nil))) (.int 0)) (.cons (.ite (.cmp .ne (.call 3 (.cons (.var 5) (.cons (.int 1) (.cons (.int 0) .nil)))) (.ite (.cmp .ne (.var 6) (.lst .nil)) (.tup (.cons (.str "told") (.cons (.ix (.var 6) (.neg (.int 1))) .nil))) (.tup (.cons (.str "error") (.cons (.str "none") .nil))))) (.cons (.ret (.bool false))
    .nil) .nil)
    (.cons (.set 6 (.sl (.var 6) .no (.neg (.int 1))))
    .nil)) (.cons (.set 12 (.call 6 (.cons (.var 1) (.cons (.call 7 (.cons (.var 3) .nil)) .nil))))
    (.cons (.ite (.cmp .ne (.call 3 (.cons (.var 5) (.cons (.int 0) (.cons (.var 12) .nil)))) (.tup (.cons (.str "told") (.cons (.call 5 (.cons (.call 8 (.cons (.var 2) (.cons (.ix (.var 11) (.neg (.int 1))) (.cons (.var 12) .nil)))) (.cons (.var 4) .nil))) .nil)))) (.cons (.ret (.bool false))
    .nil) .nil)
    (.cons (.set 6 (.bin .add (.var 6) (.lst (.cons (.var 12) .nil))))
    .nil))))
    (.cons (.set 13 (.lst (.cons .none (.cons (.int 5) (.cons (.str "next") (.cons (.tup .nil) (.cons (.tup (.cons (.str "copy") .nil)) (.cons (.tup (.cons (.str "next") (.cons (.int 0) .nil))) (.cons (.tup (.cons (.str "copy") (.cons (.var 3) .nil))) (.cons (.tup (.cons (.str "copy") (.cons (.neg (.int 1)) .nil))) (.cons (.tup (.cons (.str "copy") (.cons (.bool true) .nil))) (.cons (.lst (.cons (.str "next") .nil)) (.cons (.tup (.cons (.str "Next") .nil)) (.cons (.tup (.cons (.int 0) .nil)) (.cons (.tup (.cons (.str "copy") (.cons (.int 0) (.cons (.int 0) .nil)))) (.cons (.tup (.cons (.str "paste") (.cons (.int 0) .nil))) .nil))))))))))))))))
    (.cons (.ite (.cmp .ne (.call 3 (.cons (.var 5) (.cons (.int 0) (.cons (.call 6 (.cons (.var 1) (.cons (.var 13) .nil))) .nil)))) (.tup (.cons (.str "error") (.cons (.str "deeds") .nil)))) (.cons (.ret (.bool false))
    .nil) .nil)
    .nil))))))
def s_law_7 : Cs := .for_ (.name 10) (.range1 (.int 16)) fb_law_7
def s_law_8 : Cs := .ite (.or (.cons (.cmp .ne (.mcall "Desk" "done" 13 (.var 8) .nil) (.bin .mul (.var 9) (.int 4))) (.cons (.cmp .ne (.mcall "Desk" "view" 15 (.var 8) .nil) (.ix (.call 9 (.cons (.var 7) (.cons (.int 3) (.cons (.int 0) (.cons (.bin .mul (.var 9) (.int 4)) .nil))))) (.neg (.int 1)))) .nil))) (.cons (.ret (.bool false))
    .nil) .nil
def s_law_9 : Cs := .while_ (.cmp .lt (.lenc "Desk" 14 (.var 8)) (.int 100)) (.cons (.expr (.mcall "Desk" "do" 11 (.var 8) (.cons (.tup (.cons (.str "empty") .nil)) .nil)))
    .nil)
def s_law_10 : Cs := .ite (.or (.cons (.cmp .ne (.call 3 (.cons (.var 8) (.cons (.int 0) (.cons (.tup (.cons (.str "empty") .nil)) .nil)))) (.tup (.cons (.str "error") (.cons (.str "number") .nil)))) (.cons (.cmp .ne (.call 3 (.cons (.var 8) (.cons (.int 0) (.cons (.tup (.cons (.str "empty") (.cons (.int 1) .nil))) .nil)))) (.tup (.cons (.str "error") (.cons (.str "deeds") .nil)))) (.cons (.cmp .ne (.lenc "Desk" 14 (.var 8)) (.int 100)) .nil)))) (.cons (.ret (.bool false))
    .nil) .nil
def s_law_11 : Cs := .ret (.and (.cons (.cmp .eq (.mcall "Desk" "undo" 16 (.var 8) .nil) (.tup (.cons (.str "empty") .nil))) (.cons (.cmp .eq (.mcall "Desk" "do" 11 (.var 8) (.cons (.tup (.cons (.str "paste") .nil)) .nil)) (.tup (.cons (.tup (.cons (.int 2) (.cons (.int 2) .nil))) (.cons (.int 2) .nil)))) (.cons (.cmp .eq (.lenc "Desk" 14 (.var 8)) (.int 100)) (.cons (.cmp .eq (.ix (.mcall "Desk" "done" 13 (.var 8) .nil) (.neg (.int 1))) (.tup (.cons (.str "paste") .nil))) .nil)))))
def b_law : Css := (.cons s_law_1 (.cons s_law_2 (.cons s_law_3 (.cons s_law_4 (.cons s_law_5 (.cons s_law_6 (.cons s_law_7 (.cons s_law_8 (.cons s_law_9 (.cons s_law_10 (.cons s_law_11 .nil)))))))))))
def N_law : List Str := ["_law_script", "_law_draws", "_law_way_here", "_law_size", "_law_sight", "_law_desk", "_law_line", "_law_other", "_law_side", "_law_turns", "_law_turn", "_law_states_here", "_law_deed", "_law_bad"]
def g_law : FnS := runF ⟨[g_law_start, g_law_way, g_law_draw, g_law_call, g_law_states, g_law_view, g_law_pick, g_law_deeds, g_law_step, g_views_of, g_Desk_init, g_Desk_do, g_Desk_state, g_Desk_done, g_Desk_len, g_Desk_view, g_Desk_undo], [], 100000000⟩ b_law 14
/-! ### the text -/
def T : Txt where
  gl := [c_KINDS, c_MOST_DONE, c_KINDS_OF, c_AGAINS, c_FULLS, c_TURNS, c_PINS, c_WIPES, c_MOST_ROW, c_START]
  ex := ["BadDeeds", "BadNumber", "NotFound", "BadWay"]
  fn := [mkD "_law_start" (top 45), mkD "_law_words" (top 49), mkD "_law_draw" (top 46), mkD "_law_pick" (top 47), mkD "_law_way" (top 52), mkD "_law_error" (top 48), mkD "is_int" (top 8), mkD "is_one" (top 15), mkD "check_deed" (top 16), mkD "copied" (top 21), mkD "dropped" (top 22), mkD "pasted" (top 23), mkD "changed" (top 24), mkD "step" (top 25), mkD "view_of" (top 26), mkD "_law_call" (top 58), mkD "_law_first" (top 55), mkD "_law_copy" (top 53), mkD "_law_step" (top 54), mkD "_law_states" (top 56), mkD "_law_view" (top 57), mkD "_law_kinds" (top 50), mkD "_law_deeds" (top 51), mkD "is_word" (top 34), mkD "is_way" (top 35), mkD "check_way" (top 36), mkD "check_number" (top 9), mkD "check_size" (top 14), mkD "check_sight" (top 10), mkD "are_deeds" (top 17), mkD "check_row" (top 18), mkD "states_of" (top 41), mkD "shown" (top 42), mkD "views_of" (top 43), mkD "law" (top 59)]
  cl := ["PasteError", "BadWay", "BadDeeds", "BadViews", "BadNumber", "BadText", "NotFound"]
  sub := ([("BadWay", "BadWay", true), ("BadDeeds", "BadWay", false), ("BadViews", "BadWay", false), ("BadNumber", "BadWay", false), ("BadText", "BadWay", false), ("NotFound", "BadWay", false), ("BadWay", "BadDeeds", false), ("BadDeeds", "BadDeeds", true), ("BadViews", "BadDeeds", false), ("BadNumber", "BadDeeds", false), ("BadText", "BadDeeds", false), ("NotFound", "BadDeeds", false), ("BadWay", "BadViews", false), ("BadDeeds", "BadViews", false), ("BadViews", "BadViews", true), ("BadNumber", "BadViews", false), ("BadText", "BadViews", false), ("NotFound", "BadViews", false), ("BadWay", "BadNumber", false), ("BadDeeds", "BadNumber", false), ("BadViews", "BadNumber", false), ("BadNumber", "BadNumber", true), ("BadText", "BadNumber", false), ("NotFound", "BadNumber", false), ("BadWay", "BadText", false), ("BadDeeds", "BadText", false), ("BadViews", "BadText", false), ("BadNumber", "BadText", false), ("BadText", "BadText", true), ("NotFound", "BadText", false)] : List (Str × Str × Bool)) ++ ([("BadWay", "NotFound", false), ("BadDeeds", "NotFound", false), ("BadViews", "NotFound", false), ("BadNumber", "NotFound", false), ("BadText", "NotFound", false), ("NotFound", "NotFound", true), ("BadWay", "PasteError", true), ("BadDeeds", "PasteError", true), ("BadViews", "PasteError", true), ("BadNumber", "PasteError", true), ("BadText", "PasteError", true), ("NotFound", "PasteError", true), ("BadWay", "ValueError", true), ("BadDeeds", "ValueError", true), ("BadViews", "ValueError", true), ("BadNumber", "ValueError", true), ("BadText", "ValueError", true), ("NotFound", "ValueError", true)] : List (Str × Str × Bool))
  exm := [("BadWay", "PasteError"), ("BadDeeds", "PasteError"), ("BadViews", "PasteError"), ("BadNumber", "PasteError"), ("BadText", "PasteError"), ("NotFound", "PasteError")]
  kl := ["Desk"]
  na := [("Desk", "way"), ("Desk", "size"), ("Desk", "sight"), ("Desk", "line"), ("Desk", "states")]
  mt := [mkM "Desk" "view" "Desk.view" (methOf (top 39) 3), mkM "Desk" "do" "Desk.do" (methOf (top 39) 2), mkM "Desk" "undo" "Desk.undo" (methOf (top 39) 6), mkM "Desk" "__init__" "Desk.__init__" (methOf (top 39) 0), mkM "Desk" "state" "Desk.state" (methOf (top 39) 4), mkM "Desk" "done" "Desk.done" (methOf (top 39) 5), mkM "Desk" "__len__" "Desk.__len__" (methOf (top 39) 1)]
  mkc := ["Desk"]
section
variable {P : Program} {w : World} {K : PySem.W.Frag} {mg : Str → Option Value} {base : Heap}
theorem sc_law_start : FnScope N_law_start ["_law_script"] (defScope (top 45)) := ⟨rfl, rfl, rfl, by decide +kernel, rfl, by decide +kernel, by decide +kernel⟩
theorem ck_law_start : chkSs ⟨N_law_start, defScope (top 45), fun _ => true, ([] : List (Str × PyData)).map (·.1), ([] : List (Str × Nat × FnS)).map (fun q => (q.1, q.2.1)), T.ex, T.cl, T.sub, T.exm, true, T.kl, T.na, ([] : List ((Str × Str) × Nat × FnS)).map (fun q => (q.1.1, q.1.2, q.2.1))⟩ b_law_start (defBody (top 45)) = true := by decide +kernel
theorem bd_law_start (kV doc pm : Value) (an : Option Addr) (cdv ct : Value) (us : List Value) (hl : us.length = (["_law_script"] : List Str).length) : bindArgs (PySem.W.fnOf "_law_start" "_law_start" (defArgs (top 45)) (defBody (top 45)) (defScope (top 45)) .none kV doc pm an cdv ct) ⟨us, []⟩ = pure ((["_law_script"] : List Str).zip us) := match us, hl with
  | [_], _ => rfl
theorem ok_law_start (t : TW T K mg) : FnT P w mg base ⟨K, He.ga K, w⟩ 1 "_law_start" 1 g_law_start := (fnT_at (gl := []) (fn := []) (ms := []) (fuel := 0) t 0 rfl sc_law_start bd_law_start (mem_nil_) (mem_nil_) (mem_nil_) ck_law_start)
theorem sc_law_words : FnScope N_law_words [] (defScope (top 49)) := ⟨rfl, rfl, rfl, by decide +kernel, rfl, by decide +kernel, by decide +kernel⟩
theorem ck_law_words : chkSs ⟨N_law_words, defScope (top 49), fun _ => true, ([] : List (Str × PyData)).map (·.1), ([] : List (Str × Nat × FnS)).map (fun q => (q.1, q.2.1)), T.ex, T.cl, T.sub, T.exm, true, T.kl, T.na, ([] : List ((Str × Str) × Nat × FnS)).map (fun q => (q.1.1, q.1.2, q.2.1))⟩ b_law_words (defBody (top 49)) = true := by decide +kernel
theorem bd_law_words (kV doc pm : Value) (an : Option Addr) (cdv ct : Value) (us : List Value) (hl : us.length = ([] : List Str).length) : bindArgs (PySem.W.fnOf "_law_words" "_law_words" (defArgs (top 49)) (defBody (top 49)) (defScope (top 49)) .none kV doc pm an cdv ct) ⟨us, []⟩ = pure (([] : List Str).zip us) := match us, hl with
  | [], _ => rfl
theorem ok_law_words (t : TW T K mg) : FnT P w mg base ⟨K, He.ga K, w⟩ 1 "_law_words" 0 g_law_words := (fnT_at (gl := []) (fn := []) (ms := []) (fuel := 0) t 1 rfl sc_law_words bd_law_words (mem_nil_) (mem_nil_) (mem_nil_) ck_law_words)
theorem sc_law_draw : FnScope N_law_draw ["_law_draws", "_law_limit"] (defScope (top 46)) := ⟨rfl, rfl, rfl, by decide +kernel, rfl, by decide +kernel, by decide +kernel⟩
theorem ck_law_draw : chkSs ⟨N_law_draw, defScope (top 46), fun _ => true, ([] : List (Str × PyData)).map (·.1), ([] : List (Str × Nat × FnS)).map (fun q => (q.1, q.2.1)), T.ex, T.cl, T.sub, T.exm, true, T.kl, T.na, ([] : List ((Str × Str) × Nat × FnS)).map (fun q => (q.1.1, q.1.2, q.2.1))⟩ b_law_draw (defBody (top 46)) = true := by decide +kernel
theorem bd_law_draw (kV doc pm : Value) (an : Option Addr) (cdv ct : Value) (us : List Value) (hl : us.length = (["_law_draws", "_law_limit"] : List Str).length) : bindArgs (PySem.W.fnOf "_law_draw" "_law_draw" (defArgs (top 46)) (defBody (top 46)) (defScope (top 46)) .none kV doc pm an cdv ct) ⟨us, []⟩ = pure ((["_law_draws", "_law_limit"] : List Str).zip us) := match us, hl with
  | [_, _], _ => rfl
theorem ok_law_draw (t : TW T K mg) : FnT P w mg base ⟨K, He.ga K, w⟩ 1 "_law_draw" 2 g_law_draw := (fnT_at (gl := []) (fn := []) (ms := []) (fuel := 0) t 2 rfl sc_law_draw bd_law_draw (mem_nil_) (mem_nil_) (mem_nil_) ck_law_draw)
theorem sc_law_pick : FnScope N_law_pick ["_law_draws", "_law_choices"] (defScope (top 47)) := ⟨rfl, rfl, rfl, by decide +kernel, rfl, by decide +kernel, by decide +kernel⟩
theorem ck_law_pick : chkSs ⟨N_law_pick, defScope (top 47), fun _ => true, ([] : List (Str × PyData)).map (·.1), ([("_law_draw", 2, g_law_draw)] : List (Str × Nat × FnS)).map (fun q => (q.1, q.2.1)), T.ex, T.cl, T.sub, T.exm, true, T.kl, T.na, ([] : List ((Str × Str) × Nat × FnS)).map (fun q => (q.1.1, q.1.2, q.2.1))⟩ b_law_pick (defBody (top 47)) = true := by decide +kernel
theorem bd_law_pick (kV doc pm : Value) (an : Option Addr) (cdv ct : Value) (us : List Value) (hl : us.length = (["_law_draws", "_law_choices"] : List Str).length) : bindArgs (PySem.W.fnOf "_law_pick" "_law_pick" (defArgs (top 47)) (defBody (top 47)) (defScope (top 47)) .none kV doc pm an cdv ct) ⟨us, []⟩ = pure ((["_law_draws", "_law_choices"] : List Str).zip us) := match us, hl with
  | [_, _], _ => rfl
theorem ok_law_pick (t : TW T K mg) : FnT P w mg base ⟨K, He.ga K, w⟩ 2 "_law_pick" 2 g_law_pick := (fnT_at (gl := []) (fn := [("_law_draw", 2, g_law_draw)]) (ms := []) (fuel := 0) t 3 rfl sc_law_pick bd_law_pick (mem_nil_) (mem_cons_ ((ok_law_draw t).mono (by decide)) (mem_nil_)) (mem_nil_) ck_law_pick)
theorem sc_law_way : FnScope N_law_way ["_law_draws"] (defScope (top 52)) := ⟨rfl, rfl, rfl, by decide +kernel, rfl, by decide +kernel, by decide +kernel⟩
theorem ck_law_way : chkSs ⟨N_law_way, defScope (top 52), fun _ => true, ([] : List (Str × PyData)).map (·.1), ([("_law_words", 0, g_law_words), ("_law_pick", 2, g_law_pick)] : List (Str × Nat × FnS)).map (fun q => (q.1, q.2.1)), T.ex, T.cl, T.sub, T.exm, true, T.kl, T.na, ([] : List ((Str × Str) × Nat × FnS)).map (fun q => (q.1.1, q.1.2, q.2.1))⟩ b_law_way (defBody (top 52)) = true := by decide +kernel
theorem bd_law_way (kV doc pm : Value) (an : Option Addr) (cdv ct : Value) (us : List Value) (hl : us.length = (["_law_draws"] : List Str).length) : bindArgs (PySem.W.fnOf "_law_way" "_law_way" (defArgs (top 52)) (defBody (top 52)) (defScope (top 52)) .none kV doc pm an cdv ct) ⟨us, []⟩ = pure ((["_law_draws"] : List Str).zip us) := match us, hl with
  | [_], _ => rfl
theorem ok_law_way (t : TW T K mg) : FnT P w mg base ⟨K, He.ga K, w⟩ 3 "_law_way" 1 g_law_way := (fnT_at (gl := []) (fn := [("_law_words", 0, g_law_words), ("_law_pick", 2, g_law_pick)]) (ms := []) (fuel := 0) t 4 rfl sc_law_way bd_law_way (mem_nil_) (mem_cons_ ((ok_law_words t).mono (by decide)) (mem_cons_ ((ok_law_pick t).mono (by decide)) (mem_nil_))) (mem_nil_) ck_law_way).cut
theorem sc_law_error : FnScope N_law_error ["_law_caught"] (defScope (top 48)) := ⟨rfl, rfl, rfl, by decide +kernel, rfl, by decide +kernel, by decide +kernel⟩
theorem ck_law_error : chkSs ⟨N_law_error, defScope (top 48), fun _ => true, ([] : List (Str × PyData)).map (·.1), ([] : List (Str × Nat × FnS)).map (fun q => (q.1, q.2.1)), T.ex, T.cl, T.sub, T.exm, true, T.kl, T.na, ([] : List ((Str × Str) × Nat × FnS)).map (fun q => (q.1.1, q.1.2, q.2.1))⟩ b_law_error (defBody (top 48)) = true := by decide +kernel
theorem bd_law_error (kV doc pm : Value) (an : Option Addr) (cdv ct : Value) (us : List Value) (hl : us.length = (["_law_caught"] : List Str).length) : bindArgs (PySem.W.fnOf "_law_error" "_law_error" (defArgs (top 48)) (defBody (top 48)) (defScope (top 48)) .none kV doc pm an cdv ct) ⟨us, []⟩ = pure ((["_law_caught"] : List Str).zip us) := match us, hl with
  | [_], _ => rfl
theorem ok_law_error (t : TW T K mg) : FnT P w mg base ⟨K, He.ga K, w⟩ 1 "_law_error" 1 g_law_error := (fnT_at (gl := []) (fn := []) (ms := []) (fuel := 0) t 5 rfl sc_law_error bd_law_error (mem_nil_) (mem_nil_) (mem_nil_) ck_law_error)
theorem sc_is_int : FnScope N_is_int ["value", "low", "high"] (defScope (top 8)) := ⟨rfl, rfl, rfl, by decide +kernel, rfl, by decide +kernel, by decide +kernel⟩
theorem ck_is_int : chkSs ⟨N_is_int, defScope (top 8), fun _ => true, ([] : List (Str × PyData)).map (·.1), ([] : List (Str × Nat × FnS)).map (fun q => (q.1, q.2.1)), T.ex, T.cl, T.sub, T.exm, true, T.kl, T.na, ([] : List ((Str × Str) × Nat × FnS)).map (fun q => (q.1.1, q.1.2, q.2.1))⟩ b_is_int (defBody (top 8)) = true := by decide +kernel
theorem bd_is_int (kV doc pm : Value) (an : Option Addr) (cdv ct : Value) (us : List Value) (hl : us.length = (["value", "low", "high"] : List Str).length) : bindArgs (PySem.W.fnOf "is_int" "is_int" (defArgs (top 8)) (defBody (top 8)) (defScope (top 8)) .none kV doc pm an cdv ct) ⟨us, []⟩ = pure ((["value", "low", "high"] : List Str).zip us) := match us, hl with
  | [_, _, _], _ => rfl
theorem ok_is_int (t : TW T K mg) : FnT P w mg base ⟨K, He.ga K, w⟩ 1 "is_int" 3 g_is_int := (fnT_at (gl := []) (fn := []) (ms := []) (fuel := 0) t 6 rfl sc_is_int bd_is_int (mem_nil_) (mem_nil_) (mem_nil_) ck_is_int)
theorem sc_is_one : FnScope N_is_one ["size", "value"] (defScope (top 15)) := ⟨rfl, rfl, rfl, by decide +kernel, rfl, by decide +kernel, by decide +kernel⟩
theorem ck_is_one : chkSs ⟨N_is_one, defScope (top 15), fun _ => true, ([c_KINDS] : List (Str × PyData)).map (·.1), ([("is_int", 3, g_is_int)] : List (Str × Nat × FnS)).map (fun q => (q.1, q.2.1)), T.ex, T.cl, T.sub, T.exm, true, T.kl, T.na, ([] : List ((Str × Str) × Nat × FnS)).map (fun q => (q.1.1, q.1.2, q.2.1))⟩ b_is_one (defBody (top 15)) = true := by decide +kernel
theorem bd_is_one (kV doc pm : Value) (an : Option Addr) (cdv ct : Value) (us : List Value) (hl : us.length = (["size", "value"] : List Str).length) : bindArgs (PySem.W.fnOf "is_one" "is_one" (defArgs (top 15)) (defBody (top 15)) (defScope (top 15)) .none kV doc pm an cdv ct) ⟨us, []⟩ = pure ((["size", "value"] : List Str).zip us) := match us, hl with
  | [_, _], _ => rfl
theorem ok_is_one (t : TW T K mg) : FnT P w mg base ⟨K, He.ga K, w⟩ 2 "is_one" 2 g_is_one := (fnT_at (gl := [c_KINDS]) (fn := [("is_int", 3, g_is_int)]) (ms := []) (fuel := 0) t 7 rfl sc_is_one bd_is_one (mem_cons_ (List.mem_of_getElem? (i := 0) rfl) (mem_nil_)) (mem_cons_ ((ok_is_int t).mono (by decide)) (mem_nil_)) (mem_nil_) ck_is_one)
theorem sc_check_deed : FnScope N_check_deed ["size", "value"] (defScope (top 16)) := ⟨rfl, rfl, rfl, by decide +kernel, rfl, by decide +kernel, by decide +kernel⟩
theorem ck_check_deed : chkSs ⟨N_check_deed, defScope (top 16), fun _ => true, ([] : List (Str × PyData)).map (·.1), ([("is_one", 2, g_is_one)] : List (Str × Nat × FnS)).map (fun q => (q.1, q.2.1)), T.ex, T.cl, T.sub, T.exm, true, T.kl, T.na, ([] : List ((Str × Str) × Nat × FnS)).map (fun q => (q.1.1, q.1.2, q.2.1))⟩ b_check_deed (defBody (top 16)) = true := by decide +kernel
theorem bd_check_deed (kV doc pm : Value) (an : Option Addr) (cdv ct : Value) (us : List Value) (hl : us.length = (["size", "value"] : List Str).length) : bindArgs (PySem.W.fnOf "check_deed" "check_deed" (defArgs (top 16)) (defBody (top 16)) (defScope (top 16)) .none kV doc pm an cdv ct) ⟨us, []⟩ = pure ((["size", "value"] : List Str).zip us) := match us, hl with
  | [_, _], _ => rfl
theorem ok_check_deed (t : TW T K mg) : FnT P w mg base ⟨K, He.ga K, w⟩ 3 "check_deed" 2 g_check_deed := (fnT_at (gl := []) (fn := [("is_one", 2, g_is_one)]) (ms := []) (fuel := 0) t 8 rfl sc_check_deed bd_check_deed (mem_nil_) (mem_cons_ ((ok_is_one t).mono (by decide)) (mem_nil_)) (mem_nil_) ck_check_deed)
theorem sc_copied : FnScope N_copied ["way", "pocket", "thing"] (defScope (top 21)) := ⟨rfl, rfl, rfl, by decide +kernel, rfl, by decide +kernel, by decide +kernel⟩
theorem ck_copied : chkSs ⟨N_copied, defScope (top 21), fun _ => true, ([] : List (Str × PyData)).map (·.1), ([] : List (Str × Nat × FnS)).map (fun q => (q.1, q.2.1)), T.ex, T.cl, T.sub, T.exm, true, T.kl, T.na, ([] : List ((Str × Str) × Nat × FnS)).map (fun q => (q.1.1, q.1.2, q.2.1))⟩ b_copied (defBody (top 21)) = true := by decide +kernel
theorem bd_copied (kV doc pm : Value) (an : Option Addr) (cdv ct : Value) (us : List Value) (hl : us.length = (["way", "pocket", "thing"] : List Str).length) : bindArgs (PySem.W.fnOf "copied" "copied" (defArgs (top 21)) (defBody (top 21)) (defScope (top 21)) .none kV doc pm an cdv ct) ⟨us, []⟩ = pure ((["way", "pocket", "thing"] : List Str).zip us) := match us, hl with
  | [_, _, _], _ => rfl
theorem ok_copied (t : TW T K mg) : FnT P w mg base ⟨K, He.ga K, w⟩ 1 "copied" 3 g_copied := (fnT_at (gl := []) (fn := []) (ms := []) (fuel := 0) t 9 rfl sc_copied bd_copied (mem_nil_) (mem_nil_) (mem_nil_) ck_copied)
theorem sc_dropped : FnScope N_dropped ["pocket"] (defScope (top 22)) := ⟨rfl, rfl, rfl, by decide +kernel, rfl, by decide +kernel, by decide +kernel⟩
theorem ck_dropped : chkSs ⟨N_dropped, defScope (top 22), fun _ => true, ([] : List (Str × PyData)).map (·.1), ([] : List (Str × Nat × FnS)).map (fun q => (q.1, q.2.1)), T.ex, T.cl, T.sub, T.exm, true, T.kl, T.na, ([] : List ((Str × Str) × Nat × FnS)).map (fun q => (q.1.1, q.1.2, q.2.1))⟩ b_dropped (defBody (top 22)) = true := by decide +kernel
theorem bd_dropped (kV doc pm : Value) (an : Option Addr) (cdv ct : Value) (us : List Value) (hl : us.length = (["pocket"] : List Str).length) : bindArgs (PySem.W.fnOf "dropped" "dropped" (defArgs (top 22)) (defBody (top 22)) (defScope (top 22)) .none kV doc pm an cdv ct) ⟨us, []⟩ = pure ((["pocket"] : List Str).zip us) := match us, hl with
  | [_], _ => rfl
theorem ok_dropped (t : TW T K mg) : FnT P w mg base ⟨K, He.ga K, w⟩ 1 "dropped" 1 g_dropped := (fnT_at (gl := []) (fn := []) (ms := []) (fuel := 0) t 10 rfl sc_dropped bd_dropped (mem_nil_) (mem_nil_) (mem_nil_) ck_dropped)
theorem sc_pasted : FnScope N_pasted ["way", "pocket"] (defScope (top 23)) := ⟨rfl, rfl, rfl, by decide +kernel, rfl, by decide +kernel, by decide +kernel⟩
theorem ck_pasted : chkSs ⟨N_pasted, defScope (top 23), fun _ => true, ([] : List (Str × PyData)).map (·.1), ([("dropped", 1, g_dropped)] : List (Str × Nat × FnS)).map (fun q => (q.1, q.2.1)), T.ex, T.cl, T.sub, T.exm, true, T.kl, T.na, ([] : List ((Str × Str) × Nat × FnS)).map (fun q => (q.1.1, q.1.2, q.2.1))⟩ b_pasted (defBody (top 23)) = true := by decide +kernel
theorem bd_pasted (kV doc pm : Value) (an : Option Addr) (cdv ct : Value) (us : List Value) (hl : us.length = (["way", "pocket"] : List Str).length) : bindArgs (PySem.W.fnOf "pasted" "pasted" (defArgs (top 23)) (defBody (top 23)) (defScope (top 23)) .none kV doc pm an cdv ct) ⟨us, []⟩ = pure ((["way", "pocket"] : List Str).zip us) := match us, hl with
  | [_, _], _ => rfl
theorem ok_pasted (t : TW T K mg) : FnT P w mg base ⟨K, He.ga K, w⟩ 2 "pasted" 2 g_pasted := (fnT_at (gl := []) (fn := [("dropped", 1, g_dropped)]) (ms := []) (fuel := 0) t 11 rfl sc_pasted bd_pasted (mem_nil_) (mem_cons_ ((ok_dropped t).mono (by decide)) (mem_nil_)) (mem_nil_) ck_pasted)
theorem sc_changed : FnScope N_changed ["way", "pocket", "kind"] (defScope (top 24)) := ⟨rfl, rfl, rfl, by decide +kernel, rfl, by decide +kernel, by decide +kernel⟩
theorem ck_changed : chkSs ⟨N_changed, defScope (top 24), fun _ => true, ([] : List (Str × PyData)).map (·.1), ([("dropped", 1, g_dropped)] : List (Str × Nat × FnS)).map (fun q => (q.1, q.2.1)), T.ex, T.cl, T.sub, T.exm, true, T.kl, T.na, ([] : List ((Str × Str) × Nat × FnS)).map (fun q => (q.1.1, q.1.2, q.2.1))⟩ b_changed (defBody (top 24)) = true := by decide +kernel
theorem bd_changed (kV doc pm : Value) (an : Option Addr) (cdv ct : Value) (us : List Value) (hl : us.length = (["way", "pocket", "kind"] : List Str).length) : bindArgs (PySem.W.fnOf "changed" "changed" (defArgs (top 24)) (defBody (top 24)) (defScope (top 24)) .none kV doc pm an cdv ct) ⟨us, []⟩ = pure ((["way", "pocket", "kind"] : List Str).zip us) := match us, hl with
  | [_, _, _], _ => rfl
theorem ok_changed (t : TW T K mg) : FnT P w mg base ⟨K, He.ga K, w⟩ 2 "changed" 3 g_changed := (fnT_at (gl := []) (fn := [("dropped", 1, g_dropped)]) (ms := []) (fuel := 0) t 12 rfl sc_changed bd_changed (mem_nil_) (mem_cons_ ((ok_dropped t).mono (by decide)) (mem_nil_)) (mem_nil_) ck_changed)
theorem sc_step : FnScope N_step ["way", "state", "deed"] (defScope (top 25)) := ⟨rfl, rfl, rfl, by decide +kernel, rfl, by decide +kernel, by decide +kernel⟩
theorem ck_step : chkSs ⟨N_step, defScope (top 25), fun _ => true, ([] : List (Str × PyData)).map (·.1), ([("copied", 3, g_copied), ("pasted", 2, g_pasted), ("changed", 3, g_changed)] : List (Str × Nat × FnS)).map (fun q => (q.1, q.2.1)), T.ex, T.cl, T.sub, T.exm, true, T.kl, T.na, ([] : List ((Str × Str) × Nat × FnS)).map (fun q => (q.1.1, q.1.2, q.2.1))⟩ b_step (defBody (top 25)) = true := by decide +kernel
theorem bd_step (kV doc pm : Value) (an : Option Addr) (cdv ct : Value) (us : List Value) (hl : us.length = (["way", "state", "deed"] : List Str).length) : bindArgs (PySem.W.fnOf "step" "step" (defArgs (top 25)) (defBody (top 25)) (defScope (top 25)) .none kV doc pm an cdv ct) ⟨us, []⟩ = pure ((["way", "state", "deed"] : List Str).zip us) := match us, hl with
  | [_, _, _], _ => rfl
theorem ok_step (t : TW T K mg) : FnT P w mg base ⟨K, He.ga K, w⟩ 3 "step" 3 g_step := (fnT_at (gl := []) (fn := [("copied", 3, g_copied), ("pasted", 2, g_pasted), ("changed", 3, g_changed)]) (ms := []) (fuel := 0) t 13 rfl sc_step bd_step (mem_nil_) (mem_cons_ ((ok_copied t).mono (by decide)) (mem_cons_ ((ok_pasted t).mono (by decide)) (mem_cons_ ((ok_changed t).mono (by decide)) (mem_nil_)))) (mem_nil_) ck_step)
theorem sc_view_of : FnScope N_view_of ["state", "sight"] (defScope (top 26)) := ⟨rfl, rfl, rfl, by decide +kernel, rfl, by decide +kernel, by decide +kernel⟩
theorem ck_view_of : chkSs ⟨N_view_of, defScope (top 26), fun _ => true, ([] : List (Str × PyData)).map (·.1), ([] : List (Str × Nat × FnS)).map (fun q => (q.1, q.2.1)), T.ex, T.cl, T.sub, T.exm, true, T.kl, T.na, ([] : List ((Str × Str) × Nat × FnS)).map (fun q => (q.1.1, q.1.2, q.2.1))⟩ b_view_of (defBody (top 26)) = true := by decide +kernel
theorem bd_view_of (kV doc pm : Value) (an : Option Addr) (cdv ct : Value) (us : List Value) (hl : us.length = (["state", "sight"] : List Str).length) : bindArgs (PySem.W.fnOf "view_of" "view_of" (defArgs (top 26)) (defBody (top 26)) (defScope (top 26)) .none kV doc pm an cdv ct) ⟨us, []⟩ = pure ((["state", "sight"] : List Str).zip us) := match us, hl with
  | [_, _], _ => rfl
theorem ok_view_of (t : TW T K mg) : FnT P w mg base ⟨K, He.ga K, w⟩ 1 "view_of" 2 g_view_of := (fnT_at (gl := []) (fn := []) (ms := []) (fuel := 0) t 14 rfl sc_view_of bd_view_of (mem_nil_) (mem_nil_) (mem_nil_) ck_view_of)
theorem sc_Desk_view : FnScope N_Desk_view ["self"] (defScope (methOf (top 39) 3)) := ⟨rfl, rfl, rfl, by decide +kernel, rfl, by decide +kernel, by decide +kernel⟩
theorem ck_Desk_view : chkSs ⟨N_Desk_view, defScope (methOf (top 39) 3), fun _ => true, ([] : List (Str × PyData)).map (·.1), ([("view_of", 2, g_view_of)] : List (Str × Nat × FnS)).map (fun q => (q.1, q.2.1)), T.ex, T.cl, T.sub, T.exm, true, T.kl, T.na, ([] : List ((Str × Str) × Nat × FnS)).map (fun q => (q.1.1, q.1.2, q.2.1))⟩ b_Desk_view (defBody (methOf (top 39) 3)) = true := by decide +kernel
theorem bd_Desk_view (kV doc pm : Value) (an : Option Addr) (cdv ct : Value) (us : List Value) (hl : us.length = (["self"] : List Str).length) : bindArgs (PySem.W.fnOf "view" "Desk.view" (defArgs (methOf (top 39) 3)) (defBody (methOf (top 39) 3)) (defScope (methOf (top 39) 3)) .none kV doc pm an cdv ct) ⟨us, []⟩ = pure ((["self"] : List Str).zip us) := match us, hl with
  | [_], _ => rfl
theorem ok_Desk_view (t : TW T K mg) : MethT P w mg base ⟨K, He.ga K, w⟩ 3 "Desk" "view" 1 g_Desk_view := (methT_at (gl := []) (fn := [("view_of", 2, g_view_of)]) (ms := []) (fuel := 0) t 0 rfl (by decide) (by decide) sc_Desk_view bd_Desk_view (mem_nil_) (mem_cons_ ((ok_view_of t).mono (by decide)) (mem_nil_)) (mem_nil_) ck_Desk_view)
theorem sc_Desk_do : FnScope N_Desk_do ["self", "deed"] (defScope (methOf (top 39) 2)) := ⟨rfl, rfl, rfl, by decide +kernel, rfl, by decide +kernel, by decide +kernel⟩
theorem ck_Desk_do : chkSs ⟨N_Desk_do, defScope (methOf (top 39) 2), fun _ => true, ([c_MOST_DONE] : List (Str × PyData)).map (·.1), ([("check_deed", 2, g_check_deed), ("step", 3, g_step)] : List (Str × Nat × FnS)).map (fun q => (q.1, q.2.1)), T.ex, T.cl, T.sub, T.exm, true, T.kl, T.na, ([(("Desk", "view"), 1, g_Desk_view)] : List ((Str × Str) × Nat × FnS)).map (fun q => (q.1.1, q.1.2, q.2.1))⟩ b_Desk_do (defBody (methOf (top 39) 2)) = true := by decide +kernel
theorem bd_Desk_do (kV doc pm : Value) (an : Option Addr) (cdv ct : Value) (us : List Value) (hl : us.length = (["self", "deed"] : List Str).length) : bindArgs (PySem.W.fnOf "do" "Desk.do" (defArgs (methOf (top 39) 2)) (defBody (methOf (top 39) 2)) (defScope (methOf (top 39) 2)) .none kV doc pm an cdv ct) ⟨us, []⟩ = pure ((["self", "deed"] : List Str).zip us) := match us, hl with
  | [_, _], _ => rfl
theorem ok_Desk_do (t : TW T K mg) : MethT P w mg base ⟨K, He.ga K, w⟩ 5 "Desk" "do" 2 g_Desk_do := (methT_at (gl := [c_MOST_DONE]) (fn := [("check_deed", 2, g_check_deed), ("step", 3, g_step)]) (ms := [(("Desk", "view"), 1, g_Desk_view)]) (fuel := 0) t 1 rfl (by decide) (by decide) sc_Desk_do bd_Desk_do (mem_cons_ (List.mem_of_getElem? (i := 1) rfl) (mem_nil_)) (mem_cons_ ((ok_check_deed t).mono (by decide)) (mem_cons_ ((ok_step t).mono (by decide)) (mem_nil_))) (mem_cons_ ((ok_Desk_view t).mono (by decide)) (mem_nil_)) ck_Desk_do)
theorem sc_Desk_undo : FnScope N_Desk_undo ["self"] (defScope (methOf (top 39) 6)) := ⟨rfl, rfl, rfl, by decide +kernel, rfl, by decide +kernel, by decide +kernel⟩
theorem ck_Desk_undo : chkSs ⟨N_Desk_undo, defScope (methOf (top 39) 6), fun _ => true, ([] : List (Str × PyData)).map (·.1), ([] : List (Str × Nat × FnS)).map (fun q => (q.1, q.2.1)), T.ex, T.cl, T.sub, T.exm, true, T.kl, T.na, ([] : List ((Str × Str) × Nat × FnS)).map (fun q => (q.1.1, q.1.2, q.2.1))⟩ b_Desk_undo (defBody (methOf (top 39) 6)) = true := by decide +kernel
theorem bd_Desk_undo (kV doc pm : Value) (an : Option Addr) (cdv ct : Value) (us : List Value) (hl : us.length = (["self"] : List Str).length) : bindArgs (PySem.W.fnOf "undo" "Desk.undo" (defArgs (methOf (top 39) 6)) (defBody (methOf (top 39) 6)) (defScope (methOf (top 39) 6)) .none kV doc pm an cdv ct) ⟨us, []⟩ = pure ((["self"] : List Str).zip us) := match us, hl with
  | [_], _ => rfl
theorem ok_Desk_undo (t : TW T K mg) : MethT P w mg base ⟨K, He.ga K, w⟩ 2 "Desk" "undo" 1 g_Desk_undo := (methT_at (gl := []) (fn := []) (ms := []) (fuel := 0) t 2 rfl (by decide) (by decide) sc_Desk_undo bd_Desk_undo (mem_nil_) (mem_nil_) (mem_nil_) ck_Desk_undo)
theorem sc_law_call : FnScope N_law_call ["_law_shown_here", "_law_kind", "_law_thing"] (defScope (top 58)) := ⟨rfl, rfl, rfl, by decide +kernel, rfl, by decide +kernel, by decide +kernel⟩
theorem ck_law_call : chkSs ⟨N_law_call, defScope (top 58), fun _ => true, ([] : List (Str × PyData)).map (·.1), ([("_law_error", 1, g_law_error)] : List (Str × Nat × FnS)).map (fun q => (q.1, q.2.1)), T.ex, T.cl, T.sub, T.exm, true, T.kl, T.na, ([(("Desk", "do"), 2, g_Desk_do), (("Desk", "undo"), 1, g_Desk_undo)] : List ((Str × Str) × Nat × FnS)).map (fun q => (q.1.1, q.1.2, q.2.1))⟩ b_law_call (defBody (top 58)) = true := by decide +kernel
theorem bd_law_call (kV doc pm : Value) (an : Option Addr) (cdv ct : Value) (us : List Value) (hl : us.length = (["_law_shown_here", "_law_kind", "_law_thing"] : List Str).length) : bindArgs (PySem.W.fnOf "_law_call" "_law_call" (defArgs (top 58)) (defBody (top 58)) (defScope (top 58)) .none kV doc pm an cdv ct) ⟨us, []⟩ = pure ((["_law_shown_here", "_law_kind", "_law_thing"] : List Str).zip us) := match us, hl with
  | [_, _, _], _ => rfl
theorem ok_law_call (t : TW T K mg) : FnT P w mg base ⟨K, He.ga K, w⟩ 6 "_law_call" 3 g_law_call := (fnT_at (gl := []) (fn := [("_law_error", 1, g_law_error)]) (ms := [(("Desk", "do"), 2, g_Desk_do), (("Desk", "undo"), 1, g_Desk_undo)]) (fuel := 0) t 15 rfl sc_law_call bd_law_call (mem_nil_) (mem_cons_ ((ok_law_error t).mono (by decide)) (mem_nil_)) (mem_cons_ ((ok_Desk_do t).mono (by decide)) (mem_cons_ ((ok_Desk_undo t).mono (by decide)) (mem_nil_))) ck_law_call)
theorem sc_law_first : FnScope N_law_first ["_law_size"] (defScope (top 55)) := ⟨rfl, rfl, rfl, by decide +kernel, rfl, by decide +kernel, by decide +kernel⟩
theorem ck_law_first : chkSs ⟨N_law_first, defScope (top 55), fun _ => true, ([] : List (Str × PyData)).map (·.1), ([] : List (Str × Nat × FnS)).map (fun q => (q.1, q.2.1)), T.ex, T.cl, T.sub, T.exm, true, T.kl, T.na, ([] : List ((Str × Str) × Nat × FnS)).map (fun q => (q.1.1, q.1.2, q.2.1))⟩ b_law_first (defBody (top 55)) = true := by decide +kernel
theorem bd_law_first (kV doc pm : Value) (an : Option Addr) (cdv ct : Value) (us : List Value) (hl : us.length = (["_law_size"] : List Str).length) : bindArgs (PySem.W.fnOf "_law_first" "_law_first" (defArgs (top 55)) (defBody (top 55)) (defScope (top 55)) .none kV doc pm an cdv ct) ⟨us, []⟩ = pure ((["_law_size"] : List Str).zip us) := match us, hl with
  | [_], _ => rfl
theorem ok_law_first (t : TW T K mg) : FnT P w mg base ⟨K, He.ga K, w⟩ 1 "_law_first" 1 g_law_first := (fnT_at (gl := []) (fn := []) (ms := []) (fuel := 0) t 16 rfl sc_law_first bd_law_first (mem_nil_) (mem_nil_) (mem_nil_) ck_law_first)
theorem sc_law_copy : FnScope N_law_copy ["_law_way_here", "_law_pocket", "_law_thing"] (defScope (top 53)) := ⟨rfl, rfl, rfl, by decide +kernel, rfl, by decide +kernel, by decide +kernel⟩
theorem ck_law_copy : chkSs ⟨N_law_copy, defScope (top 53), fun _ => true, ([] : List (Str × PyData)).map (·.1), ([] : List (Str × Nat × FnS)).map (fun q => (q.1, q.2.1)), T.ex, T.cl, T.sub, T.exm, true, T.kl, T.na, ([] : List ((Str × Str) × Nat × FnS)).map (fun q => (q.1.1, q.1.2, q.2.1))⟩ b_law_copy (defBody (top 53)) = true := by decide +kernel
theorem bd_law_copy (kV doc pm : Value) (an : Option Addr) (cdv ct : Value) (us : List Value) (hl : us.length = (["_law_way_here", "_law_pocket", "_law_thing"] : List Str).length) : bindArgs (PySem.W.fnOf "_law_copy" "_law_copy" (defArgs (top 53)) (defBody (top 53)) (defScope (top 53)) .none kV doc pm an cdv ct) ⟨us, []⟩ = pure ((["_law_way_here", "_law_pocket", "_law_thing"] : List Str).zip us) := match us, hl with
  | [_, _, _], _ => rfl
theorem ok_law_copy (t : TW T K mg) : FnT P w mg base ⟨K, He.ga K, w⟩ 1 "_law_copy" 3 g_law_copy := (fnT_at (gl := []) (fn := []) (ms := []) (fuel := 0) t 17 rfl sc_law_copy bd_law_copy (mem_nil_) (mem_nil_) (mem_nil_) ck_law_copy)
theorem sc_law_step : FnScope N_law_step ["_law_way_here", "_law_state", "_law_deed"] (defScope (top 54)) := ⟨rfl, rfl, rfl, by decide +kernel, rfl, by decide +kernel, by decide +kernel⟩
theorem ck_law_step : chkSs ⟨N_law_step, defScope (top 54), fun _ => true, ([] : List (Str × PyData)).map (·.1), ([("_law_copy", 3, g_law_copy)] : List (Str × Nat × FnS)).map (fun q => (q.1, q.2.1)), T.ex, T.cl, T.sub, T.exm, true, T.kl, T.na, ([] : List ((Str × Str) × Nat × FnS)).map (fun q => (q.1.1, q.1.2, q.2.1))⟩ b_law_step (defBody (top 54)) = true := by decide +kernel
theorem bd_law_step (kV doc pm : Value) (an : Option Addr) (cdv ct : Value) (us : List Value) (hl : us.length = (["_law_way_here", "_law_state", "_law_deed"] : List Str).length) : bindArgs (PySem.W.fnOf "_law_step" "_law_step" (defArgs (top 54)) (defBody (top 54)) (defScope (top 54)) .none kV doc pm an cdv ct) ⟨us, []⟩ = pure ((["_law_way_here", "_law_state", "_law_deed"] : List Str).zip us) := match us, hl with
  | [_, _, _], _ => rfl
theorem ok_law_step (t : TW T K mg) : FnT P w mg base ⟨K, He.ga K, w⟩ 2 "_law_step" 3 g_law_step := (fnT_at (gl := []) (fn := [("_law_copy", 3, g_law_copy)]) (ms := []) (fuel := 0) t 18 rfl sc_law_step bd_law_step (mem_nil_) (mem_cons_ ((ok_law_copy t).mono (by decide)) (mem_nil_)) (mem_nil_) ck_law_step)
theorem sc_law_states : FnScope N_law_states ["_law_way_here", "_law_size", "_law_row"] (defScope (top 56)) := ⟨rfl, rfl, rfl, by decide +kernel, rfl, by decide +kernel, by decide +kernel⟩
theorem ck_law_states : chkSs ⟨N_law_states, defScope (top 56), fun _ => true, ([] : List (Str × PyData)).map (·.1), ([("_law_first", 1, g_law_first), ("_law_step", 3, g_law_step)] : List (Str × Nat × FnS)).map (fun q => (q.1, q.2.1)), T.ex, T.cl, T.sub, T.exm, true, T.kl, T.na, ([] : List ((Str × Str) × Nat × FnS)).map (fun q => (q.1.1, q.1.2, q.2.1))⟩ b_law_states (defBody (top 56)) = true := by decide +kernel
theorem bd_law_states (kV doc pm : Value) (an : Option Addr) (cdv ct : Value) (us : List Value) (hl : us.length = (["_law_way_here", "_law_size", "_law_row"] : List Str).length) : bindArgs (PySem.W.fnOf "_law_states" "_law_states" (defArgs (top 56)) (defBody (top 56)) (defScope (top 56)) .none kV doc pm an cdv ct) ⟨us, []⟩ = pure ((["_law_way_here", "_law_size", "_law_row"] : List Str).zip us) := match us, hl with
  | [_, _, _], _ => rfl
theorem ok_law_states (t : TW T K mg) : FnT P w mg base ⟨K, He.ga K, w⟩ 3 "_law_states" 3 g_law_states := (fnT_at (gl := []) (fn := [("_law_first", 1, g_law_first), ("_law_step", 3, g_law_step)]) (ms := []) (fuel := 0) t 19 rfl sc_law_states bd_law_states (mem_nil_) (mem_cons_ ((ok_law_first t).mono (by decide)) (mem_cons_ ((ok_law_step t).mono (by decide)) (mem_nil_))) (mem_nil_) ck_law_states).pure
theorem sc_law_view : FnScope N_law_view ["_law_state", "_law_sight"] (defScope (top 57)) := ⟨rfl, rfl, rfl, by decide +kernel, rfl, by decide +kernel, by decide +kernel⟩
theorem ck_law_view : chkSs ⟨N_law_view, defScope (top 57), fun _ => true, ([] : List (Str × PyData)).map (·.1), ([] : List (Str × Nat × FnS)).map (fun q => (q.1, q.2.1)), T.ex, T.cl, T.sub, T.exm, true, T.kl, T.na, ([] : List ((Str × Str) × Nat × FnS)).map (fun q => (q.1.1, q.1.2, q.2.1))⟩ b_law_view (defBody (top 57)) = true := by decide +kernel
theorem bd_law_view (kV doc pm : Value) (an : Option Addr) (cdv ct : Value) (us : List Value) (hl : us.length = (["_law_state", "_law_sight"] : List Str).length) : bindArgs (PySem.W.fnOf "_law_view" "_law_view" (defArgs (top 57)) (defBody (top 57)) (defScope (top 57)) .none kV doc pm an cdv ct) ⟨us, []⟩ = pure ((["_law_state", "_law_sight"] : List Str).zip us) := match us, hl with
  | [_, _], _ => rfl
theorem ok_law_view (t : TW T K mg) : FnT P w mg base ⟨K, He.ga K, w⟩ 1 "_law_view" 2 g_law_view := (fnT_at (gl := []) (fn := []) (ms := []) (fuel := 0) t 20 rfl sc_law_view bd_law_view (mem_nil_) (mem_nil_) (mem_nil_) ck_law_view)
theorem sc_law_kinds : FnScope N_law_kinds [] (defScope (top 50)) := ⟨rfl, rfl, rfl, by decide +kernel, rfl, by decide +kernel, by decide +kernel⟩
theorem ck_law_kinds : chkSs ⟨N_law_kinds, defScope (top 50), fun _ => true, ([] : List (Str × PyData)).map (·.1), ([] : List (Str × Nat × FnS)).map (fun q => (q.1, q.2.1)), T.ex, T.cl, T.sub, T.exm, true, T.kl, T.na, ([] : List ((Str × Str) × Nat × FnS)).map (fun q => (q.1.1, q.1.2, q.2.1))⟩ b_law_kinds (defBody (top 50)) = true := by decide +kernel
theorem bd_law_kinds (kV doc pm : Value) (an : Option Addr) (cdv ct : Value) (us : List Value) (hl : us.length = ([] : List Str).length) : bindArgs (PySem.W.fnOf "_law_kinds" "_law_kinds" (defArgs (top 50)) (defBody (top 50)) (defScope (top 50)) .none kV doc pm an cdv ct) ⟨us, []⟩ = pure (([] : List Str).zip us) := match us, hl with
  | [], _ => rfl
theorem ok_law_kinds (t : TW T K mg) : FnT P w mg base ⟨K, He.ga K, w⟩ 1 "_law_kinds" 0 g_law_kinds := (fnT_at (gl := []) (fn := []) (ms := []) (fuel := 0) t 21 rfl sc_law_kinds bd_law_kinds (mem_nil_) (mem_nil_) (mem_nil_) ck_law_kinds)
theorem sc_law_deeds : FnScope N_law_deeds ["_law_size"] (defScope (top 51)) := ⟨rfl, rfl, rfl, by decide +kernel, rfl, by decide +kernel, by decide +kernel⟩
theorem ck_law_deeds : chkSs ⟨N_law_deeds, defScope (top 51), fun _ => true, ([] : List (Str × PyData)).map (·.1), ([("_law_kinds", 0, g_law_kinds)] : List (Str × Nat × FnS)).map (fun q => (q.1, q.2.1)), T.ex, T.cl, T.sub, T.exm, true, T.kl, T.na, ([] : List ((Str × Str) × Nat × FnS)).map (fun q => (q.1.1, q.1.2, q.2.1))⟩ b_law_deeds (defBody (top 51)) = true := by decide +kernel
theorem bd_law_deeds (kV doc pm : Value) (an : Option Addr) (cdv ct : Value) (us : List Value) (hl : us.length = (["_law_size"] : List Str).length) : bindArgs (PySem.W.fnOf "_law_deeds" "_law_deeds" (defArgs (top 51)) (defBody (top 51)) (defScope (top 51)) .none kV doc pm an cdv ct) ⟨us, []⟩ = pure ((["_law_size"] : List Str).zip us) := match us, hl with
  | [_], _ => rfl
theorem ok_law_deeds (t : TW T K mg) : FnT P w mg base ⟨K, He.ga K, w⟩ 2 "_law_deeds" 1 g_law_deeds := (fnT_at (gl := []) (fn := [("_law_kinds", 0, g_law_kinds)]) (ms := []) (fuel := 0) t 22 rfl sc_law_deeds bd_law_deeds (mem_nil_) (mem_cons_ ((ok_law_kinds t).mono (by decide)) (mem_nil_)) (mem_nil_) ck_law_deeds)
theorem sc_is_word : FnScope N_is_word ["value", "words"] (defScope (top 34)) := ⟨rfl, rfl, rfl, by decide +kernel, rfl, by decide +kernel, by decide +kernel⟩
theorem ck_is_word : chkSs ⟨N_is_word, defScope (top 34), fun _ => true, ([] : List (Str × PyData)).map (·.1), ([] : List (Str × Nat × FnS)).map (fun q => (q.1, q.2.1)), T.ex, T.cl, T.sub, T.exm, true, T.kl, T.na, ([] : List ((Str × Str) × Nat × FnS)).map (fun q => (q.1.1, q.1.2, q.2.1))⟩ b_is_word (defBody (top 34)) = true := by decide +kernel
theorem bd_is_word (kV doc pm : Value) (an : Option Addr) (cdv ct : Value) (us : List Value) (hl : us.length = (["value", "words"] : List Str).length) : bindArgs (PySem.W.fnOf "is_word" "is_word" (defArgs (top 34)) (defBody (top 34)) (defScope (top 34)) .none kV doc pm an cdv ct) ⟨us, []⟩ = pure ((["value", "words"] : List Str).zip us) := match us, hl with
  | [_, _], _ => rfl
theorem ok_is_word (t : TW T K mg) : FnT P w mg base ⟨K, He.ga K, w⟩ 1 "is_word" 2 g_is_word := (fnT_at (gl := []) (fn := []) (ms := []) (fuel := 0) t 23 rfl sc_is_word bd_is_word (mem_nil_) (mem_nil_) (mem_nil_) ck_is_word)
theorem sc_is_way : FnScope N_is_way ["value"] (defScope (top 35)) := ⟨rfl, rfl, rfl, by decide +kernel, rfl, by decide +kernel, by decide +kernel⟩
theorem ck_is_way : chkSs ⟨N_is_way, defScope (top 35), fun _ => true, ([c_KINDS_OF, c_AGAINS, c_FULLS, c_TURNS, c_PINS, c_WIPES] : List (Str × PyData)).map (·.1), ([("is_word", 2, g_is_word), ("is_int", 3, g_is_int)] : List (Str × Nat × FnS)).map (fun q => (q.1, q.2.1)), T.ex, T.cl, T.sub, T.exm, true, T.kl, T.na, ([] : List ((Str × Str) × Nat × FnS)).map (fun q => (q.1.1, q.1.2, q.2.1))⟩ b_is_way (defBody (top 35)) = true := by decide +kernel
theorem bd_is_way (kV doc pm : Value) (an : Option Addr) (cdv ct : Value) (us : List Value) (hl : us.length = (["value"] : List Str).length) : bindArgs (PySem.W.fnOf "is_way" "is_way" (defArgs (top 35)) (defBody (top 35)) (defScope (top 35)) .none kV doc pm an cdv ct) ⟨us, []⟩ = pure ((["value"] : List Str).zip us) := match us, hl with
  | [_], _ => rfl
theorem ok_is_way (t : TW T K mg) : FnT P w mg base ⟨K, He.ga K, w⟩ 2 "is_way" 1 g_is_way := (fnT_at (gl := [c_KINDS_OF, c_AGAINS, c_FULLS, c_TURNS, c_PINS, c_WIPES]) (fn := [("is_word", 2, g_is_word), ("is_int", 3, g_is_int)]) (ms := []) (fuel := 0) t 24 rfl sc_is_way bd_is_way (mem_cons_ (List.mem_of_getElem? (i := 2) rfl) (mem_cons_ (List.mem_of_getElem? (i := 3) rfl) (mem_cons_ (List.mem_of_getElem? (i := 4) rfl) (mem_cons_ (List.mem_of_getElem? (i := 5) rfl) (mem_cons_ (List.mem_of_getElem? (i := 6) rfl) (mem_cons_ (List.mem_of_getElem? (i := 7) rfl) (mem_nil_))))))) (mem_cons_ ((ok_is_word t).mono (by decide)) (mem_cons_ ((ok_is_int t).mono (by decide)) (mem_nil_))) (mem_nil_) ck_is_way)
theorem sc_check_way : FnScope N_check_way ["value"] (defScope (top 36)) := ⟨rfl, rfl, rfl, by decide +kernel, rfl, by decide +kernel, by decide +kernel⟩
theorem ck_check_way : chkSs ⟨N_check_way, defScope (top 36), fun _ => true, ([] : List (Str × PyData)).map (·.1), ([("is_way", 1, g_is_way)] : List (Str × Nat × FnS)).map (fun q => (q.1, q.2.1)), T.ex, T.cl, T.sub, T.exm, true, T.kl, T.na, ([] : List ((Str × Str) × Nat × FnS)).map (fun q => (q.1.1, q.1.2, q.2.1))⟩ b_check_way (defBody (top 36)) = true := by decide +kernel
theorem bd_check_way (kV doc pm : Value) (an : Option Addr) (cdv ct : Value) (us : List Value) (hl : us.length = (["value"] : List Str).length) : bindArgs (PySem.W.fnOf "check_way" "check_way" (defArgs (top 36)) (defBody (top 36)) (defScope (top 36)) .none kV doc pm an cdv ct) ⟨us, []⟩ = pure ((["value"] : List Str).zip us) := match us, hl with
  | [_], _ => rfl
theorem ok_check_way (t : TW T K mg) : FnT P w mg base ⟨K, He.ga K, w⟩ 3 "check_way" 1 g_check_way := (fnT_at (gl := []) (fn := [("is_way", 1, g_is_way)]) (ms := []) (fuel := 0) t 25 rfl sc_check_way bd_check_way (mem_nil_) (mem_cons_ ((ok_is_way t).mono (by decide)) (mem_nil_)) (mem_nil_) ck_check_way)
theorem sc_check_number : FnScope N_check_number ["value", "low", "high"] (defScope (top 9)) := ⟨rfl, rfl, rfl, by decide +kernel, rfl, by decide +kernel, by decide +kernel⟩
theorem ck_check_number : chkSs ⟨N_check_number, defScope (top 9), fun _ => true, ([] : List (Str × PyData)).map (·.1), ([("is_int", 3, g_is_int)] : List (Str × Nat × FnS)).map (fun q => (q.1, q.2.1)), T.ex, T.cl, T.sub, T.exm, true, T.kl, T.na, ([] : List ((Str × Str) × Nat × FnS)).map (fun q => (q.1.1, q.1.2, q.2.1))⟩ b_check_number (defBody (top 9)) = true := by decide +kernel
theorem bd_check_number (kV doc pm : Value) (an : Option Addr) (cdv ct : Value) (us : List Value) (hl : us.length = (["value", "low", "high"] : List Str).length) : bindArgs (PySem.W.fnOf "check_number" "check_number" (defArgs (top 9)) (defBody (top 9)) (defScope (top 9)) .none kV doc pm an cdv ct) ⟨us, []⟩ = pure ((["value", "low", "high"] : List Str).zip us) := match us, hl with
  | [_, _, _], _ => rfl
theorem ok_check_number (t : TW T K mg) : FnT P w mg base ⟨K, He.ga K, w⟩ 2 "check_number" 3 g_check_number := (fnT_at (gl := []) (fn := [("is_int", 3, g_is_int)]) (ms := []) (fuel := 0) t 26 rfl sc_check_number bd_check_number (mem_nil_) (mem_cons_ ((ok_is_int t).mono (by decide)) (mem_nil_)) (mem_nil_) ck_check_number)
theorem sc_check_size : FnScope N_check_size ["value"] (defScope (top 14)) := ⟨rfl, rfl, rfl, by decide +kernel, rfl, by decide +kernel, by decide +kernel⟩
theorem ck_check_size : chkSs ⟨N_check_size, defScope (top 14), fun _ => true, ([] : List (Str × PyData)).map (·.1), ([("check_number", 3, g_check_number)] : List (Str × Nat × FnS)).map (fun q => (q.1, q.2.1)), T.ex, T.cl, T.sub, T.exm, true, T.kl, T.na, ([] : List ((Str × Str) × Nat × FnS)).map (fun q => (q.1.1, q.1.2, q.2.1))⟩ b_check_size (defBody (top 14)) = true := by decide +kernel
theorem bd_check_size (kV doc pm : Value) (an : Option Addr) (cdv ct : Value) (us : List Value) (hl : us.length = (["value"] : List Str).length) : bindArgs (PySem.W.fnOf "check_size" "check_size" (defArgs (top 14)) (defBody (top 14)) (defScope (top 14)) .none kV doc pm an cdv ct) ⟨us, []⟩ = pure ((["value"] : List Str).zip us) := match us, hl with
  | [_], _ => rfl
theorem ok_check_size (t : TW T K mg) : FnT P w mg base ⟨K, He.ga K, w⟩ 3 "check_size" 1 g_check_size := (fnT_at (gl := []) (fn := [("check_number", 3, g_check_number)]) (ms := []) (fuel := 0) t 27 rfl sc_check_size bd_check_size (mem_nil_) (mem_cons_ ((ok_check_number t).mono (by decide)) (mem_nil_)) (mem_nil_) ck_check_size)
theorem sc_check_sight : FnScope N_check_sight ["value"] (defScope (top 10)) := ⟨rfl, rfl, rfl, by decide +kernel, rfl, by decide +kernel, by decide +kernel⟩
theorem ck_check_sight : chkSs ⟨N_check_sight, defScope (top 10), fun _ => true, ([] : List (Str × PyData)).map (·.1), ([("check_number", 3, g_check_number)] : List (Str × Nat × FnS)).map (fun q => (q.1, q.2.1)), T.ex, T.cl, T.sub, T.exm, true, T.kl, T.na, ([] : List ((Str × Str) × Nat × FnS)).map (fun q => (q.1.1, q.1.2, q.2.1))⟩ b_check_sight (defBody (top 10)) = true := by decide +kernel
theorem bd_check_sight (kV doc pm : Value) (an : Option Addr) (cdv ct : Value) (us : List Value) (hl : us.length = (["value"] : List Str).length) : bindArgs (PySem.W.fnOf "check_sight" "check_sight" (defArgs (top 10)) (defBody (top 10)) (defScope (top 10)) .none kV doc pm an cdv ct) ⟨us, []⟩ = pure ((["value"] : List Str).zip us) := match us, hl with
  | [_], _ => rfl
theorem ok_check_sight (t : TW T K mg) : FnT P w mg base ⟨K, He.ga K, w⟩ 3 "check_sight" 1 g_check_sight := (fnT_at (gl := []) (fn := [("check_number", 3, g_check_number)]) (ms := []) (fuel := 0) t 28 rfl sc_check_sight bd_check_sight (mem_nil_) (mem_cons_ ((ok_check_number t).mono (by decide)) (mem_nil_)) (mem_nil_) ck_check_sight)
theorem sc_are_deeds : FnScope N_are_deeds ["size", "value"] (defScope (top 17)) := ⟨rfl, rfl, rfl, by decide +kernel, rfl, by decide +kernel, by decide +kernel⟩
theorem ck_are_deeds : chkSs ⟨N_are_deeds, defScope (top 17), fun _ => true, ([c_MOST_ROW] : List (Str × PyData)).map (·.1), ([("is_one", 2, g_is_one)] : List (Str × Nat × FnS)).map (fun q => (q.1, q.2.1)), T.ex, T.cl, T.sub, T.exm, true, T.kl, T.na, ([] : List ((Str × Str) × Nat × FnS)).map (fun q => (q.1.1, q.1.2, q.2.1))⟩ b_are_deeds (defBody (top 17)) = true := by decide +kernel
theorem bd_are_deeds (kV doc pm : Value) (an : Option Addr) (cdv ct : Value) (us : List Value) (hl : us.length = (["size", "value"] : List Str).length) : bindArgs (PySem.W.fnOf "are_deeds" "are_deeds" (defArgs (top 17)) (defBody (top 17)) (defScope (top 17)) .none kV doc pm an cdv ct) ⟨us, []⟩ = pure ((["size", "value"] : List Str).zip us) := match us, hl with
  | [_, _], _ => rfl
theorem ok_are_deeds (t : TW T K mg) : FnT P w mg base ⟨K, He.ga K, w⟩ 3 "are_deeds" 2 g_are_deeds := (fnT_at (gl := [c_MOST_ROW]) (fn := [("is_one", 2, g_is_one)]) (ms := []) (fuel := 0) t 29 rfl sc_are_deeds bd_are_deeds (mem_cons_ (List.mem_of_getElem? (i := 8) rfl) (mem_nil_)) (mem_cons_ ((ok_is_one t).mono (by decide)) (mem_nil_)) (mem_nil_) ck_are_deeds)
theorem sc_check_row : FnScope N_check_row ["size", "value"] (defScope (top 18)) := ⟨rfl, rfl, rfl, by decide +kernel, rfl, by decide +kernel, by decide +kernel⟩
theorem ck_check_row : chkSs ⟨N_check_row, defScope (top 18), fun _ => true, ([] : List (Str × PyData)).map (·.1), ([("are_deeds", 2, g_are_deeds)] : List (Str × Nat × FnS)).map (fun q => (q.1, q.2.1)), T.ex, T.cl, T.sub, T.exm, true, T.kl, T.na, ([] : List ((Str × Str) × Nat × FnS)).map (fun q => (q.1.1, q.1.2, q.2.1))⟩ b_check_row (defBody (top 18)) = true := by decide +kernel
theorem bd_check_row (kV doc pm : Value) (an : Option Addr) (cdv ct : Value) (us : List Value) (hl : us.length = (["size", "value"] : List Str).length) : bindArgs (PySem.W.fnOf "check_row" "check_row" (defArgs (top 18)) (defBody (top 18)) (defScope (top 18)) .none kV doc pm an cdv ct) ⟨us, []⟩ = pure ((["size", "value"] : List Str).zip us) := match us, hl with
  | [_, _], _ => rfl
theorem ok_check_row (t : TW T K mg) : FnT P w mg base ⟨K, He.ga K, w⟩ 4 "check_row" 2 g_check_row := (fnT_at (gl := []) (fn := [("are_deeds", 2, g_are_deeds)]) (ms := []) (fuel := 0) t 30 rfl sc_check_row bd_check_row (mem_nil_) (mem_cons_ ((ok_are_deeds t).mono (by decide)) (mem_nil_)) (mem_nil_) ck_check_row)
theorem sc_states_of : FnScope N_states_of ["way", "size", "row"] (defScope (top 41)) := ⟨rfl, rfl, rfl, by decide +kernel, rfl, by decide +kernel, by decide +kernel⟩
theorem ck_states_of : chkSs ⟨N_states_of, defScope (top 41), fun _ => true, ([c_START] : List (Str × PyData)).map (·.1), ([("step", 3, g_step)] : List (Str × Nat × FnS)).map (fun q => (q.1, q.2.1)), T.ex, T.cl, T.sub, T.exm, true, T.kl, T.na, ([] : List ((Str × Str) × Nat × FnS)).map (fun q => (q.1.1, q.1.2, q.2.1))⟩ b_states_of (defBody (top 41)) = true := by decide +kernel
theorem bd_states_of (kV doc pm : Value) (an : Option Addr) (cdv ct : Value) (us : List Value) (hl : us.length = (["way", "size", "row"] : List Str).length) : bindArgs (PySem.W.fnOf "states_of" "states_of" (defArgs (top 41)) (defBody (top 41)) (defScope (top 41)) .none kV doc pm an cdv ct) ⟨us, []⟩ = pure ((["way", "size", "row"] : List Str).zip us) := match us, hl with
  | [_, _, _], _ => rfl
theorem ok_states_of (t : TW T K mg) : FnT P w mg base ⟨K, He.ga K, w⟩ 4 "states_of" 3 g_states_of := (fnT_at (gl := [c_START]) (fn := [("step", 3, g_step)]) (ms := []) (fuel := 0) t 31 rfl sc_states_of bd_states_of (mem_cons_ (List.mem_of_getElem? (i := 9) rfl) (mem_nil_)) (mem_cons_ ((ok_step t).mono (by decide)) (mem_nil_)) (mem_nil_) ck_states_of).pure
theorem sc_shown : FnScope N_shown ["way", "size", "sight", "row"] (defScope (top 42)) := ⟨rfl, rfl, rfl, by decide +kernel, rfl, by decide +kernel, by decide +kernel⟩
theorem ck_shown : chkSs ⟨N_shown, defScope (top 42), fun _ => true, ([] : List (Str × PyData)).map (·.1), ([("states_of", 3, g_states_of), ("view_of", 2, g_view_of)] : List (Str × Nat × FnS)).map (fun q => (q.1, q.2.1)), T.ex, T.cl, T.sub, T.exm, true, T.kl, T.na, ([] : List ((Str × Str) × Nat × FnS)).map (fun q => (q.1.1, q.1.2, q.2.1))⟩ b_shown (defBody (top 42)) = true := by decide +kernel
theorem bd_shown (kV doc pm : Value) (an : Option Addr) (cdv ct : Value) (us : List Value) (hl : us.length = (["way", "size", "sight", "row"] : List Str).length) : bindArgs (PySem.W.fnOf "shown" "shown" (defArgs (top 42)) (defBody (top 42)) (defScope (top 42)) .none kV doc pm an cdv ct) ⟨us, []⟩ = pure ((["way", "size", "sight", "row"] : List Str).zip us) := match us, hl with
  | [_, _, _, _], _ => rfl
theorem ok_shown (t : TW T K mg) : FnT P w mg base ⟨K, He.ga K, w⟩ 5 "shown" 4 g_shown := (fnT_at (gl := []) (fn := [("states_of", 3, g_states_of), ("view_of", 2, g_view_of)]) (ms := []) (fuel := 0) t 32 rfl sc_shown bd_shown (mem_nil_) (mem_cons_ ((ok_states_of t).mono (by decide)) (mem_cons_ ((ok_view_of t).mono (by decide)) (mem_nil_))) (mem_nil_) ck_shown)
theorem sc_views_of : FnScope N_views_of ["way", "size", "sight", "row"] (defScope (top 43)) := ⟨rfl, rfl, rfl, by decide +kernel, rfl, by decide +kernel, by decide +kernel⟩
theorem ck_views_of : chkSs ⟨N_views_of, defScope (top 43), fun _ => true, ([] : List (Str × PyData)).map (·.1), ([("check_way", 1, g_check_way), ("check_size", 1, g_check_size), ("check_sight", 1, g_check_sight), ("check_row", 2, g_check_row), ("shown", 4, g_shown)] : List (Str × Nat × FnS)).map (fun q => (q.1, q.2.1)), T.ex, T.cl, T.sub, T.exm, true, T.kl, T.na, ([] : List ((Str × Str) × Nat × FnS)).map (fun q => (q.1.1, q.1.2, q.2.1))⟩ b_views_of (defBody (top 43)) = true := by decide +kernel
theorem bd_views_of (kV doc pm : Value) (an : Option Addr) (cdv ct : Value) (us : List Value) (hl : us.length = (["way", "size", "sight", "row"] : List Str).length) : bindArgs (PySem.W.fnOf "views_of" "views_of" (defArgs (top 43)) (defBody (top 43)) (defScope (top 43)) .none kV doc pm an cdv ct) ⟨us, []⟩ = pure ((["way", "size", "sight", "row"] : List Str).zip us) := match us, hl with
  | [_, _, _, _], _ => rfl
theorem ok_views_of (t : TW T K mg) : FnT P w mg base ⟨K, He.ga K, w⟩ 6 "views_of" 4 g_views_of := (fnT_at (gl := []) (fn := [("check_way", 1, g_check_way), ("check_size", 1, g_check_size), ("check_sight", 1, g_check_sight), ("check_row", 2, g_check_row), ("shown", 4, g_shown)]) (ms := []) (fuel := 0) t 33 rfl sc_views_of bd_views_of (mem_nil_) (mem_cons_ ((ok_check_way t).mono (by decide)) (mem_cons_ ((ok_check_size t).mono (by decide)) (mem_cons_ ((ok_check_sight t).mono (by decide)) (mem_cons_ ((ok_check_row t).mono (by decide)) (mem_cons_ ((ok_shown t).mono (by decide)) (mem_nil_)))))) (mem_nil_) ck_views_of)
theorem sc_Desk_init : FnScope N_Desk_init ["self", "way", "size", "sight"] (defScope (methOf (top 39) 0)) := ⟨rfl, rfl, rfl, by decide +kernel, rfl, by decide +kernel, by decide +kernel⟩
theorem ck_Desk_init : chkSs ⟨N_Desk_init, defScope (methOf (top 39) 0), fun _ => true, ([c_START] : List (Str × PyData)).map (·.1), ([("check_way", 1, g_check_way), ("check_size", 1, g_check_size), ("check_sight", 1, g_check_sight)] : List (Str × Nat × FnS)).map (fun q => (q.1, q.2.1)), T.ex, T.cl, T.sub, T.exm, true, T.kl, T.na, ([] : List ((Str × Str) × Nat × FnS)).map (fun q => (q.1.1, q.1.2, q.2.1))⟩ b_Desk_init (defBody (methOf (top 39) 0)) = true := by decide +kernel
theorem bd_Desk_init (kV doc pm : Value) (an : Option Addr) (cdv ct : Value) (us : List Value) (hl : us.length = (["self", "way", "size", "sight"] : List Str).length) : bindArgs (PySem.W.fnOf "__init__" "Desk.__init__" (defArgs (methOf (top 39) 0)) (defBody (methOf (top 39) 0)) (defScope (methOf (top 39) 0)) .none kV doc pm an cdv ct) ⟨us, []⟩ = pure ((["self", "way", "size", "sight"] : List Str).zip us) := match us, hl with
  | [_, _, _, _], _ => rfl
theorem ok_Desk_init (t : TW T K mg) : MethT P w mg base ⟨K, He.ga K, w⟩ 5 "Desk" "__init__" 4 g_Desk_init := (methT_at (gl := [c_START]) (fn := [("check_way", 1, g_check_way), ("check_size", 1, g_check_size), ("check_sight", 1, g_check_sight)]) (ms := []) (fuel := 0) t 3 rfl (by decide) (by decide) sc_Desk_init bd_Desk_init (mem_cons_ (List.mem_of_getElem? (i := 9) rfl) (mem_nil_)) (mem_cons_ ((ok_check_way t).mono (by decide)) (mem_cons_ ((ok_check_size t).mono (by decide)) (mem_cons_ ((ok_check_sight t).mono (by decide)) (mem_nil_)))) (mem_nil_) ck_Desk_init)
theorem sc_Desk_state : FnScope N_Desk_state ["self"] (defScope (methOf (top 39) 4)) := ⟨rfl, rfl, rfl, by decide +kernel, rfl, by decide +kernel, by decide +kernel⟩
theorem ck_Desk_state : chkSs ⟨N_Desk_state, defScope (methOf (top 39) 4), fun _ => true, ([] : List (Str × PyData)).map (·.1), ([] : List (Str × Nat × FnS)).map (fun q => (q.1, q.2.1)), T.ex, T.cl, T.sub, T.exm, true, T.kl, T.na, ([] : List ((Str × Str) × Nat × FnS)).map (fun q => (q.1.1, q.1.2, q.2.1))⟩ b_Desk_state (defBody (methOf (top 39) 4)) = true := by decide +kernel
theorem bd_Desk_state (kV doc pm : Value) (an : Option Addr) (cdv ct : Value) (us : List Value) (hl : us.length = (["self"] : List Str).length) : bindArgs (PySem.W.fnOf "state" "Desk.state" (defArgs (methOf (top 39) 4)) (defBody (methOf (top 39) 4)) (defScope (methOf (top 39) 4)) .none kV doc pm an cdv ct) ⟨us, []⟩ = pure ((["self"] : List Str).zip us) := match us, hl with
  | [_], _ => rfl
theorem ok_Desk_state (t : TW T K mg) : MethT P w mg base ⟨K, He.ga K, w⟩ 2 "Desk" "state" 1 g_Desk_state := (methT_at (gl := []) (fn := []) (ms := []) (fuel := 0) t 4 rfl (by decide) (by decide) sc_Desk_state bd_Desk_state (mem_nil_) (mem_nil_) (mem_nil_) ck_Desk_state)
theorem sc_Desk_done : FnScope N_Desk_done ["self"] (defScope (methOf (top 39) 5)) := ⟨rfl, rfl, rfl, by decide +kernel, rfl, by decide +kernel, by decide +kernel⟩
theorem ck_Desk_done : chkSs ⟨N_Desk_done, defScope (methOf (top 39) 5), fun _ => true, ([] : List (Str × PyData)).map (·.1), ([] : List (Str × Nat × FnS)).map (fun q => (q.1, q.2.1)), T.ex, T.cl, T.sub, T.exm, true, T.kl, T.na, ([] : List ((Str × Str) × Nat × FnS)).map (fun q => (q.1.1, q.1.2, q.2.1))⟩ b_Desk_done (defBody (methOf (top 39) 5)) = true := by decide +kernel
theorem bd_Desk_done (kV doc pm : Value) (an : Option Addr) (cdv ct : Value) (us : List Value) (hl : us.length = (["self"] : List Str).length) : bindArgs (PySem.W.fnOf "done" "Desk.done" (defArgs (methOf (top 39) 5)) (defBody (methOf (top 39) 5)) (defScope (methOf (top 39) 5)) .none kV doc pm an cdv ct) ⟨us, []⟩ = pure ((["self"] : List Str).zip us) := match us, hl with
  | [_], _ => rfl
theorem ok_Desk_done (t : TW T K mg) : MethT P w mg base ⟨K, He.ga K, w⟩ 2 "Desk" "done" 1 g_Desk_done := (methT_at (gl := []) (fn := []) (ms := []) (fuel := 0) t 5 rfl (by decide) (by decide) sc_Desk_done bd_Desk_done (mem_nil_) (mem_nil_) (mem_nil_) ck_Desk_done)
theorem sc_Desk_len : FnScope N_Desk_len ["self"] (defScope (methOf (top 39) 1)) := ⟨rfl, rfl, rfl, by decide +kernel, rfl, by decide +kernel, by decide +kernel⟩
theorem ck_Desk_len : chkSs ⟨N_Desk_len, defScope (methOf (top 39) 1), fun _ => true, ([] : List (Str × PyData)).map (·.1), ([] : List (Str × Nat × FnS)).map (fun q => (q.1, q.2.1)), T.ex, T.cl, T.sub, T.exm, true, T.kl, T.na, ([] : List ((Str × Str) × Nat × FnS)).map (fun q => (q.1.1, q.1.2, q.2.1))⟩ b_Desk_len (defBody (methOf (top 39) 1)) = true := by decide +kernel
theorem bd_Desk_len (kV doc pm : Value) (an : Option Addr) (cdv ct : Value) (us : List Value) (hl : us.length = (["self"] : List Str).length) : bindArgs (PySem.W.fnOf "__len__" "Desk.__len__" (defArgs (methOf (top 39) 1)) (defBody (methOf (top 39) 1)) (defScope (methOf (top 39) 1)) .none kV doc pm an cdv ct) ⟨us, []⟩ = pure ((["self"] : List Str).zip us) := match us, hl with
  | [_], _ => rfl
theorem ok_Desk_len (t : TW T K mg) : MethT P w mg base ⟨K, He.ga K, w⟩ 2 "Desk" "__len__" 1 g_Desk_len := (methT_at (gl := []) (fn := []) (ms := []) (fuel := 0) t 6 rfl (by decide) (by decide) sc_Desk_len bd_Desk_len (mem_nil_) (mem_nil_) (mem_nil_) ck_Desk_len)
theorem sc_law : FnScope N_law ["_law_script"] (defScope (top 59)) := ⟨rfl, rfl, rfl, by decide +kernel, rfl, by decide +kernel, by decide +kernel⟩
theorem ck_law : chkSs ⟨N_law, defScope (top 59), fun _ => true, ([] : List (Str × PyData)).map (·.1), ([("_law_start", 1, g_law_start), ("_law_way", 1, g_law_way), ("_law_draw", 2, g_law_draw), ("_law_call", 3, g_law_call), ("_law_states", 3, g_law_states), ("_law_view", 2, g_law_view), ("_law_pick", 2, g_law_pick), ("_law_deeds", 1, g_law_deeds), ("_law_step", 3, g_law_step), ("views_of", 4, g_views_of)] : List (Str × Nat × FnS)).map (fun q => (q.1, q.2.1)), T.ex, T.cl, T.sub, T.exm, true, T.kl, T.na, ([(("Desk", "__init__"), 4, g_Desk_init), (("Desk", "do"), 2, g_Desk_do), (("Desk", "state"), 1, g_Desk_state), (("Desk", "done"), 1, g_Desk_done), (("Desk", "__len__"), 1, g_Desk_len), (("Desk", "view"), 1, g_Desk_view), (("Desk", "undo"), 1, g_Desk_undo)] : List ((Str × Str) × Nat × FnS)).map (fun q => (q.1.1, q.1.2, q.2.1))⟩ b_law (defBody (top 59)) = true := by decide +kernel
theorem bd_law (kV doc pm : Value) (an : Option Addr) (cdv ct : Value) (us : List Value) (hl : us.length = (["_law_script"] : List Str).length) : bindArgs (PySem.W.fnOf "law" "law" (defArgs (top 59)) (defBody (top 59)) (defScope (top 59)) .none kV doc pm an cdv ct) ⟨us, []⟩ = pure ((["_law_script"] : List Str).zip us) := match us, hl with
  | [_], _ => rfl
theorem fn_law (t : TW T K mg) : ∀ q ∈ ([("_law_start", 1, g_law_start), ("_law_way", 1, g_law_way), ("_law_draw", 2, g_law_draw), ("_law_call", 3, g_law_call), ("_law_states", 3, g_law_states), ("_law_view", 2, g_law_view), ("_law_pick", 2, g_law_pick), ("_law_deeds", 1, g_law_deeds), ("_law_step", 3, g_law_step), ("views_of", 4, g_views_of)] : List (Str × Nat × FnS)), FnT P w mg base ⟨K, He.ga K, w⟩ 6 q.1 q.2.1 q.2.2 := mem_cons_ ((ok_law_start t).mono (by decide)) (mem_cons_ ((ok_law_way t).mono (by decide)) (mem_cons_ ((ok_law_draw t).mono (by decide)) (mem_cons_ ((ok_law_call t).mono (by decide)) (mem_cons_ ((ok_law_states t).mono (by decide)) (mem_cons_ ((ok_law_view t).mono (by decide)) (mem_cons_ ((ok_law_pick t).mono (by decide)) (mem_cons_ ((ok_law_deeds t).mono (by decide)) (mem_cons_ ((ok_law_step t).mono (by decide)) (mem_cons_ ((ok_views_of t).mono (by decide)) (mem_nil_))))))))))
theorem ms_law (t : TW T K mg) : ∀ q ∈ ([(("Desk", "__init__"), 4, g_Desk_init), (("Desk", "do"), 2, g_Desk_do), (("Desk", "state"), 1, g_Desk_state), (("Desk", "done"), 1, g_Desk_done), (("Desk", "__len__"), 1, g_Desk_len), (("Desk", "view"), 1, g_Desk_view), (("Desk", "undo"), 1, g_Desk_undo)] : List ((Str × Str) × Nat × FnS)), MethT P w mg base ⟨K, He.ga K, w⟩ 6 q.1.1 q.1.2 q.2.1 q.2.2 := mem_cons_ ((ok_Desk_init t).mono (by decide)) (mem_cons_ ((ok_Desk_do t).mono (by decide)) (mem_cons_ ((ok_Desk_state t).mono (by decide)) (mem_cons_ ((ok_Desk_done t).mono (by decide)) (mem_cons_ ((ok_Desk_len t).mono (by decide)) (mem_cons_ ((ok_Desk_view t).mono (by decide)) (mem_cons_ ((ok_Desk_undo t).mono (by decide)) (mem_nil_)))))))
end
end Tx


set_option Elab.async false
set_option linter.all false
set_option autoImplicit false
set_option maxRecDepth 100000
set_option maxHeartbeats 4000000
/-! M0: the pockets in plain Lean. -/
namespace Pl
open L2 Z
abbrev Str := PySem.Str
structure Way where
  kind : Str
  n : Int
  again : Str
  full : Str
  turn : Str
  pin : Str
  wipe : Str
structure Way.ok (w : Way) : Prop where
  kind : w.kind = "ring" ∨ w.kind = "stack" ∨ w.kind = "keep"
  n1 : 1 ≤ w.n
  n3 : w.n ≤ 3
  again : w.again = "move" ∨ w.again = "twice" ∨ w.again = "stay"
  full : w.full = "lowest" ∨ w.full = "refuse"
  turn : w.turn = "down" ∨ w.turn = "up"
  pin : w.pin = "stays" ∨ w.pin = "none"
  wipe : w.wipe = "all" ∨ w.wipe = "loose"
def wD (w : Way) : D := .tuple [.str w.kind, .int w.n, .str w.again, .str w.full, .str w.turn, .str w.pin, .str w.wipe]
abbrev En := Int × Int
abbrev Pk := List En
def eD (x : En) : D := .tuple [.int x.1, .int x.2]
def pD (p : Pk) : D := .tuple (p.map eD)
abbrev Sta := Pk × Int
def sD (s : Sta) : D := .tuple [pD s.1, .int s.2]
inductive Deed where
  | copy (t : Int) | act (k : Str)
def dD : Deed → D
  | .copy t => .tuple [.str "copy", .int t]
  | .act k => .tuple [.str k]
def isAct (k : Str) : Prop := k = "paste" ∨ k = "next" ∨ k = "drop" ∨ k = "pin" ∨ k = "empty"
def Deed.ok (size : Int) : Deed → Prop
  | .copy t => 0 ≤ t ∧ t < size
  | .act k => isAct k
def idxs (f : En → Bool) (p : Pk) : List Nat := p.zipIdx.filterMap fun x => if f x.1 then some x.2 else none
def cut1 (p : Pk) (i : Nat) : Pk := p.take i ++ p.drop (i + 1)
def copied (w : Way) (p : Pk) (t : Int) : Pk :=
  let pl := idxs (fun x => decide (x.1 = t)) p
  if pl ≠ [] ∧ w.again = "stay" then p
  else if pl ≠ [] ∧ w.again = "move" then p.getD (pl.headD 0) (0, 0) :: cut1 p (pl.headD 0)
  else if (p.length : Int) = w.n then
    (let lo := idxs (fun x => decide (x.2 = 0)) p
    if w.full = "refuse" ∨ lo = [] then p else (t, 0) :: cut1 p (lo.getLastD 0))
  else (t, 0) :: p
def dropped (p : Pk) : Pk := if (p.headD (0, 0)).2 = 1 then p else p.drop 1
def pasted (w : Way) (p : Pk) : Pk := if w.kind = "ring" then p.drop 1 ++ p.take 1 else if w.kind = "stack" then dropped p else p
def changed (w : Way) (p : Pk) (k : Str) : Pk :=
  if k = "next" then (if w.turn = "down" then p.drop 1 ++ p.take 1 else p.drop (p.length - 1) ++ p.dropLast)
  else if k = "drop" then dropped p
  else if k = "pin" then (if w.pin = "stays" then ((p.headD (0, 0)).1, 1 - (p.headD (0, 0)).2) :: p.drop 1 else p)
  else if w.wipe = "all" then [] else p.filter fun x => decide (x.2 = 1)
def step (w : Way) (s : Sta) : Deed → Sta
  | .copy t => (copied w s.1 t, -1)
  | .act k => if s.1 = [] then (s.1, -1) else if k = "paste" then (pasted w s.1, (s.1.headD (0, 0)).1) else (changed w s.1 k, -1)
def states (w : Way) : Sta → List Deed → List Sta
  | s, [] => [s]
  | s, d :: ds => s :: states w (step w s d) ds
def start : Sta := ([], -1)
/-! ### shapes, equality -/
theorem sh_eD (x : En) : shD 1 (eD x) := shD_tup (n := 0) fun y hy => by
  simp at hy
  rcases hy with rfl | rfl <;> exact shD_int _
theorem sh_pD (p : Pk) : shD 2 (pD p) := shD_tup (n := 1) fun y hy => by
  obtain ⟨x, _, rfl⟩ := List.mem_map.mp hy
  exact sh_eD x
theorem sh_sD (s : Sta) : shD 3 (sD s) := shD_tup (n := 2) fun y hy => by
  simp at hy
  rcases hy with rfl | rfl
  · exact sh_pD _
  · exact shD_int _
theorem eqv_eD (x y : En) : PySem.PyData.eqv (eD x) (eD y) = true ↔ x = y := by
  unfold eD
  obtain ⟨a, b⟩ := x
  obtain ⟨c, d⟩ := y
  simp [eqv_tup, eqvAll_cons, eqvAll_nil, eqv_int]
theorem eqv_pD (p q : Pk) : PySem.PyData.eqv (pD p) (pD q) = true ↔ p = q := by
  unfold pD
  rw [eqv_tup]
  exact eqvAll_map fun x _ y _ => eqv_eD x y
theorem eqv_sD (s t : Sta) : PySem.PyData.eqv (sD s) (sD t) = true ↔ s = t := by
  unfold sD
  obtain ⟨a, b⟩ := s
  obtain ⟨c, d⟩ := t
  simp [eqv_tup, eqvAll_cons, eqvAll_nil, eqv_int, eqv_pD]
@[simp] theorem shp (p : Pk) : sh (.tuple (p.map eD)) = true := sh_of (sh_pD p) (by decide)
@[simp] theorem sh_e (a b : Int) : sh (.tuple [.int a, .int b]) = true := sh_of (sh_eD (a, b)) (by decide)
@[simp] theorem sh_nilt : sh (.tuple []) = true := sh_of (n := 1) (shD_tup (n := 0) fun y hy => by simp at hy) (by decide)
@[simp] theorem sh_nill : sh (.list []) = true := sh_of (n := 1) (shD_lst (n := 0) fun y hy => by simp at hy) (by decide)
@[simp] theorem sh_ints (l : List Nat) : sh (.list (l.map fun i : Nat => .int (i : Int))) = true := sh_of (n := 1) (shD_lst (n := 0) fun y hy => by
  obtain ⟨x, _, rfl⟩ := List.mem_map.mp hy
  exact shD_int _) (by decide)
theorem eqv_nil_map {α : Type} (f : α → D) (l : List α) : PySem.PyData.eqvAll (l.map f) [] = decide (l = []) := by
  cases l with
  | nil => simp [eqvAll_nil]
  | cons a l => simp [eqvAll_cn]
/-- the strings of this text stand well -/
theorem Way.strs {w : Way} (h : w.ok) : PySem.PyData.strOk w.kind = true ∧ PySem.PyData.strOk w.again = true ∧ PySem.PyData.strOk w.full = true ∧ PySem.PyData.strOk w.turn = true ∧ PySem.PyData.strOk w.pin = true ∧ PySem.PyData.strOk w.wipe = true := by
  obtain ⟨h1, _, _, h2, h3, h4, h5, h6⟩ := h
  refine ⟨?_, ?_, ?_, ?_, ?_, ?_⟩
  · rcases h1 with e | e | e <;> rw [e] <;> decide +kernel
  · rcases h2 with e | e | e <;> rw [e] <;> decide +kernel
  · rcases h3 with e | e <;> rw [e] <;> decide +kernel
  · rcases h4 with e | e <;> rw [e] <;> decide +kernel
  · rcases h5 with e | e <;> rw [e] <;> decide +kernel
  · rcases h6 with e | e <;> rw [e] <;> decide +kernel
theorem sh_str {x : Str} (h : PySem.PyData.strOk x = true) : sh (.str x) = true := sh_of (n := 0) (shD_str h) (by decide)
theorem idxs_mem {c : En → Bool} {p : Pk} {i : Nat} (h : i ∈ idxs c p) : ∃ x, p[i]? = some x ∧ c x = true := by
  unfold idxs at h
  obtain ⟨y, hy, e⟩ := List.mem_filterMap.mp h
  split at e
  · rename_i hc
    cases e
    refine ⟨y.1, ?_, hc⟩
    obtain ⟨a, b⟩ := y
    exact List.mem_zipIdx_iff_getElem?.mp hy
  · cases e
theorem Way.shs {w : Way} (h : w.ok) : sh (.str w.kind) = true ∧ sh (.str w.again) = true ∧ sh (.str w.full) = true ∧ sh (.str w.turn) = true ∧ sh (.str w.pin) = true ∧ sh (.str w.wipe) = true := by
  obtain ⟨h1, h2, h3, h4, h5, h6⟩ := Way.strs h
  exact ⟨sh_str h1, sh_str h2, sh_str h3, sh_str h4, sh_str h5, sh_str h6⟩
end Pl

set_option Elab.async false
set_option linter.all false
set_option autoImplicit false
set_option maxRecDepth 100000
set_option maxHeartbeats 4000000
/-! QD: reading dicts, caught exceptions, while. -/
namespace Z
open PySem L2
/-! ### cells -/
def ixCk (o : Option Cell) (k : D) : Option Val := match o with
  | some (.lst vs) => (match k with
    | .int i => L2.atI vs i
    | _ => none)
  | some (.tup vs) => (match k with
    | .int i => L2.atI vs i
    | _ => none)
  | some (.dict _ kvs) => if kOk kvs k then dget kvs k else none
  | _ => none
theorem ixV_k (h : MH) (n : Nat) (k : D) : ixV h (.ref n) (.d k) = ixCk h[n]? k := by unfold ixV ixCk; first | rfl | (dsimp only; rfl) | (dsimp only; cases h[n]? with | none => rfl | some c => cases c <;> rfl)
theorem ixCk_dict (lk : Bool) (kvs : List (D × Val)) (k : D) : ixCk (some (.dict lk kvs)) k = if kOk kvs k then dget kvs k else none := rfl
def subCk (o : Option Cell) (h : MH) (n : Nat) (k : D) (v : Val) : Option MH := match o with
  | some (.lst vs) => (match k with
    | .int i => (L2.ixN vs.length i).map fun j => h.set n (.lst (vs.set j v))
    | _ => none)
  | some (.dict false kvs) => if kOk kvs k && decide (kvs.length < sizeLine) then some (h.set n (.dict false (dput kvs k v))) else none
  | _ => none
theorem subV_k (h : MH) (n : Nat) (k : D) (v : Val) : subV h (.ref n) (.d k) v = subCk h[n]? h n k v := by unfold subV subCk; first | rfl | (dsimp only; rfl) | (dsimp only; cases h[n]? with | none => rfl | some c => cases c <;> first | rfl | (rename_i b _; cases b <;> rfl))
theorem subCk_dict (h : MH) (n : Nat) (kvs : List (D × Val)) (k : D) (v : Val) : subCk (some (.dict false kvs)) h n k v = if kOk kvs k && decide (kvs.length < sizeLine) then some (h.set n (.dict false (dput kvs k v))) else none := rfl
theorem isin_ref {h : MH} {n : Nat} {lk : Bool} {kvs : List (D × Val)} (k : D) (hc : h[n]? = some (.dict lk kvs)) : cmpV h .isin (.d k) (.ref n) = if kOk kvs k then some (dhas kvs k) else none := by
  simp [cmpV, dicR, hc]
theorem notin_ref {h : MH} {n : Nat} {lk : Bool} {kvs : List (D × Val)} (k : D) (hc : h[n]? = some (.dict lk kvs)) : cmpV h .notin (.d k) (.ref n) = if kOk kvs k then some (!dhas kvs k) else none := by
  simp [cmpV, dicR, hc]
@[simp] theorem lenC_dict (lk : Bool) (kvs : List (D × Val)) : lenC (some (.dict lk kvs)) = some (.int kvs.length) := rfl
@[simp] theorem datC_dict (lk : Bool) (kvs : List (D × Val)) : datC (some (.dict lk kvs)) = (dats (kvs.map (·.2))).map fun ds => .dict ((kvs.map (·.1)).zip ds) := rfl
@[simp] theorem bltV_len_dd (h : MH) (kvs : List (D × D)) : bltV h .len [.d (.dict kvs)] = some (.d (.int kvs.length)) := rfl
@[simp] theorem seqV_dd (h : MH) (kvs : List (D × D)) : seqV h (.d (.dict kvs)) = some (.items (kvs.map (·.1))) := rfl
theorem seqV_dict {h : MH} {n : Nat} {lk : Bool} {kvs : List (D × Val)} (hc : h[n]? = some (.dict lk kvs)) : seqV h (.ref n) = some (.items (kvs.map (·.1))) := by simp [seqV, hc]
theorem lockV_dict {h : MH} {n : Nat} {lk : Bool} {kvs : List (D × Val)} (hc : h[n]? = some (.dict lk kvs)) : lockV h (.ref n) = h.set n (.dict true kvs) := by simp [lockV, hc]
def mkD (x w : Val) (h : MH) : Res Val := match x with
  | .d k => if (kindK k).isSome then .ok (.ref h.length) (h ++ [.dict false [(k, w)]]) else .bad
  | _ => .bad
@[simp] theorem mkD_d (k : D) (w : Val) (h : MH) : mkD (.d k) w h = if (kindK k).isSome then .ok (.ref h.length) (h ++ [.dict false [(k, w)]]) else .bad := rfl
@[simp] theorem den_dict0 (L : Lib) (e : Env) (h : MH) : den L (.dictR .nil .nil) e h = .ok (.ref h.length) (h ++ [.dict false []]) := rfl
@[simp] theorem den_dict1 (L : Lib) (e : Env) (h : MH) (a b : Ce) : den L (.dictR (.cons a .nil) (.cons b .nil)) e h = (den L a e h).bind fun x h => (den L b e h).bind fun w h => mkD x w h := by
  simp only [den, dens]
  cases den L a e h with
  | ok x h1 =>
    simp only [Res.bind_ok]
    cases den L b e h1 with
    | ok w h2 => simp only [Res.bind_ok]; cases x <;> rfl
    | exc _ _ => rfl
    | bad => rfl
  | exc _ _ => rfl
  | bad => rfl
/-! ### methods -/
@[simp] theorem den_mth (L : Lib) (e : Env) (h : MH) (m : Mfn) (o : Ce) (es : Ces) : den L (.mth m o es) e h = (den L o e h).bind fun x h => if mthAt h m x then (dens L es e h).bind fun vs h => lift h (mthV h m x vs) else .bad := rfl
@[simp] theorem den_setdef (L : Lib) (e : Env) (h : MH) (o : Ce) (es : Ces) : den L (.mst .setdef o es) e h = (den L o e h).bind fun x h => if mstAt h .setdef x then (dens L es e h).bind fun vs h => (match mstV h .setdef x vs with
    | some (r, h1) => .ok r h1
    | none => .bad) else .bad := rfl
theorem mthAt_get {h : MH} {n : Nat} {lk : Bool} {kvs : List (D × Val)} (hc : h[n]? = some (.dict lk kvs)) : mthAt h .get2 (.ref n) = true := by simp [mthAt, dicOf, dicR, hc]
theorem mthV_get {h : MH} {n : Nat} {lk : Bool} {kvs : List (D × Val)} (k : D) (v : Val) (hc : h[n]? = some (.dict lk kvs)) : mthV h .get2 (.ref n) [.d k, v] = if kOk kvs k then some ((dget kvs k).getD v) else none := by simp [mthV, dicOf, dicR, hc]
@[simp] theorem mthAt_index_l (h : MH) (xs : List D) : mthAt h .index (.d (.list xs)) = true := rfl
@[simp] theorem mthAt_count_l (h : MH) (xs : List D) : mthAt h .count (.d (.list xs)) = true := rfl
@[simp] theorem mthV_index_l (h : MH) (xs : List D) (y : D) : mthV h .index (.d (.list xs)) [.d y] = if sh (.list xs) && sh y then (idxD y xs).map fun (i : Nat) => .d (.int i) else none := rfl
@[simp] theorem mthV_count_l (h : MH) (xs : List D) (y : D) : mthV h .count (.d (.list xs)) [.d y] = if sh (.list xs) && sh y then some (.d (.int (xs.countP fun z => PyData.eqv z y : Nat))) else none := by
  simp [mthV]
@[simp] theorem bltV_sorted_l (h : MH) (xs : List D) : bltV h .sorted [.d (.list xs)] = if srtOk xs then some (.d (.list (srt xs))) else none := by
  simp only [bltV, asDs, asD_d, Option.bind_some, bltD, Option.map_some]
  split <;> rfl
@[simp] theorem bltV_sorted_d (h : MH) (kvs : List (D × D)) : bltV h .sorted [.d (.dict kvs)] = if srtOk (kvs.map (·.1)) then some (.d (.list (srt (kvs.map (·.1))))) else none := by
  simp only [bltV, asDs, asD_d, Option.bind_some, bltD, Option.map_some]
  split <;> rfl
/-! ### dict data -/
@[simp] theorem ixD_dict (kvs : List (D × D)) (k : D) (hk : ∀ i, k ≠ .int i) : ixD (.dict kvs) k = if kOk kvs k then dget kvs k else none := by
  cases k <;> rfl
@[simp] theorem isin_dd (h : MH) (x : D) (kvs : List (D × D)) : cmpD .isin x (.dict kvs) = if kOk kvs x then some (dhas kvs x) else none := by cases x <;> rfl
@[simp] theorem notin_dd (h : MH) (x : D) (kvs : List (D × D)) : cmpD .notin x (.dict kvs) = if kOk kvs x then some (!dhas kvs x) else none := by cases x <;> rfl
def revQ : D → Option Val
  | .list xs => some (.d (.list xs.reverse))
  | _ => none
@[simp] theorem revQ_l (xs : List D) : revQ (.list xs) = some (.d (.list xs.reverse)) := rfl
@[simp] theorem den_revQ (L : Lib) (e : Env) (h : MH) (a : Ce) : den L (.rev a) e h = (den L a e h).bind fun x h => lift h ((asD h x).bind revQ) := by
  simp only [den]; first | rfl | (congr 1; funext x h; congr 2; funext d; cases d <;> rfl)
/-! ### things as keys -/
structure KeyE {α : Type} [DecidableEq α] (f : α → D) : Prop where
  eqv : ∀ a b, PyData.eqv (f a) (f b) = decide (a = b)
  kind : ∃ b, ∀ a, kindK (f a) = some b
section
variable {α β γ : Type} [DecidableEq α] {f : α → D} {g : β → γ}
def encL (f : α → D) (g : β → γ) (l : List (α × β)) : List (D × γ) := l.map fun q => (f q.1, g q.2)
def lkp (l : List (α × β)) (a : α) : Option β := (l.find? fun q => decide (q.1 = a)).map (·.2)
def keysL (l : List (α × β)) : List α := l.map (·.1)
def putL (l : List (α × β)) (a : α) (b : β) : List (α × β) := if a ∈ keysL l then l.map (fun q => if q.1 = a then (q.1, b) else q) else l ++ [(a, b)]
@[simp] theorem encL_nil : encL f g [] = [] := rfl
@[simp] theorem encL_cons (a : α) (b : β) (l : List (α × β)) : encL f g ((a, b) :: l) = (f a, g b) :: encL f g l := rfl
@[simp] theorem encL_len (l : List (α × β)) : (encL f g l).length = l.length := by simp [encL]
theorem encL_keys (l : List (α × β)) : (encL f g l).map (·.1) = (keysL l).map f := by simp [encL, keysL]
theorem encL_vals (l : List (α × β)) : (encL f g l).map (·.2) = (l.map (·.2)).map g := by simp [encL]
theorem KeyE.kOk_enc (E : KeyE f) (l : List (α × β)) (a : α) : kOk (encL f g l) (f a) = true := by
  obtain ⟨b, hb⟩ := E.kind
  unfold kOk
  rw [hb a]
  simp only [List.all_eq_true]
  intro q hq
  obtain ⟨x, _, rfl⟩ := List.mem_map.mp hq
  simp [hb x.1]
theorem KeyE.isSome (E : KeyE f) (a : α) : (kindK (f a)).isSome = true := by
  obtain ⟨b, hb⟩ := E.kind
  rw [hb a]; rfl
theorem KeyE.dhas_enc (E : KeyE f) (l : List (α × β)) (a : α) : dhas (encL f g l) (f a) = decide (a ∈ keysL l) := by
  unfold dhas encL keysL
  induction l with
  | nil => simp
  | cons q l ih =>
    simp only [List.map_cons, List.any_cons, ih, E.eqv, List.mem_cons]
    by_cases h : q.1 = a
    · simp [h]
    · have : ¬ a = q.1 := fun e => h e.symm
      simp [h, this]
theorem KeyE.dget_enc (E : KeyE f) (l : List (α × β)) (a : α) : dget (encL f g l) (f a) = (lkp l a).map g := by
  unfold dget encL lkp
  induction l with
  | nil => simp
  | cons q l ih =>
    simp only [List.map_cons, List.find?_cons, E.eqv]
    by_cases h : q.1 = a
    · simp [h]
    · simp only [h, decide_false]; exact ih
theorem KeyE.dput_enc (E : KeyE f) (l : List (α × β)) (a : α) (b : β) : dput (encL f g l) (f a) (g b) = encL f g (putL l a b) := by
  unfold dput putL
  rw [E.dhas_enc]
  by_cases h : a ∈ keysL l
  · simp only [h, decide_true, if_true, encL, List.map_map]
    apply List.map_congr_left
    intro q _
    simp only [Function.comp, E.eqv, decide_eq_true_eq]
    by_cases e : q.1 = a <;> simp [e]
  · simp [h, encL]
theorem putL_new {l : List (α × β)} {a : α} (b : β) (h : a ∉ keysL l) : putL l a b = l ++ [(a, b)] := by unfold putL; rw [if_neg h]
theorem lkp_none {l : List (α × β)} {a : α} (h : a ∉ keysL l) : lkp l a = none := by
  unfold lkp keysL at *
  rw [List.find?_eq_none.mpr]
  · rfl
  · intro q hq
    simp only [decide_eq_true_eq]
    exact fun e => h (e ▸ List.mem_map_of_mem hq)
theorem lkp_some {l : List (α × β)} {a : α} (h : a ∈ keysL l) : ∃ b, lkp l a = some b ∧ (a, b) ∈ l := by
  unfold lkp keysL at *
  obtain ⟨q, hq, e⟩ := List.mem_map.mp h
  cases hf : l.find? fun q => decide (q.1 = a) with
  | none => exact absurd (List.find?_eq_none.mp hf q hq) (by simp [e])
  | some p =>
    have h1 := List.find?_some hf
    simp only [decide_eq_true_eq] at h1
    exact ⟨p.2, rfl, by rw [← h1]; exact List.mem_of_find?_eq_some hf⟩
theorem lkp_mem {l : List (α × β)} {a : α} {b : β} (hn : (keysL l).Nodup) (h : (a, b) ∈ l) : lkp l a = some b := by
  induction l with
  | nil => simp at h
  | cons q l ih =>
    simp only [keysL, List.map_cons, List.nodup_cons] at hn
    unfold lkp
    rw [List.find?_cons]
    rcases List.mem_cons.mp h with e | h
    · subst e; simp
    · have ne : q.1 ≠ a := fun e => hn.1 (e ▸ List.mem_map_of_mem (f := (·.1)) h)
      simp only [ne, decide_false]
      exact ih hn.2 h
end
/-! ### loops -/
inductive Ans (S R : Type) where
  | more (s : S) | stop | ret (r : R)
def iter {S R : Type} (f : S → Ans S R) : Nat → S → Option (S ⊕ R)
  | 0, _ => none
  | n + 1, s => match f s with
    | .stop => some (.inl s)
    | .more s' => iter f n s'
    | .ret r => some (.inr r)
@[simp] theorem exec_while (L : Lib) (c : Ce) (b : Css) (e : Env) (h : MH) : exec L (.while_ c b) e h = whileRun (den L c) (execs L b) L.fuel e h := rfl
/-- a while walks as its plain loop -/
theorem while_sim {S R : Type} {c : Env → MH → Res Val} {body : Env → MH → RS} {f : S → Ans S R} {Rel : S → Env → MH → Prop} {Ret : R → Val → MH → Prop}
    (hf : ∀ s e h, Rel s e h → match f s with
      | .stop => c e h = .ok (.d (.bool false)) h
      | .more s' => c e h = .ok (.d (.bool true)) h ∧ ∃ e' h', body e h = .next e' h' ∧ Rel s' e' h'
      | .ret r => c e h = .ok (.d (.bool true)) h ∧ ∃ v h', body e h = .ret v h' ∧ Ret r v h') :
    ∀ (n : Nat) (s : S) (e : Env) (h : MH) (a : S ⊕ R), Rel s e h → iter f n s = some a → match a with
      | .inl s' => ∃ e' h', whileRun c body n e h = .next e' h' ∧ Rel s' e' h'
      | .inr r => ∃ v h', whileRun c body n e h = .ret v h' ∧ Ret r v h'
  | 0, s, e, h, a, _, ha => by simp [iter] at ha
  | n + 1, s, e, h, a, hr, ha => by
    have q := hf s e h hr
    simp only [iter] at ha
    cases hs : f s with
    | stop =>
      rw [hs] at q ha
      cases ha
      exact ⟨e, h, by simp only [whileRun]; rw [q], hr⟩
    | more s' =>
      rw [hs] at q ha
      obtain ⟨q1, e', h', q2, q3⟩ := q
      have ih := while_sim hf n s' e' h' a q3 ha
      have eq : whileRun c body (n + 1) e h = whileRun c body n e' h' := by
        conv => lhs; unfold whileRun
        rw [q1]; simp only; rw [q2]
      rw [eq]; exact ih
    | ret r =>
      rw [hs] at q ha
      cases ha
      obtain ⟨q1, v, h', q2, q3⟩ := q
      refine ⟨v, h', ?_, q3⟩
      simp only [whileRun]; rw [q1]; simp only; rw [q2]
/-- a for walks as its plain fold -/
def foldR {S R α : Type} (f : S → α → S ⊕ R) : List α → S → S ⊕ R
  | [], s => .inl s
  | x :: xs, s => match f s x with
    | .inl s' => foldR f xs s'
    | .inr r => .inr r
theorem for_sim {S R α : Type} {t : Ct} {body : Env → MH → RS} {f : S → α → S ⊕ R} {inj : α → D} {Rel : S → Env → MH → Prop} {Ret : R → Val → MH → Prop} {P : α → Prop}
    (hf : ∀ s x e h, P x → Rel s e h → ∃ e1, bindT t (.d (inj x)) e = some e1 ∧ match f s x with
      | .inl s' => ∃ e' h', body e1 h = .next e' h' ∧ Rel s' e' h'
      | .inr r => ∃ v h', body e1 h = .ret v h' ∧ Ret r v h') :
    ∀ (xs : List α) (s : S) (e : Env) (h : MH), (∀ x ∈ xs, P x) → Rel s e h → match foldR f xs s with
      | .inl s' => ∃ e' h', forRun t body (xs.map inj) e h = .next e' h' ∧ Rel s' e' h'
      | .inr r => ∃ v h', forRun t body (xs.map inj) e h = .ret v h' ∧ Ret r v h'
  | [], s, e, h, _, hr => ⟨e, h, rfl, hr⟩
  | x :: xs, s, e, h, hp, hr => by
    obtain ⟨e1, b1, q⟩ := hf s x e h (hp x (by simp)) hr
    simp only [foldR, List.map_cons]
    cases hs : f s x with
    | inl s' =>
      rw [hs] at q
      obtain ⟨e', h', q1, q2⟩ := q
      have ih := for_sim hf xs s' e' h' (fun y hy => hp y (by simp [hy])) q2
      have eq : forRun t body (inj x :: xs.map inj) e h = forRun t body (xs.map inj) e' h' := by
        conv => lhs; unfold forRun
        rw [b1]; simp only; rw [q1]
      rw [eq]; exact ih
    | inr r =>
      rw [hs] at q
      obtain ⟨v, h', q1, q2⟩ := q
      refine ⟨v, h', ?_, q2⟩
      simp only [forRun]; rw [b1]; simp only; rw [q1]
/-- the same, with the turn's number -/
theorem for_simI {S R α : Type} {t : Ct} {body : Env → MH → RS} {f : S → α → S ⊕ R} {inj : α → D} {Rel : Nat → S → Env → MH → Prop} {Ret : R → Val → MH → Prop} {all : List α}
    (hf : ∀ i s x e h, all[i]? = some x → Rel i s e h → ∃ e1, bindT t (.d (inj x)) e = some e1 ∧ match f s x with
      | .inl s' => ∃ e' h', body e1 h = .next e' h' ∧ Rel (i + 1) s' e' h'
      | .inr r => ∃ v h', body e1 h = .ret v h' ∧ Ret r v h') :
    ∀ (xs : List α) (i : Nat) (s : S) (e : Env) (h : MH), all.drop i = xs → Rel i s e h → match foldR f xs s with
      | .inl s' => ∃ e' h', forRun t body (xs.map inj) e h = .next e' h' ∧ Rel (i + xs.length) s' e' h'
      | .inr r => ∃ v h', forRun t body (xs.map inj) e h = .ret v h' ∧ Ret r v h'
  | [], i, s, e, h, _, hr => ⟨e, h, rfl, hr⟩
  | x :: xs, i, s, e, h, hd, hr => by
    have hx : all[i]? = some x := by
      have : (all.drop i)[0]? = some x := by rw [hd]; rfl
      simpa using this
    obtain ⟨e1, b1, q⟩ := hf i s x e h hx hr
    have hd' : all.drop (i + 1) = xs := by rw [← List.drop_drop, hd]; rfl
    simp only [foldR, List.map_cons, List.length_cons]
    cases hs : f s x with
    | inl s' =>
      rw [hs] at q
      obtain ⟨e', h', q1, q2⟩ := q
      have ih := for_simI hf xs (i + 1) s' e' h' hd' q2
      have eq : forRun t body (inj x :: xs.map inj) e h = forRun t body (xs.map inj) e' h' := by
        conv => lhs; unfold forRun
        rw [b1]; simp only; rw [q1]
      rw [eq, show i + (xs.length + 1) = i + 1 + xs.length by omega]; exact ih
    | inr r =>
      rw [hs] at q
      obtain ⟨v, h', q1, q2⟩ := q
      refine ⟨v, h', ?_, q2⟩
      simp only [forRun]; rw [b1]; simp only; rw [q1]
/-! ### exceptions -/
def tryK (r : RS) (i j : Nat) (subs : List Str) : RS := match r with
  | .exc c e1 h1 => if subs.contains c then (match setE e1 j (.exc c) with
    | some e2 => if i < e2.length then .next (e2.set i none) h1 else .bad
    | none => .bad) else .bad
  | r => r
@[simp] theorem exec_try (L : Lib) (b : Css) (i j : Nat) (c : Str) (subs : List Str) (e : Env) (h : MH) : exec L (.tryx b i j c subs) e h = tryK (execs L b e h) i j subs := rfl
@[simp] theorem tryK_next (e : Env) (h : MH) (i j : Nat) (subs : List Str) : tryK (.next e h) i j subs = .next e h := rfl
@[simp] theorem tryK_ret (v : Val) (h : MH) (i j : Nat) (subs : List Str) : tryK (.ret v h) i j subs = .ret v h := rfl
@[simp] theorem tryK_exc (c : Str) (e : Env) (h : MH) (i j : Nat) (subs : List Str) : tryK (.exc c e h) i j subs = if subs.contains c then (if j < e.length then (if i < e.length then .next ((e.set j (some (.exc c))).set i none) h else .bad) else .bad) else .bad := by
  simp only [tryK, setE]
  by_cases hs : subs.contains c = true
  · rw [if_pos hs, if_pos hs]
    by_cases hj : j < e.length <;> simp [hj]
  · rw [if_neg hs, if_neg hs]
@[simp] theorem den_isx (L : Lib) (e : Env) (h : MH) (a : Ce) (c : Str) (tab : List (Str × Bool)) : den L (.isx a c tab) e h = (den L a e h).bind fun v h => lift h ((isxV tab v).map fun b => .d (.bool b)) := rfl
@[simp] theorem isxV_exc (tab : List (Str × Bool)) (c : Str) : isxV tab (.exc c) = tab.lookup c := rfl
@[simp] theorem is_none_exc (h : MH) (c : Str) : cmpV h .is_ (.exc c) (.d .none) = some false := rfl
@[simp] theorem isnot_none_exc (h : MH) (c : Str) : cmpV h .isnot (.exc c) (.d .none) = some true := rfl
/-! ### += -/
def augK (v : Option (Val × MH)) (e : Env) (i : Nat) : RS := match v with
  | some (r, h1) => toE (setE e i r) h1
  | none => .bad
@[simp] theorem augK_some (r : Val) (h1 : MH) (e : Env) (i : Nat) : augK (some (r, h1)) e i = toE (setE e i r) h1 := rfl
def augR (o : Option (Option Val)) (e : Env) (i : Nat) (r : Res Val) : RS := match o with
  | some (some x) => ofR e r fun v h => augK (augV h x v) e i
  | _ => .bad
@[simp] theorem augR_some (x : Val) (e : Env) (i : Nat) (r : Res Val) : augR (some (some x)) e i r = ofR e r fun v h => augK (augV h x v) e i := rfl
@[simp] theorem exec_aug (L : Lib) (e : Env) (h : MH) (i : Nat) (a : Ce) : exec L (.aug i a) e h = augR e[i]? e i (den L a e h) := rfl
@[simp] theorem augV_int (h : MH) (i j : Int) : augV h (.d (.int i)) (.d (.int j)) = some (.d (.int (i + j)), h) := rfl
theorem augV_lst {h : MH} {n : Nat} {vs : List Val} (ys : List D) (hc : h[n]? = some (.lst vs)) (hl : vs.length + ys.length ≤ 16777216) : augV h (.ref n) (.d (.list ys)) = some (.ref n, h.set n (.lst (vs ++ ys.map .d))) := by
  simp [augV, hc, lOk_of hl]
end Z

set_option Elab.async false
set_option linter.all false
set_option autoImplicit false
set_option maxRecDepth 100000
set_option maxHeartbeats 4000000
/-! Q1: what the law draws. -/
namespace Tx
open L2 Z
/-- the heap of the draws: the numbers, the pair of them and the count -/
def dh (ns : List Int) (k : Int) (r : MH) : MH := .lst (ns.map fun i => .d (.int i)) :: .lst [.ref 0, .d (.int k)] :: r
theorem m_draw {ns : List Int} (hn : ns ≠ []) (k : Int) (r : MH) {l : Int} (h0 : 0 < l) (h1 : l < 1073741824) :
    ∃ v ns' k', 0 ≤ v ∧ v < l ∧ ns' ≠ [] ∧ g_law_draw [.ref 1, .d (.int l)] (dh ns k r) = .ok (.d (.int v)) (dh ns' k' r) := by
  have hlen : (0 : Int) < ns.length := by have := List.length_pos_iff.mpr hn; omega
  have hat0 := Int.fmod_nonneg_of_pos (k + 1) hlen
  have hat1 := Int.fmod_lt_of_pos (k + 1) hlen
  obtain ⟨j, hj⟩ : ∃ j : Nat, (k + 1).fmod ns.length = (j : Int) := ⟨((k + 1).fmod ns.length).toNat, by omega⟩
  have hjl : j < ns.length := by omega
  have hne : (ns.length : Int) ≠ 0 := by omega
  have hl : l ≠ 0 := by omega
  have hla : l.natAbs < 1073741824 := by omega
  have hm0 := Int.fmod_nonneg_of_pos (ns[j] + 104729 * (k + 1)) (b := 4294967291) (by decide)
  have hm1 := Int.fmod_lt_of_pos (ns[j] + 104729 * (k + 1)) (b := 4294967291) (by decide)
  have hx : (ns.map fun i => Val.d (.int i))[j]? = some (.d (.int ns[j])) := by
    rw [List.getElem?_map, List.getElem?_eq_getElem hjl]; rfl
  by_cases hb : 1000000000000000000 ≤ ns[j]
  · refine ⟨ns[j].fmod l, ns.set j (ns[j].fdiv l), k + 1, Int.fmod_nonneg_of_pos _ h0, Int.fmod_lt_of_pos _ h0, by simp [hn], ?_⟩
    simp [hn, g_law_draw, runF_def, b_law_draw, dh, atI_0, atI_1, hne, hj, subC_lst, ixN_nat _ _ hjl, atI_nat _ _ (show j < (ns.map fun i => Val.d (.int i)).length by simpa using hjl), hjl, hb, hl, hla]
  · refine ⟨((((((ns[j] + 104729 * (k + 1)).fmod 4294967291) ^ 5).fmod 4294967279).fdiv 64 * 69621 + (((ns[j] + 104729 * (k + 1)).fmod 4294967291) ^ 5).fmod 4294967279).fmod 4294967231).fdiv 8 |>.fmod l, ns, k + 1, Int.fmod_nonneg_of_pos _ h0, Int.fmod_lt_of_pos _ h0, hn, ?_⟩
    have hp : ((ns[j] + 104729 * (k + 1)).fmod 4294967291).natAbs < 18446744073709551616 := by omega
    simp [hn, g_law_draw, runF_def, b_law_draw, dh, atI_0, atI_1, hne, hj, subC_lst, ixN_nat _ _ hjl, atI_nat _ _ (show j < (ns.map fun i => Val.d (.int i)).length by simpa using hjl), hjl, hb, hl, hla, mul_l, mul_r, pow_5 hp]
theorem m_pick {ns : List Int} (hn : ns ≠ []) (k : Int) (r : MH) {ds : List D} (h0 : ds ≠ []) (h1 : ds.length < 1073741824) :
    ∃ d ns' k', d ∈ ds ∧ ns' ≠ [] ∧ g_law_pick [.ref 1, .d (.list ds)] (dh ns k r) = .ok (.d d) (dh ns' k' r) := by
  have hl := List.length_pos_iff.mpr h0
  obtain ⟨v, ns', k', h2, h3, h4, h5⟩ := m_draw hn k r (l := ds.length) (by omega) (by omega)
  obtain ⟨j, rfl⟩ := Int.eq_ofNat_of_zero_le h2
  have hj : j < ds.length := by omega
  refine ⟨ds[j], ns', k', List.getElem_mem hj, h4, ?_⟩
  simp [g_law_pick, runF_def, b_law_pick, h5, atI_nat _ _ hj, hj]
end Tx

set_option Elab.async false
set_option linter.all false
set_option autoImplicit false
set_option maxRecDepth 100000
set_option maxHeartbeats 4000000
/-! Q2: what the program's defs compute. -/
namespace Tx
open L2 Z Pl
theorem idx_run {f : D → MH → Res (Option D)} {h : MH} (p : Pk) (c : En → Bool) (hp : p.length ≤ 16777216) (hf : ∀ x : En × Nat, f (pairD x.2 (eD x.1)) h = .ok (if c x.1 then some (.int (x.2 : Int)) else none) h) :
    compRun f (enumD (p.map eD)) h [] = .ok ((idxs c p).map fun i : Nat => .int (i : Int)) h := by
  rw [enumD_map, compRun_pure f h (fun x : En × Nat => pairD x.2 (eD x.1)) (fun x => if c x.1 then some (.int (x.2 : Int)) else none) _ _ (fun x _ => hf x) (by simp; exact hp)]
  simp only [List.nil_append, idxs, List.map_filterMap]
  congr 2
  funext x
  by_cases hx : c x.1 <;> simp [hx]
theorem lOk_small {n : Nat} (h : n ≤ 100) : lOk n = true := lOk_of (by omega)
theorem m_dropped (p : Pk) (h : MH) (hp : p ≠ []) : g_dropped [.d (pD p)] h = .ok (.d (pD (dropped p))) h := by
  obtain ⟨⟨a, b⟩, q, rfl⟩ := List.exists_cons_of_ne_nil hp
  by_cases hb : b = 1
  · simp [g_dropped, runF_def, b_dropped, pD, eD, atI_0, atI_1, eqv_int, dropped, hb]
  · simp [g_dropped, runF_def, b_dropped, pD, eD, atI_0, atI_1, eqv_int, dropped, hb]
theorem m_copied (w : Way) (hw : w.ok) (p : Pk) (t : Int) (h : MH) (hp : p.length ≤ 90) :
    g_copied [.d (wD w), .d (pD p), .d (.int t)] h = .ok (.d (pD (copied w p t))) h := by
  obtain ⟨_, s1, s2, _, _, _⟩ := Way.shs hw
  have r1 := fun (L : Lib) (e : Z.Env) hf => idx_run (f := compK L (.pair (.name 8) (.pair (.name 6) (.name 7))) (.cons (.cmp .eq (.var 6) (.var 2)) .nil) (.var 8) [6, 7, 8] e) (h := h) p (fun x => decide (x.1 = t)) (by omega) hf
  have r2 := fun (L : Lib) (e : Z.Env) hf => idx_run (f := compK L (.pair (.name 8) (.pair (.name 6) (.name 7))) (.cons (.cmp .eq (.var 7) (.int 0)) .nil) (.var 8) [6, 7, 8] e) (h := h) p (fun x => decide (x.2 = 0)) (by omega) hf
  have hl3 : lOk (1 + p.length) = true := lOk_of (by omega)
  simp only [g_copied, b_copied, wD, pD]
  rw [runF_def]
  simp
  rw [r1 _ _ (fun x => by
    simp [compK_def, pairD, eD, eqv_int]
    by_cases hx : x.1.1 = t <;> simp [hx])]
  have hA : ¬ (idxs (fun x => decide (x.1 = t)) p ≠ [] ∧ w.again = "stay") → ¬ (idxs (fun x => decide (x.1 = t)) p ≠ [] ∧ w.again = "move") → copied w p t = if (p.length : Int) = w.n then (if w.full = "refuse" ∨ idxs (fun x => decide (x.2 = 0)) p = [] then p else (t, 0) :: cut1 p ((idxs (fun x => decide (x.2 = 0)) p).getLastD 0)) else (t, 0) :: p := fun h1 h2 => by
    unfold copied
    simp only [h1, h2, if_false]
  by_cases hst : idxs (fun x => decide (x.1 = t)) p ≠ [] ∧ w.again = "stay"
  · obtain ⟨f, fs, hpl⟩ := List.exists_cons_of_ne_nil hst.1
    have hsh : sh (.list (PySem.PyData.int (f : Int) :: fs.map fun i : Nat => PySem.PyData.int (i : Int))) = true := sh_ints (f :: fs)
    simp [hpl, hsh, eqv_lst, eqvAll_cn, copied, eqv_str, hst.2]
  · by_cases hmv : idxs (fun x => decide (x.1 = t)) p ≠ [] ∧ w.again = "move"
    · obtain ⟨f, fs, hpl⟩ := List.exists_cons_of_ne_nil hmv.1
      have hsh : sh (.list (PySem.PyData.int (f : Int) :: fs.map fun i : Nat => PySem.PyData.int (i : Int))) = true := sh_ints (f :: fs)
      have hlm : f ∈ idxs (fun x => decide (x.1 = t)) p := by rw [hpl]; exact List.mem_cons_self
      obtain ⟨y, hy, _⟩ := idxs_mem hlm
      have hlt := (List.getElem?_eq_some_iff.mp hy).1
      have hm1 : atI (p.map eD) (f : Int) = some (eD y) := by
        rw [atI_nat _ _ (by simpa using hlt), List.getElem?_map, hy]; rfl
      have hl1 : lOk (1 + min f p.length) = true := lOk_of (by omega)
      have hl2 : lOk (1 + min f p.length + (p.length - (f + 1))) = true := lOk_of (by omega)
      simp (disch := first | assumption | omega | (simp; done) | fail) [hpl, hsh, eqv_lst, eqvAll_cn, copied, eqv_str, hmv.2, hm1, cutD_take, cutD_drop1, cut1, (List.getElem?_eq_some_iff.mp hy).2, hlt]
    · rw [hA hst hmv]
      have e1 : idxs (fun x => decide (x.1 = t)) p = [] ∨ (w.again ≠ "stay" ∧ w.again ≠ "move" ∧ ∃ f fs, idxs (fun x => decide (x.1 = t)) p = f :: fs) := by
        cases hpl : idxs (fun x => decide (x.1 = t)) p with
        | nil => exact .inl rfl
        | cons f fs => exact .inr ⟨fun e => hst ⟨by simp [hpl], e⟩, fun e => hmv ⟨by simp [hpl], e⟩, f, fs, rfl⟩
      by_cases hn : (p.length : Int) = w.n
      · have e2 : idxs (fun x => decide (x.2 = 0)) p = [] ∨ ∃ f fs l, idxs (fun x => decide (x.2 = 0)) p = f :: fs ∧ (f :: fs).getLast? = some l ∧ l < p.length ∧ atI (PySem.PyData.int (f : Int) :: fs.map fun i : Nat => PySem.PyData.int (i : Int)) (-1) = some (.int (l : Int)) ∧ sh (.list (PySem.PyData.int (f : Int) :: fs.map fun i : Nat => PySem.PyData.int (i : Int))) = true := by
          cases hlo : idxs (fun x => decide (x.2 = 0)) p with
          | nil => exact .inl rfl
          | cons f fs =>
            obtain ⟨l, hl⟩ : ∃ l, (f :: fs).getLast? = some l := ⟨_, List.getLast?_eq_some_getLast (by simp)⟩
            have hlm : l ∈ idxs (fun x => decide (x.2 = 0)) p := by rw [hlo]; exact List.mem_of_getLast? hl
            obtain ⟨y, hy, _⟩ := idxs_mem hlm
            have hlt := (List.getElem?_eq_some_iff.mp hy).1
            have ha : atI (PySem.PyData.int (f : Int) :: fs.map fun i : Nat => PySem.PyData.int (i : Int)) (-1) = some (.int (l : Int)) := by
              rw [atI_t]
              have := congrArg (Option.map fun i : Nat => PySem.PyData.int (i : Int)) hl
              rw [← List.getLast?_map] at this
              simpa using this
            exact .inr ⟨f, fs, l, rfl, hl, hlt, ha, sh_ints (f :: fs)⟩
        rcases e1 with e1 | ⟨n1, n2, f, fs, hpl⟩
        · simp [e1, eqv_lst, eqvAll_nil, eqv_int, hn]
          rw [r2 _ _ (fun x => by
            simp [compK_def, pairD, eD, eqv_int]
            by_cases hx : x.1.2 = 0 <;> simp [hx])]
          by_cases hf : w.full = "refuse"
          · simp [hf, eqv_str]
          · rcases e2 with e2 | ⟨g, gs, l, e2, hl, hlt, ha, hsg⟩
            · simp [e2, hf, eqv_str, s2, eqv_lst, eqvAll_nil]
            · simp (disch := first | assumption | omega | (simp; done) | fail) [e2, hf, eqv_str, s2, eqv_lst, eqvAll_cn, hsg, ha, cutD_take, cutD_drop1, hl, cut1, eD]
        · have hsh : sh (.list (PySem.PyData.int (f : Int) :: fs.map fun i : Nat => PySem.PyData.int (i : Int))) = true := sh_ints (f :: fs)
          simp [hpl, hsh, eqv_lst, eqvAll_cn, eqv_int, eqv_str, s1, n1, n2, hn]
          rw [r2 _ _ (fun x => by
            simp [compK_def, pairD, eD, eqv_int]
            by_cases hx : x.1.2 = 0 <;> simp [hx])]
          by_cases hf : w.full = "refuse"
          · simp [hf, eqv_str]
          · rcases e2 with e2 | ⟨g, gs, l, e2, hl, hlt, ha, hsg⟩
            · simp [e2, hf, eqv_str, s2, eqv_lst, eqvAll_nil]
            · simp (disch := first | assumption | omega | (simp; done) | fail) [e2, hf, eqv_str, s2, eqv_lst, eqvAll_cn, hsg, ha, cutD_take, cutD_drop1, hl, cut1, eD]
      · rcases e1 with e1 | ⟨n1, n2, f, fs, hpl⟩
        · simp [e1, eqv_lst, eqvAll_nil, eqv_int, hn, hl3, eD]
        · have hsh : sh (.list (PySem.PyData.int (f : Int) :: fs.map fun i : Nat => PySem.PyData.int (i : Int))) = true := sh_ints (f :: fs)
          simp [hpl, hsh, eqv_lst, eqvAll_cn, eqv_int, eqv_str, s1, n1, n2, hn, hl3, eD]
theorem m_pasted (w : Way) (hw : w.ok) (p : Pk) (h : MH) (hp : p.length ≤ 90) (hne : p ≠ []) : g_pasted [.d (wD w), .d (pD p)] h = .ok (.d (pD (pasted w p))) h := by
  obtain ⟨s0, _⟩ := Way.shs hw
  have hd := m_dropped p h hne
  simp only [pD] at hd
  by_cases hr : w.kind = "ring"
  · simp (disch := first | assumption | omega | (simp; done) | fail) [g_pasted, runF_def, b_pasted, pD, wD, eqv_str, hr, pasted]
  · by_cases hs : w.kind = "stack"
    · simp (disch := first | assumption | omega | (simp; done) | fail) [g_pasted, runF_def, b_pasted, pD, wD, eqv_str, hs, pasted, hd]
    · simp (disch := first | assumption | omega | (simp; done) | fail) [g_pasted, runF_def, b_pasted, pD, wD, eqv_str, hr, hs, pasted, s0]
end Tx

set_option Elab.async false
set_option linter.all false
set_option autoImplicit false
set_option maxRecDepth 100000
set_option maxHeartbeats 4000000
/-! Q3: steps, states. -/
namespace Tx
open L2 Z Pl
theorem m_changed (w : Way) (hw : w.ok) (p : Pk) (k : Str) (hk : k = "next" ∨ k = "drop" ∨ k = "pin" ∨ k = "empty") (h : MH) (hp : p.length ≤ 90) (hne : p ≠ []) :
    g_changed [.d (wD w), .d (pD p), .d (.str k)] h = .ok (.d (pD (changed w p k))) h := by
  obtain ⟨_, _, _, s4, s5, s6⟩ := Way.shs hw
  have hd := m_dropped p h hne
  simp only [pD] at hd
  have hpos := List.length_pos_iff.mpr hne
  rcases hk with rfl | rfl | rfl | rfl
  · by_cases ht : w.turn = "down" <;> simp (disch := first | assumption | omega | (simp; done) | fail) [g_changed, runF_def, b_changed, pD, wD, eqv_str, ht, changed]
  · simp (disch := first | assumption | omega | (simp; done) | fail) [g_changed, runF_def, b_changed, pD, wD, eqv_str, changed, hd]
  · obtain ⟨⟨a, b⟩, q, rfl⟩ := List.exists_cons_of_ne_nil hne
    simp only [List.length_cons] at hp
    by_cases ht : w.pin = "stays" <;> simp (disch := first | assumption | omega | (simp; done) | fail) [g_changed, runF_def, b_changed, pD, wD, eqv_str, ht, changed, eD]
  · by_cases ht : w.wipe = "all"
    · simp (disch := first | assumption | omega | (simp; done) | fail) [g_changed, runF_def, b_changed, pD, wD, eqv_str, ht, changed]
    · have r1 := fun (L : Lib) (e : Z.Env) hf => compRun_pure (compK L (.name 5) (.cons (.cmp .eq (.ix (.var 5) (.int 1)) (.int 1)) .nil) (.var 5) [5] e) h eD (fun x => if x.2 = 1 then some (eD x) else none) p [] hf (by simp; omega)
      simp (disch := first | assumption | omega | (simp; done) | fail) [g_changed, runF_def, b_changed, pD, wD, eqv_str, ht, changed]
      rw [r1 _ _ (fun x _ => by
        simp [compK_def, eD, eqv_int]
        by_cases hx : x.2 = 1 <;> simp [hx])]
      simp
      have hm : ∀ q : Pk, q.filterMap (fun x => if x.2 = 1 then some (eD x) else none) = (q.filter fun x => decide (x.2 = 1)).map eD := fun q => by
        induction q with
        | nil => rfl
        | cons x q ih => by_cases hx : x.2 = 1 <;> simp [hx, ih]
      exact hm p
theorem m_step (w : Way) (hw : w.ok) (s : Sta) (d : Deed) (size : Int) (hd : d.ok size) (h : MH) (hp : s.1.length ≤ 90) : g_step [.d (wD w), .d (sD s), .d (dD d)] h = .ok (.d (sD (step w s d))) h := by
  obtain ⟨p, t⟩ := s
  simp only at hp
  cases d with
  | copy t2 =>
    have hc := m_copied w hw p t2 h hp
    simp [g_step, runF_def, b_step, sD, dD, eqv_str, hc, step]
  | act k =>
    by_cases hne : p = []
    · subst hne
      rcases hd with rfl | rfl | rfl | rfl | rfl <;> simp [g_step, runF_def, b_step, sD, dD, eqv_str, step, pD, eqv_tup, eqvAll_nil]
    · have hpp := m_pasted w hw p h hp hne
      obtain ⟨⟨a, b⟩, q, rfl⟩ := List.exists_cons_of_ne_nil hne
      have hsh : sh (pD ((a, b) :: q)) = true := sh_of (sh_pD _) (by decide)
      have he : PySem.PyData.eqv (pD ((a, b) :: q)) (.tuple []) = false := by simp [pD, eqv_tup, eqvAll_cn]
      have hi : ixD (pD ((a, b) :: q)) (.int 0) = some (eD (a, b)) := by simp [pD]
      rcases hd with rfl | hd
      · simp [g_step, runF_def, b_step, sD, dD, eqv_str, step, hsh, he, hpp, hi, eD]
      · have hc := m_changed w hw ((a, b) :: q) k hd h hp hne
        have hs : sh (.str k) = true := by rcases hd with rfl | rfl | rfl | rfl <;> simp
        have hk : k ≠ "copy" ∧ k ≠ "paste" := by rcases hd with rfl | rfl | rfl | rfl <;> simp
        simp [g_step, runF_def, b_step, sD, dD, eqv_str, step, hsh, he, hc, hs, hk.1, hk.2]
end Tx

set_option Elab.async false
set_option linter.all false
set_option autoImplicit false
set_option maxRecDepth 100000
set_option maxHeartbeats 4000000
/-! Q4: rows, checks. -/
namespace Tx
open L2 Z Pl
theorem m_is_int (v a b : Int) (h : MH) : g_is_int [.d (.int v), .d (.int a), .d (.int b)] h = .ok (.d (.bool (decide (a ≤ v ∧ v ≤ b)))) h := by
  by_cases h1 : a ≤ v <;> simp [g_is_int, runF_def, b_is_int, h1]
theorem m_check_number (v a b : Int) (h : MH) (h1 : a ≤ v) (h2 : v ≤ b) : g_check_number [.d (.int v), .d (.int a), .d (.int b)] h = .ok (.d .none) h := by
  simp [g_check_number, runF_def, b_check_number, m_is_int, h1, h2]
theorem m_check_size (v : Int) (h : MH) (h1 : 2 ≤ v) (h2 : v ≤ 3) : g_check_size [.d (.int v)] h = .ok (.d .none) h := by
  simp [g_check_size, runF_def, b_check_size, m_check_number v 2 3 h h1 h2]
theorem sh_kinds : sh c_KINDS.2 = true := by decide +kernel
theorem m_is_one (size : Int) (d : Deed) (hd : d.ok size) (h : MH) : g_is_one [.d (.int size), .d (dD d)] h = .ok (.d (.bool true)) h := by
  have hk := sh_kinds
  simp only [c_KINDS] at hk
  have h12 : sh (.tuple [.int 1, .int 2]) = true := sh_e 1 2
  cases d with
  | copy t =>
    obtain ⟨h1, h2⟩ := hd
    have hm := m_is_int t 0 (size - 1) h
    simp [g_is_one, runF_def, b_is_one, dD, hk, h12, inD, eqv_int, eqv_str, eqv_bool, c_KINDS, hm, h1]
    omega
  | act k =>
    rcases hd with rfl | rfl | rfl | rfl | rfl <;> simp [g_is_one, runF_def, b_is_one, dD, hk, h12, inD, eqv_int, eqv_str, eqv_bool, c_KINDS]
theorem bools_true {α : Type} (l : List α) : boolsOf (l.map fun _ => PySem.PyData.bool true) = some (l.map fun _ => true) := by
  induction l with
  | nil => rfl
  | cons a l ih => simp [boolsOf, ih]
theorem m_are_deeds (size : Int) (row : List Deed) (hr : ∀ d ∈ row, d.ok size) (hl : row.length ≤ 40) (h : MH) : g_are_deeds [.d (.int size), .d (.list (row.map dD))] h = .ok (.d (.bool true)) h := by
  have r1 := fun (L : Lib) (e : Z.Env) hf => compRun_pure (compK L (.name 2) .nil (.call 0 (.cons (.var 0) (.cons (.var 2) .nil))) [2] e) h dD (fun _ => some (.bool true)) row [] hf (by simp; omega)
  simp [g_are_deeds, runF_def, b_are_deeds, c_MOST_ROW]
  rw [if_pos (by omega)]
  rw [r1 _ _ (fun x hx => by
    simp [compK_def, m_is_one size x (hr x hx)])]
  simp [bools_true]
theorem m_check_row (size : Int) (row : List Deed) (hr : ∀ d ∈ row, d.ok size) (hl : row.length ≤ 40) (h : MH) : g_check_row [.d (.int size), .d (.list (row.map dD))] h = .ok (.d .none) h := by
  simp [g_check_row, runF_def, b_check_row, m_are_deeds size row hr hl h]
theorem m_is_word (x : Str) (ws : List Str) (hx : x ∈ ws) (h1 : sh (.str x) = true) (h2 : sh (.tuple (ws.map .str)) = true) (h : MH) : g_is_word [.d (.str x), .d (.tuple (ws.map .str))] h = .ok (.d (.bool true)) h := by
  have : inD (.str x) (ws.map .str) = true := by
    simp [inD]
    exact ⟨x, hx, by simp [eqv_str]⟩
  simp [g_is_word, runF_def, b_is_word, h1, h2, this]
theorem m_is_way (w : Way) (hw : w.ok) (h : MH) : g_is_way [.d (wD w)] h = .ok (.d (.bool true)) h := by
  obtain ⟨s1, s2, s3, s4, s5, s6⟩ := Way.shs hw
  have w1 := m_is_word w.kind ["ring", "stack", "keep"] (by rcases hw.kind with e | e | e <;> simp [e]) s1 (by decide +kernel) h
  have w2 := m_is_word w.again ["move", "twice", "stay"] (by rcases hw.again with e | e | e <;> simp [e]) s2 (by decide +kernel) h
  have w3 := m_is_word w.full ["lowest", "refuse"] (by rcases hw.full with e | e <;> simp [e]) s3 (by decide +kernel) h
  have w4 := m_is_word w.turn ["down", "up"] (by rcases hw.turn with e | e <;> simp [e]) s4 (by decide +kernel) h
  have w5 := m_is_word w.pin ["stays", "none"] (by rcases hw.pin with e | e <;> simp [e]) s5 (by decide +kernel) h
  have w6 := m_is_word w.wipe ["all", "loose"] (by rcases hw.wipe with e | e <;> simp [e]) s6 (by decide +kernel) h
  have w7 := m_is_int w.n 1 3 h
  simp only [List.map_cons, List.map_nil] at w1 w2 w3 w4 w5 w6
  simp [g_is_way, runF_def, b_is_way, wD, eqv_int, c_KINDS_OF, c_AGAINS, c_FULLS, c_TURNS, c_PINS, c_WIPES, w1, w2, w3, w4, w5, w6, w7, hw.n1, hw.n3]
theorem m_check_way (w : Way) (hw : w.ok) (h : MH) : g_check_way [.d (wD w)] h = .ok (.d .none) h := by
  simp [g_check_way, runF_def, b_check_way, m_is_way w hw h]
theorem cut1_len {p : Pk} {i : Nat} (h : i < p.length) : (cut1 p i).length = p.length - 1 := by
  unfold cut1
  simp
  omega
theorem copied_len (w : Way) (p : Pk) (t : Int) (hp : (p.length : Int) ≤ w.n) : ((copied w p t).length : Int) ≤ w.n := by
  unfold copied
  simp only
  split
  · exact hp
  · split
    · rename_i h1 h2
      obtain ⟨f, fs, hpl⟩ := List.exists_cons_of_ne_nil h2.1
      have hlm : f ∈ idxs (fun x => decide (x.1 = t)) p := by rw [hpl]; exact List.mem_cons_self
      obtain ⟨y, hy, _⟩ := idxs_mem hlm
      have hlt := (List.getElem?_eq_some_iff.mp hy).1
      rw [hpl]
      simp only [List.headD_cons, List.length_cons, cut1_len hlt]
      omega
    · split
      · split
        · exact hp
        · rename_i h1
          have hne : idxs (fun x => decide (x.2 = 0)) p ≠ [] := fun e => h1 (.inr e)
          have hlm : (idxs (fun x => decide (x.2 = 0)) p).getLastD 0 ∈ idxs (fun x => decide (x.2 = 0)) p := by
            rw [List.getLastD_eq_getLast?, List.getLast?_eq_some_getLast hne]
            exact List.getLast_mem hne
          obtain ⟨y, hy, _⟩ := idxs_mem hlm
          have hlt := (List.getElem?_eq_some_iff.mp hy).1
          simp only [List.length_cons, cut1_len hlt]
          omega
      · simp only [List.length_cons]
        omega
theorem dropped_len (p : Pk) : (dropped p).length ≤ p.length := by
  unfold dropped
  split
  · omega
  · simp
theorem step_len (w : Way) (s : Sta) (d : Deed) (hp : (s.1.length : Int) ≤ w.n) : ((step w s d).1.length : Int) ≤ w.n := by
  have hd := dropped_len s.1
  cases d with
  | copy t => exact copied_len w s.1 t hp
  | act k =>
    simp only [step]
    by_cases hne : s.1 = []
    · rw [if_pos hne]; exact hp
    · rw [if_neg hne]
      have hpos := List.length_pos_iff.mpr hne
      split
      · simp only [pasted]
        split
        · simp; omega
        · split <;> omega
      · simp only [changed]
        split
        · split
          · simp; omega
          · simp; omega
        · split
          · omega
          · split
            · split
              · simp; omega
              · exact hp
            · split
              · simp; omega
              · have := List.length_filter_le (fun x : En => decide (x.2 = 1)) s.1
                omega
/-- the states behind the first -/
def runs (w : Way) : Sta → List Deed → List Sta
  | _, [] => []
  | s, d :: ds => step w s d :: runs w (step w s d) ds
theorem states_runs (w : Way) (s : Sta) (ds : List Deed) : states w s ds = s :: runs w s ds := by
  induction ds generalizing s with
  | nil => rfl
  | cons d ds ih => simp [states, runs, ih]
theorem for_states (w : Way) (hw : w.ok) (size : Int) (row0 : D) : ∀ (ds : List Deed) (ss : List Sta) (s : Sta) (x : Option Val), (∀ d ∈ ds, d.ok size) → (s.1.length : Int) ≤ w.n → ss.getLast? = some s → ss.length + ds.length ≤ 10000 →
    ∃ y, forRun (.name 4) (execs ⟨[g_step], [c_START.2], 0⟩ (.cons (.expr (.mst .append (.var 3) (.cons (.call 0 (.cons (.var 0) (.cons (.ix (.var 3) (.neg (.int 1))) (.cons (.var 4) .nil)))) .nil))) .nil)) (ds.map dD) [some (.d (wD w)), some (.d (.int size)), some (.d row0), some (.ref 0), x] [.lst ((ss.map sD).map .d)]
      = .next [some (.d (wD w)), some (.d (.int size)), some (.d row0), some (.ref 0), y] [.lst (((ss ++ runs w s ds).map sD).map .d)]
  | [], ss, s, x, _, _, _, _ => ⟨x, by simp [forRun_nil, runs]⟩
  | d :: ds, ss, s, x, hd, hs, hlast, hl => by
    simp only [List.length_cons] at hl
    have h1 := m_step w hw s d size (hd d (by simp)) [.lst ((ss.map sD).map .d)] (by have := hw.n3; omega)
    have h2 := step_len w s d hs
    obtain ⟨y, ih⟩ := for_states w hw size row0 ds (ss ++ [step w s d]) (step w s d) (some (.d (dD d))) (fun x hx => hd x (by simp [hx])) h2 (by simp) (by simp; omega)
    refine ⟨y, ?_⟩
    have hne : (ss.map sD).map Val.d ≠ [] := by
      intro e
      simp at e
      rw [e] at hlast
      cases hlast
    have ha : atI ((ss.map sD).map Val.d) (-1) = some (.d (sD s)) := by
      rw [atI_last _ hne, List.getLast?_map, List.getLast?_map, hlast]; rfl
    have hls : ((ss.map sD).map Val.d).length < PySem.sizeLine := by simp [PySem.sizeLine]; omega
    have hap : (ss ++ runs w s (d :: ds)) = (ss ++ [step w s d]) ++ runs w (step w s d) ds := by simp [runs]
    rw [hap, ← ih]
    simp only [List.map_cons, forRun_cons]
    simp only [List.map_map] at ha h1 hls
    simp [ha, h1, appC_lst _ _ _ _ hls]
theorem m_states_of (w : Way) (hw : w.ok) (size : Int) (row : List Deed) (hr : ∀ d ∈ row, d.ok size) (hl : row.length ≤ 1000) (h : MH) :
    g_states_of [.d (wD w), .d (.int size), .d (.list (row.map dD))] h = .ok (.d (.list ((states w Pl.start row).map sD))) h := by
  obtain ⟨y, hy⟩ := for_states w hw size (.list (row.map dD)) row [Pl.start] Pl.start none hr (by have := hw.n1; simp [Pl.start]; omega) rfl (by simp; omega)
  have e0 : c_START.2 = sD Pl.start := rfl
  refine pureF_ok (ds := [wD w, .int size, .list (row.map dD)]) (h1 := [.lst ((([Pl.start] ++ runs w Pl.start row).map sD).map .d)]) (v := .ref 0) rfl ?_ ?_
  · rw [runF_def]
    simp only [e0] at hy ⊢
    simp only [List.map_cons, List.map_nil] at hy
    simp [b_states_of, hy]
  · rw [frz_ref]
    simp only [Nat.le_refl, if_true]
    show frzC 0 (some _) _ _ = _
    rw [frzC_lst, states_runs]
    rfl
def told (w : Way) (row : List Deed) : List Int := (states w Pl.start row).filterMap fun s => if s.2 = -1 then none else some s.2
theorem states_length (w : Way) (s : Sta) (row : List Deed) : (states w s row).length = row.length + 1 := by
  induction row generalizing s with
  | nil => rfl
  | cons d ds ih => simp [states, ih]
end Tx

set_option Elab.async false
set_option linter.all false
set_option autoImplicit false
set_option maxRecDepth 100000
set_option maxHeartbeats 4000000
namespace Tx
open L2 Z Pl
end Tx

set_option Elab.async false
set_option linter.all false
set_option autoImplicit false
set_option maxRecDepth 100000
set_option maxHeartbeats 4000000
/-! Q5: the law's own draws: way, row. -/
namespace Tx
open L2 Z Pl
theorem cmpV_scr (h : MH) (ns : List Int) : cmpV h .ne (.scr ns) (.d (.list [])) = some (!ns.isEmpty) := rfl
theorem m_start (ns : List Int) : ∃ ms, ms ≠ [] ∧ g_law_start [.scr ns] [] = .ok (.ref 1) (dh ms 0 []) := by
  cases ns with
  | nil => exact ⟨[0], by simp, by simp [g_law_start, runF_def, b_law_start, cmpV_scr, dh]⟩
  | cons a l => exact ⟨a :: l, by simp, by simp [g_law_start, runF_def, b_law_start, cmpV_scr, dh, Function.comp_def]⟩
theorem cutF_ok {g : FnS} {args : List Val} {h h1 h2 : MH} {v : Val} {d : D} (hg : g args h = .ok v h1) (hf : frz h.length h1 6 v = some d) (hb : (h1.take h.length).all (cellBelow h.length) = true) (hl : h.length ≤ h1.length) (h2e : h1.take h.length = h2) : cutF g args h = .ok (.d d) h2 := by
  unfold cutF
  rw [hg]
  simp only [hf, hb, Bool.true_and]
  rw [if_pos (decide_eq_true hl), h2e]
def DrH (r : MH) (h : MH) : Prop := ∃ ns k, ns ≠ [] ∧ h = dh ns k r
def wordsD : List D := [.list [.str "ring", .str "stack", .str "keep"], .list [.int 1, .int 2, .int 3], .list [.str "move", .str "twice", .str "stay"], .list [.str "lowest", .str "refuse"], .list [.str "down", .str "up"], .list [.str "stays", .str "none"], .list [.str "all", .str "loose"]]
theorem m_words (h : MH) : g_law_words [] h = .ok (.d (.list wordsD)) h := by
  simp [g_law_words, runF_def, b_law_words, wordsD]
theorem pick_R (ns : List Int) (hn : ns ≠ []) (k : Int) (r : MH) (ds : List D) (h0 : ds ≠ []) (h1 : ds.length < 1073741824) : ∃ d h', d ∈ ds ∧ DrH r h' ∧ g_law_pick [.ref 1, .d (.list ds)] (dh ns k r) = .ok (.d d) h' := by
  obtain ⟨d, ns', k', h2, h3, h4⟩ := m_pick hn k r h0 h1
  exact ⟨d, _, h2, ⟨ns', k', h3, rfl⟩, h4⟩
theorem bltV_tuple_ref (h : MH) (n : Nat) : bltV h .tuple [.ref n] = (datC h[n]?).bind fun x => (bltD .tuple [x]).map Val.d := by
  show (asDs h [.ref n]).bind (fun ds => (bltD .tuple ds).map Val.d) = _
  simp [asDs]
  cases datC h[n]? <;> rfl
theorem m_way (ns : List Int) (hn : ns ≠ []) (k : Int) : ∃ (w : Way) (h' : MH), w.ok ∧ DrH [] h' ∧ g_law_way [.ref 1] (dh ns k []) = .ok (.d (wD w)) h' := by
  have r1 := compRun_ex (f := compK ⟨[g_law_words, g_law_pick], [], 0⟩ (.name 2) .nil (.call 1 (.cons (.var 0) (.cons (.var 2) .nil))) [2] [some (.ref 1), none, none]) (P := DrH []) (R := fun x y => ∃ ds, x = .list ds ∧ y ∈ ds) wordsD [] (dh ns k []) (by
      intro x hx h ⟨ns, k, hn, e⟩
      subst e
      have hx' : ∃ ds, x = .list ds ∧ ds ≠ [] ∧ ds.length < 1073741824 := by
        simp [wordsD] at hx
        rcases hx with rfl | rfl | rfl | rfl | rfl | rfl | rfl <;> exact ⟨_, rfl, by simp, by simp⟩
      obtain ⟨ds, rfl, h0, h1⟩ := hx'
      obtain ⟨d, h', h2, h3, h4⟩ := pick_R ns hn k [] ds h0 h1
      exact ⟨d, h', by simp [compK_def, h4], ⟨ds, rfl, h2⟩, h3⟩) ⟨ns, k, hn, rfl⟩ (by simp [wordsD])
  obtain ⟨ys, h', e1, pr, ⟨ns1, k1, hn1, rfl⟩⟩ := r1
  have hy : ∃ y0 y1 y2 y3 y4 y5 y6, ys = [y0, y1, y2, y3, y4, y5, y6] ∧ (∃ a, y0 = .str a ∧ (a = "ring" ∨ a = "stack" ∨ a = "keep")) ∧ (∃ a, y2 = .str a ∧ (a = "move" ∨ a = "twice" ∨ a = "stay")) ∧ (∃ a, y3 = .str a ∧ (a = "lowest" ∨ a = "refuse")) ∧ (∃ a, y4 = .str a ∧ (a = "down" ∨ a = "up")) ∧ (∃ a, y5 = .str a ∧ (a = "stays" ∨ a = "none")) ∧ (∃ a, y6 = .str a ∧ (a = "all" ∨ a = "loose")) := by
    unfold wordsD at pr
    cases pr with | cons p0 pr => cases pr with | cons p1 pr => cases pr with | cons p2 pr => cases pr with | cons p3 pr => cases pr with | cons p4 pr => cases pr with | cons p5 pr => cases pr with | cons p6 pr => cases pr with | nil =>
    obtain ⟨d0, e0, m0⟩ := p0
    obtain ⟨d2, e2, m2⟩ := p2
    obtain ⟨d3, e3, m3⟩ := p3
    obtain ⟨d4, e4, m4⟩ := p4
    obtain ⟨d5, e5, m5⟩ := p5
    obtain ⟨d6, e6, m6⟩ := p6
    cases e0; cases e2; cases e3; cases e4; cases e5; cases e6
    simp at m0 m2 m3 m4 m5 m6
    refine ⟨_, _, _, _, _, _, _, rfl, ?_, ?_, ?_, ?_, ?_, ?_⟩
    · rcases m0 with h | h | h <;> subst h <;> exact ⟨_, rfl, by simp⟩
    · rcases m2 with h | h | h <;> subst h <;> exact ⟨_, rfl, by simp⟩
    · rcases m3 with h | h <;> subst h <;> exact ⟨_, rfl, by simp⟩
    · rcases m4 with h | h <;> subst h <;> exact ⟨_, rfl, by simp⟩
    · rcases m5 with h | h <;> subst h <;> exact ⟨_, rfl, by simp⟩
    · rcases m6 with h | h <;> subst h <;> exact ⟨_, rfl, by simp⟩
  obtain ⟨y0, y1, y2, y3, y4, y5, y6, rfl, ⟨a0, rfl, q0⟩, ⟨a2, rfl, q2⟩, ⟨a3, rfl, q3⟩, ⟨a4, rfl, q4⟩, ⟨a5, rfl, q5⟩, ⟨a6, rfl, q6⟩⟩ := hy
  simp only [List.nil_append] at e1
  obtain ⟨d, h2, hd, ⟨ns2, k2, hn2, rfl⟩, e2⟩ := pick_R ns1 hn1 k1 [.lst ([PySem.PyData.str a0, y1, .str a2, .str a3, .str a4, .str a5, .str a6].map .d)] [.int 1, .int 2, .int 2, .int 3, .int 3] (by simp) (by simp)
  have hd' : ∃ i : Int, d = .int i ∧ 1 ≤ i ∧ i ≤ 3 := by
    simp at hd
    rcases hd with h | h | h <;> subst h <;> exact ⟨_, rfl, by omega, by omega⟩
  obtain ⟨i, rfl, hi1, hi3⟩ := hd'
  refine ⟨⟨a0, i, a2, a3, a4, a5, a6⟩, dh ns2 k2 [], ⟨q0, hi1, hi3, q2, q3, q4, q5, q6⟩, ⟨ns2, k2, hn2, rfl⟩, ?_⟩
  refine cutF_ok (h1 := dh ns2 k2 [.lst ([PySem.PyData.str a0, .int i, .str a2, .str a3, .str a4, .str a5, .str a6].map .d)]) (v := .d (wD ⟨a0, i, a2, a3, a4, a5, a6⟩)) ?_ (frz_d _ _ _ _) ?_ (by simp [dh]) (by simp [dh])
  · have hl : (dh ns1 k1 []).length = 2 := rfl
    have hx : ∀ c : Cell, dh ns1 k1 [] ++ [c] = dh ns1 k1 [c] := fun c => rfl
    have h7 : L2.ixN 7 1 = some 1 := rfl
    have hg : ∀ c : Cell, (dh ns2 k2 [c])[2]? = some c := fun c => rfl
    have hs : ∀ c d : Cell, (dh ns2 k2 [c]).set 2 d = dh ns2 k2 [d] := fun c d => rfl
    simp only [List.map_cons, List.map_nil] at e2
    simp [runF_def, b_law_way, m_words, e1, hl, hx, e2, hg, hs, subC_lst, h7, bltV_tuple_ref, wD]
  · simp [dh, cellBelow, valBelow]
def deedsOf (size : Nat) : List Deed := (List.range size).map (fun t : Nat => .copy t) ++ [.act "paste", .act "next", .act "drop", .act "pin", .act "empty"]
def oftenOf (size : Nat) : List Deed := (List.range size).map (fun t : Nat => .copy t) ++ (List.range size).map (fun t : Nat => .copy t) ++ [.act "paste", .act "paste", .act "pin"]
theorem deeds_ok (size : Nat) : ∀ d ∈ deedsOf size ++ oftenOf size, d.ok size := by
  intro d hd
  simp [deedsOf, oftenOf] at hd
  rcases hd with ⟨a, ha, rfl⟩ | rfl | rfl | rfl | rfl | rfl | ⟨a, ha, rfl⟩ | ⟨a, ha, rfl⟩ | rfl | rfl <;> first | (constructor <;> omega) | (simp [Deed.ok, isAct])
theorem m_deeds (size : Nat) (hs : size = 2 ∨ size = 3) (h : MH) : g_law_deeds [.d (.int size)] h = .ok (.d (.list ((deedsOf size).map dD))) h := by
  rcases hs with rfl | rfl <;> rfl
theorem rangeD_len (i : Int) : (rangeD 0 i).length = i.toNat := by simp [rangeD]
theorem rgOk_of {i : Int} (h0 : -1000 ≤ i) (h1 : i ≤ 1000) : rgOk i = true := by
  unfold rgOk
  simp
  omega
theorem mul_list (xs : List D) (k : Nat) (hk : k ≤ 1000) (hl : xs.length * k ≤ 16777216) : binD .mul (.list xs) (.int k) = some (.list (List.replicate k xs).flatten) := by
  have h1 : (-9223372036854775808 : Int) ≤ (k : Int) := by omega
  have h2 : (k : Int) < 9223372036854775808 := by omega
  have h3 : lOk (xs.length * (k : Int).toNat) = true := lOk_of (by simpa using hl)
  have h4 : lOk (xs.length * k) = true := by simpa using h3
  simp [binD, h1, h2, h4]
theorem rows_of {R : D → D → Prop} {size : Int} (hR : ∀ x y, R x y → ∃ d : Deed, d.ok size ∧ y = dD d) : ∀ {xs ys : List D}, PySem.Paired R xs ys → ∃ row : List Deed, ys = row.map dD ∧ row.length = xs.length ∧ ∀ d ∈ row, d.ok size
  | _, _, .nil => ⟨[], rfl, rfl, by simp⟩
  | _, _, .cons r t => by
    obtain ⟨d, h1, rfl⟩ := hR _ _ r
    obtain ⟨row, rfl, h2, h3⟩ := rows_of hR t
    exact ⟨d :: row, rfl, by simp [h2], by simpa using ⟨h1, h3⟩⟩
end Tx

set_option Elab.async false
set_option linter.all false
set_option autoImplicit false
set_option maxRecDepth 100000
set_option maxHeartbeats 4000000
/-! Q6: the law's row. -/
namespace Tx
open L2 Z Pl
theorem row_step {r : MH} (size : Nat) (hs : size = 2 ∨ size = 3) (lo : Val) (h : MH) (hD : DrH r h) (x : D) : ∃ y h', compK ⟨[g_law_draw, g_law_pick, g_law_deeds], [], 0⟩ (.name 4) .nil (.call 1 (.cons (.var 0) (.cons (.bin .add (.call 2 (.cons (.var 1) .nil)) (.var 3)) .nil))) [4] [some (.ref 1), some (.d (.int size)), some lo, some (.d (.list ((oftenOf size).map dD))), none, none] x h = .ok (some y) h' ∧ (∃ d : Deed, d.ok size ∧ y = dD d) ∧ DrH r h' := by
  obtain ⟨ns, k, hn, e2⟩ := hD
  subst e2
  obtain ⟨d, h', q1, q2, q3⟩ := pick_R ns hn k r ((deedsOf size).map dD ++ (oftenOf size).map dD) (by simp [deedsOf]) (by simp [deedsOf, oftenOf]; omega)
  rw [← List.map_append] at q1
  obtain ⟨d', hd', rfl⟩ := List.mem_map.mp q1
  refine ⟨dD d', h', ?_, ⟨d', deeds_ok size d' hd', rfl⟩, q2⟩
  have hlk : lOk ((deedsOf size).length + (oftenOf size).length) = true := lOk_of (by simp [deedsOf, oftenOf]; omega)
  have q3' : ∀ h2, g_law_pick [.ref 1, .d (.list ((deedsOf size).map dD ++ (oftenOf size).map dD))] (dh ns k r) = h2 → h2 = .ok (.d (dD d')) h' := fun h2 e => by rw [← e, q3]
  simp -implicitDefEqProofs [compK_def, m_deeds size hs, hlk, q3]
theorem copies_run (L : Lib) (e : Z.Env) (h : MH) (size : Nat) (hs : size ≤ 3) (h6 : e.length = 6) : compRun (compK L (.name 5) .nil (.tup (.cons (.str "copy") (.cons (.var 5) .nil))) [5] e) (rangeD 0 size) h [] = .ok ((List.range size).map fun t : Nat => dD (.copy t)) h := by
  have := compRun_pure (compK L (.name 5) .nil (.tup (.cons (.str "copy") (.cons (.var 5) .nil))) [5] e) h (fun t : Nat => PySem.PyData.int (0 + (t : Int))) (fun t => some (dD (.copy t))) (List.range size) [] (fun x _ => by simp [compK_def, h6, dD]) (by simp; omega)
  unfold rangeD
  simpa using this
theorem often_eq (size : Nat) : (oftenOf size).map dD = ((List.replicate 2 ((List.range size).map fun t : Nat => dD (.copy t))).flatten ++ [dD (.act "paste"), dD (.act "paste"), dD (.act "pin")]) := by
  simp [oftenOf, List.replicate, Function.comp_def]
end Tx

set_option Elab.async false
set_option linter.all false
set_option autoImplicit false
set_option maxRecDepth 100000
set_option maxHeartbeats 4000000
/-! Q7: renaming, in plain Lean. -/
namespace Pl
open L2 Z
theorem idxs_map (f : En → En) (c : En → Bool) (p : Pk) : idxs c (p.map f) = idxs (fun x => c (f x)) p := by
  unfold idxs
  rw [List.zipIdx_map, List.filterMap_map]
  rfl
theorem filterMap_cg {α β : Type} {f g : α → Option β} : ∀ {l : List α}, (∀ x ∈ l, f x = g x) → l.filterMap f = l.filterMap g
  | [], _ => rfl
  | a :: l, h => by
    rw [List.filterMap_cons, List.filterMap_cons, h a (by simp), filterMap_cg fun x hx => h x (by simp [hx])]
theorem idxs_congr {c d : En → Bool} {p : Pk} (h : ∀ x ∈ p, c x = d x) : idxs c p = idxs d p := by
  unfold idxs
  apply filterMap_cg
  intro x hx
  obtain ⟨a, b⟩ := x
  have hm := List.mem_zipIdx_iff_getElem?.mp hx
  rw [h a (List.mem_of_getElem? hm)]
theorem cut1_map (f : En → En) (p : Pk) (i : Nat) : cut1 (p.map f) i = (cut1 p i).map f := by
  unfold cut1
  simp [List.map_take, List.map_drop]
theorem cut1_mem {p : Pk} {i : Nat} {x : En} (h : x ∈ cut1 p i) : x ∈ p := by
  unfold cut1 at h
  rcases List.mem_append.mp h with h | h
  · exact List.mem_of_mem_take h
  · exact List.mem_of_mem_drop h
structure Ren (size : Int) (r : Int → Int) : Prop where
  rng : ∀ t, 0 ≤ t → t < size → 0 ≤ r t ∧ r t < size
  inj : ∀ t u, 0 ≤ t → t < size → 0 ≤ u → u < size → r t = r u → t = u
def renE (r : Int → Int) (x : En) : En := (r x.1, x.2)
def renS (r : Int → Int) (s : Sta) : Sta := (s.1.map (renE r), if 0 ≤ s.2 then r s.2 else -1)
def renD (r : Int → Int) : Deed → Deed
  | .copy t => .copy (r t)
  | .act k => .act k
def goodP (size : Int) (p : Pk) : Prop := ∀ x ∈ p, 0 ≤ x.1 ∧ x.1 < size
def goodS (size : Int) (s : Sta) : Prop := goodP size s.1 ∧ (s.2 = -1 ∨ (0 ≤ s.2 ∧ s.2 < size))
section
variable {size : Int} {r : Int → Int} {w : Way}
theorem copied_good {p : Pk} {t : Int} (hp : goodP size p) (h0 : 0 ≤ t) (h1 : t < size) : goodP size (copied w p t) := by
  unfold copied
  simp only
  split
  · exact hp
  · split
    · rename_i h2 h3
      obtain ⟨f, fs, hpl⟩ := List.exists_cons_of_ne_nil h3.1
      have hlm : f ∈ idxs (fun x => decide (x.1 = t)) p := by rw [hpl]; exact List.mem_cons_self
      obtain ⟨y, hy, _⟩ := idxs_mem hlm
      intro x hx
      rw [hpl] at hx
      simp only [List.headD_cons, List.mem_cons] at hx
      rcases hx with rfl | hx
      · rw [List.getD_eq_getElem?_getD, hy]; exact hp y (List.mem_of_getElem? hy)
      · exact hp x (cut1_mem hx)
    · split
      · split
        · exact hp
        · intro x hx
          rcases List.mem_cons.mp hx with rfl | hx
          · exact ⟨h0, h1⟩
          · exact hp x (cut1_mem hx)
      · intro x hx
        rcases List.mem_cons.mp hx with rfl | hx
        · exact ⟨h0, h1⟩
        · exact hp x hx
theorem dropped_good {p : Pk} (hp : goodP size p) : goodP size (dropped p) := by
  unfold dropped
  split
  · exact hp
  · exact fun x hx => hp x (List.mem_of_mem_drop hx)
theorem turn_good {p q : Pk} (hp : goodP size p) (h : ∀ x ∈ q, x ∈ p) : goodP size q := fun x hx => hp x (h x hx)
theorem changed_good {p : Pk} {k : Str} (hp : goodP size p) (hne : p ≠ []) : goodP size (changed w p k) := by
  obtain ⟨a, q, rfl⟩ := List.exists_cons_of_ne_nil hne
  unfold changed
  split
  · split
    · refine turn_good hp fun x hx => ?_
      rcases List.mem_append.mp hx with h | h
      · exact List.mem_of_mem_drop h
      · exact List.mem_of_mem_take h
    · refine turn_good hp fun x hx => ?_
      rcases List.mem_append.mp hx with h | h
      · exact List.mem_of_mem_drop h
      · exact List.dropLast_subset _ h
  · split
    · exact dropped_good hp
    · split
      · split
        · intro x hx
          rcases List.mem_cons.mp hx with rfl | hx
          · exact hp a (by simp)
          · exact hp x (List.mem_of_mem_drop hx)
        · exact hp
      · split
        · intro x hx; cases hx
        · exact fun x hx => hp x (List.mem_filter.mp hx).1
theorem pasted_good {p : Pk} (hp : goodP size p) : goodP size (pasted w p) := by
  unfold pasted
  split
  · refine turn_good hp fun x hx => ?_
    rcases List.mem_append.mp hx with h | h
    · exact List.mem_of_mem_drop h
    · exact List.mem_of_mem_take h
  · split
    · exact dropped_good hp
    · exact hp
theorem step_good {s : Sta} {d : Deed} (hs : goodS size s) (hd : d.ok size) : goodS size (step w s d) := by
  cases d with
  | copy t => exact ⟨copied_good hs.1 hd.1 hd.2, .inl rfl⟩
  | act k =>
    simp only [step]
    by_cases hne : s.1 = []
    · rw [if_pos hne]; exact ⟨hs.1, .inl rfl⟩
    · rw [if_neg hne]
      split
      · refine ⟨pasted_good hs.1, .inr ?_⟩
        obtain ⟨a, q, e⟩ := List.exists_cons_of_ne_nil hne
        show 0 ≤ (s.1.headD (0, 0)).1 ∧ (s.1.headD (0, 0)).1 < size
        rw [e]
        exact hs.1 a (by rw [e]; simp)
      · exact ⟨changed_good hs.1 hne, .inl rfl⟩
theorem copied_ren (R : Ren size r) {p : Pk} {t : Int} (hp : goodP size p) (h0 : 0 ≤ t) (h1 : t < size) : copied w (p.map (renE r)) (r t) = (copied w p t).map (renE r) := by
  have e1 : idxs (fun x => decide (x.1 = r t)) (p.map (renE r)) = idxs (fun x => decide (x.1 = t)) p := by
    rw [idxs_map]
    apply idxs_congr
    intro x hx
    have := hp x hx
    by_cases hxt : x.1 = t
    · simp [renE, hxt]
    · have : r x.1 ≠ r t := fun e => hxt (R.inj _ _ this.1 this.2 h0 h1 e)
      simp [renE, hxt, this]
  have e2 : idxs (fun x => decide (x.2 = 0)) (p.map (renE r)) = idxs (fun x => decide (x.2 = 0)) p := by
    rw [idxs_map]
    rfl
  unfold copied
  simp only [e1, e2, List.length_map, cut1_map]
  split
  · rfl
  · split
    · rename_i h2 h3
      obtain ⟨f, fs, hpl⟩ := List.exists_cons_of_ne_nil h3.1
      have hlm : f ∈ idxs (fun x => decide (x.1 = t)) p := by rw [hpl]; exact List.mem_cons_self
      obtain ⟨y, hy, _⟩ := idxs_mem hlm
      rw [hpl]
      simp only [List.headD_cons, List.map_cons, List.getD_eq_getElem?_getD, List.getElem?_map, hy]
      rfl
    · split
      · split
        · rfl
        · simp [renE]
      · simp [renE]
theorem dropped_ren {p : Pk} (hne : p ≠ []) : dropped (p.map (renE r)) = (dropped p).map (renE r) := by
  obtain ⟨a, q, rfl⟩ := List.exists_cons_of_ne_nil hne
  unfold dropped
  by_cases h : a.2 = 1 <;> simp [renE, h]
theorem pasted_ren {p : Pk} (hne : p ≠ []) : pasted w (p.map (renE r)) = (pasted w p).map (renE r) := by
  unfold pasted
  rw [dropped_ren hne]
  split
  · simp [List.map_take, List.map_drop]
  · split <;> rfl
theorem changed_ren {p : Pk} {k : Str} (hne : p ≠ []) : changed w (p.map (renE r)) k = (changed w p k).map (renE r) := by
  unfold changed
  rw [dropped_ren hne]
  split
  · split
    · simp [List.map_take, List.map_drop]
    · simp [List.map_drop, List.map_dropLast]
  · split
    · rfl
    · split
      · split
        · obtain ⟨a, q, rfl⟩ := List.exists_cons_of_ne_nil hne
          simp [renE]
        · rfl
      · split
        · rfl
        · rw [List.filter_map]
          rfl
theorem step_ren (R : Ren size r) {s : Sta} {d : Deed} (hs : goodS size s) (hd : d.ok size) : step w (renS r s) (renD r d) = renS r (step w s d) := by
  cases d with
  | copy t => simp only [step, renS, renD, copied_ren R hs.1 hd.1 hd.2]; rfl
  | act k =>
    simp only [step, renD]
    by_cases hne : s.1 = []
    · simp [renS, hne]
    · have hne' : (renS r s).1 ≠ [] := by simpa [renS] using hne
      rw [if_neg hne, if_neg hne']
      obtain ⟨a, q, e⟩ := List.exists_cons_of_ne_nil hne
      have ha := hs.1 a (by rw [e]; simp)
      split
      · simp only [renS, pasted_ren hne]
        rw [e]
        simp [renE, ha.1]
      · simp only [renS, changed_ren hne]
        rfl
theorem states_ren (R : Ren size r) : ∀ (ds : List Deed) (s : Sta), goodS size s → (∀ d ∈ ds, d.ok size) → states w (renS r s) (ds.map (renD r)) = (states w s ds).map (renS r)
  | [], s, _, _ => rfl
  | d :: ds, s, hs, hd => by
    have hd0 := hd d (by simp)
    simp only [states, List.map_cons]
    rw [step_ren R hs hd0, states_ren R ds (step w s d) (step_good hs hd0) fun x hx => hd x (by simp [hx])]
theorem states_good : ∀ (ds : List Deed) (s : Sta), goodS size s → (∀ d ∈ ds, d.ok size) → ∀ x ∈ states w s ds, goodS size x
  | [], s, hs, _, x, hx => by
    simp [states] at hx
    rw [hx]; exact hs
  | d :: ds, s, hs, hd, x, hx => by
    simp only [states, List.mem_cons] at hx
    rcases hx with rfl | hx
    · exact hs
    · exact states_good ds (step w s d) (step_good hs (hd d (by simp))) (fun y hy => hd y (by simp [hy])) x hx
theorem renD_ok (R : Ren size r) {d : Deed} (hd : d.ok size) : (renD r d).ok size := by
  cases d with
  | copy t => exact R.rng t hd.1 hd.2
  | act k => exact hd
end
theorem states_snoc (w : Way) : ∀ (ds : List Deed) (s : Sta) (d : Deed), states w s (ds ++ [d]) = states w s ds ++ [step w ((states w s ds).getLastD s) d]
  | [], s, d => rfl
  | e :: ds, s, d => by
    have hne : states w (step w s e) ds ≠ [] := by cases ds <;> simp [states]
    simp only [List.cons_append, states, states_snoc w ds (step w s e) d]
    congr 3
    rw [List.getLastD_eq_getLast?, List.getLastD_eq_getLast?, List.getLast?_cons, List.getLast?_eq_some_getLast hne]
    rfl
end Pl

set_option Elab.async false
set_option linter.all false
set_option autoImplicit false
set_option maxRecDepth 100000
set_option maxHeartbeats 4000000
/-! Q13: the law's own steps. -/
namespace Tx
open L2 Z Pl
theorem zip_snd (p : Pk) : (List.range p.length).map (fun j : Nat => PySem.PyData.int (j : Int)) = p.zipIdx.map fun x => PySem.PyData.int (x.2 : Int) := by
  apply List.ext_getElem?
  intro i
  rw [List.getElem?_map, List.getElem?_map, List.getElem?_zipIdx]
  by_cases hi : i < p.length
  · rw [List.getElem?_range hi, List.getElem?_eq_getElem hi]; simp
  · rw [List.getElem?_eq_none (by simp; omega), List.getElem?_eq_none (by omega)]; rfl
theorem rg_run {f : D → MH → Res (Option D)} {h : MH} (p : Pk) (c : En → Bool) (hp : p.length ≤ 16777216) (hf : ∀ (i : Nat) (x : En), p[i]? = some x → f (.int (i : Int)) h = .ok (if c x then some (.int (i : Int)) else none) h) :
    compRun f (rangeD 0 (p.length : Int)) h [] = .ok ((idxs c p).map fun i : Nat => .int (i : Int)) h := by
  have e : rangeD 0 (p.length : Int) = (List.range p.length).map fun j : Nat => PySem.PyData.int (j : Int) := by simp [rangeD]
  rw [e, zip_snd, compRun_pure f h (fun x : En × Nat => PySem.PyData.int (x.2 : Int)) (fun x => if c x.1 then some (.int (x.2 : Int)) else none) _ _ (fun x hx => by
    obtain ⟨a, b⟩ := x
    exact hf b a (List.mem_zipIdx_iff_getElem?.mp hx)) (by simp; exact hp)]
  simp only [List.nil_append, idxs, List.map_filterMap]
  congr 2
  funext x
  by_cases hx : c x.1 <;> simp [hx]
theorem m_lfirst (size : Int) (h : MH) : g_law_first [.d (.int size)] h = .ok (.d (sD Pl.start)) h := by
  simp -implicitDefEqProofs [g_law_first, runF_def, b_law_first, sD, pD, Pl.start]
theorem tail_cat (p : Pk) (x : En) (q : Pk) (hp : p = x :: q) : p.drop 1 ++ p.take 1 = q ++ [x] := by
  subst hp; rfl
theorem m_lview (s : Sta) (k : Int) (h : MH) (hp : s.1.length ≤ 90) : g_law_view [.d (sD s), .d (.int k)] h = .ok (.d (if k = 0 then .tuple [.tuple (s.1.map fun x => .int x.1), .int s.2] else .int s.2)) h := by
  have r1 := fun (L : Lib) (e : Z.Env) hf => compRun_pure (compK L (.name 2) .nil (.ix (.var 2) (.int 0)) [2] e) h eD (fun x => some (.int x.1)) s.1 [] hf (by simp; omega)
  by_cases hk : k = 0
  · simp -implicitDefEqProofs [g_law_view, runF_def, b_law_view, sD, pD, eqv_int, hk]
    rw [r1 _ _ (fun x _ => by simp -implicitDefEqProofs [compK_def, eD])]
    simp -implicitDefEqProofs
  · simp -implicitDefEqProofs [g_law_view, runF_def, b_law_view, sD, pD, eqv_int, hk]
end Tx

set_option Elab.async false
set_option linter.all false
set_option autoImplicit false
set_option maxRecDepth 100000
set_option maxHeartbeats 4000000
/-! Q14: the law's own steps are the program's. -/
namespace Tx
open L2 Z Pl
@[simp] theorem sh_cons (a b : Int) (q : Pk) : sh (.tuple (.tuple [.int a, .int b] :: q.map eD)) = true := shp ((a, b) :: q)
theorem lst_last {p : Pk} (hp : p ≠ []) : atI (p.map eD) (-1) = some (eD (p.getLast hp)) := by
  rw [atI_t, List.getLast?_map, List.getLast?_eq_some_getLast hp]; rfl
theorem drop_last {p : Pk} (hp : p ≠ []) : p.drop (p.length - 1) = [p.getLast hp] := by
  have h := List.dropLast_concat_getLast hp
  conv => lhs; rw [← h]
  simp
theorem filter_run {f : D → MH → Res (Option D)} {h : MH} (p : Pk) (c : En → Bool) (hp : p.length ≤ 16777216) (hf : ∀ x ∈ p, f (eD x) h = .ok (if c x then some (eD x) else none) h) :
    compRun f (p.map eD) h [] = .ok ((p.filter c).map eD) h := by
  rw [compRun_pure f h eD (fun x => if c x then some (eD x) else none) p [] hf (by simpa using hp)]
  congr 1
  simp only [List.nil_append]
  clear hf hp
  induction p with
  | nil => rfl
  | cons a p ih => by_cases hc : c a <;> simp [hc, ih]
theorem m_lstep_act (w : Way) (hw : w.ok) (p : Pk) (tl : Int) (k : Str) (hk : isAct k) (h : MH) (hp : p.length ≤ 90) : g_law_step [.d (wD w), .d (sD (p, tl)), .d (dD (.act k))] h = .ok (.d (sD (step w (p, tl) (.act k)))) h := by
  obtain ⟨s0, s1, s2, s4, s5, s6⟩ := Way.shs hw
  by_cases hne : p = []
  · subst hne
    rcases hk with rfl | rfl | rfl | rfl | rfl <;> simp -implicitDefEqProofs [g_law_step, runF_def, b_law_step, sD, dD, eqv_str, step, pD, eqv_tup, eqvAll_nil]
  · obtain ⟨⟨a, b⟩, q, rfl⟩ := List.exists_cons_of_ne_nil hne
    simp only [List.length_cons] at hp
    have hla := lst_last hne
    have hdl := drop_last hne
    simp only [List.map_cons, eD] at hla
    rcases hk with rfl | rfl | rfl | rfl | rfl
    · rcases hw.kind with hkd | hkd | hkd <;> by_cases hb : b = 1 <;> simp -implicitDefEqProofs (disch := first | assumption | omega | (simp; done) | fail) [g_law_step, runF_def, b_law_step, sD, dD, wD, eqv_str, eqv_int, step, pD, eqv_tup, eqvAll_cn, hkd, hb, pasted, dropped, eD]
    · by_cases ht : w.turn = "down"
      · simp -implicitDefEqProofs (disch := first | assumption | omega | (simp; done) | fail) [g_law_step, runF_def, b_law_step, sD, dD, wD, eqv_str, eqv_int, step, pD, eqv_tup, eqvAll_cn, ht, changed, eD]
      · have hl2 : lOk (1 + q.length) = true := lOk_of (by omega)
        simp only [List.length_cons, Nat.add_sub_cancel] at hdl
        simp -implicitDefEqProofs (disch := first | assumption | omega | (simp; done) | fail) [g_law_step, runF_def, b_law_step, sD, dD, wD, eqv_str, eqv_int, step, pD, eqv_tup, eqvAll_cn, ht, changed, eD, hla, hl2, hdl]
    · by_cases hb : b = 1 <;> simp -implicitDefEqProofs (disch := first | assumption | omega | (simp; done) | fail) [g_law_step, runF_def, b_law_step, sD, dD, wD, eqv_str, eqv_int, step, pD, eqv_tup, eqvAll_cn, hb, changed, dropped, eD]
    · by_cases ht : w.pin = "stays" <;> simp -implicitDefEqProofs (disch := first | assumption | omega | (simp; done) | fail) [g_law_step, runF_def, b_law_step, sD, dD, wD, eqv_str, eqv_int, step, pD, eqv_tup, eqvAll_cn, ht, changed, eD]
    · have fr := fun (L : Lib) (x1 x2 x3 x4 x5 x6 x7 x8 : Option Val) => filter_run (f := compK L (.name 8) (.cons (.and (.cons (.cmp .eq (.ix (.var 0) (.int 6)) (.str "loose")) (.cons (.cmp .eq (.ix (.var 8) (.int 1)) (.int 1)) .nil))) .nil) (.var 8) [8] [some (.d (wD w)), x1, x2, x3, x4, x5, x6, x7, x8]) (h := h) ((a, b) :: q)
        (fun x => decide (w.wipe = "loose") && decide (x.2 = 1)) (by simp; omega) (fun x _ => by
          by_cases h6 : w.wipe = "loose" <;> by_cases h1 : x.2 = 1 <;> simp -implicitDefEqProofs (disch := first | assumption | omega | (simp; done) | fail) [compK_def, wD, eD, eqv_str, eqv_int, h6, h1])
      simp only [List.map_cons, eD] at fr
      have hwp : (w.wipe = "all") = ¬ (w.wipe = "loose") := by rcases hw.wipe with e | e <;> simp [e]
      simp -implicitDefEqProofs (disch := first | assumption | omega | (simp; done) | fail) [g_law_step, runF_def, b_law_step, sD, dD, eqv_str, eqv_int, step, pD, eqv_tup, eqvAll_cn, changed, eD, fr]
      by_cases h6 : w.wipe = "loose"
      · simp [h6, hwp, eD]
      · simp [h6, hwp]

theorem eqv_ints_nil (l : List Nat) : PySem.PyData.eqv (.list (l.map fun i : Nat => .int (i : Int))) (.list []) = decide (l = []) := by
  rw [eqv_lst, eqv_nil_map]
theorem lying_run (L : Lib) (h : MH) (p : Pk) (t : Int) (hp : p.length ≤ 90) (x0 x3 x4 x5 x6 x7 : Option Val) :
    compRun (compK L (.name 7) (.cons (.cmp .eq (.ix (.ix (.var 1) (.var 7)) (.int 0)) (.var 2)) .nil) (.var 7) [7] [x0, some (.d (.tuple (p.map eD))), some (.d (.int t)), x3, x4, x5, x6, x7]) (rangeD 0 (p.length : Int)) h [] = .ok ((idxs (fun x => decide (x.1 = t)) p).map fun i : Nat => .int (i : Int)) h := by
  refine rg_run p _ (by omega) fun i x hx => ?_
  have hm : atI (p.map eD) (i : Int) = some (eD x) := by
    rw [atI_nat _ _ (by simpa using (List.getElem?_eq_some_iff.mp hx).1), List.getElem?_map, hx]; rfl
  simp only [eD] at hm ⊢
  by_cases hq : x.1 = t <;> simp -implicitDefEqProofs (disch := first | assumption | omega | (simp; done) | fail) [compK_def, hm, eqv_int, hq]
theorem able_run (L : Lib) (h : MH) (p : Pk) (hp : p.length ≤ 90) (x0 x2 x3 x4 x5 x6 x7 : Option Val) :
    compRun (compK L (.name 7) (.cons (.cmp .eq (.ix (.ix (.var 1) (.var 7)) (.int 1)) (.int 0)) .nil) (.var 7) [7] [x0, some (.d (.tuple (p.map eD))), x2, x3, x4, x5, x6, x7]) (rangeD 0 (p.length : Int)) h [] = .ok ((idxs (fun x => decide (x.2 = 0)) p).map fun i : Nat => .int (i : Int)) h := by
  refine rg_run p _ (by omega) fun i x hx => ?_
  have hm : atI (p.map eD) (i : Int) = some (eD x) := by
    rw [atI_nat _ _ (by simpa using (List.getElem?_eq_some_iff.mp hx).1), List.getElem?_map, hx]; rfl
  simp only [eD] at hm ⊢
  by_cases hq : x.2 = 0 <;> simp -implicitDefEqProofs (disch := first | assumption | omega | (simp; done) | fail) [compK_def, hm, eqv_int, hq]
theorem cut1_filter (p : Pk) (l : Nat) (hl : l < p.length) : (p.zipIdx.filterMap fun x => if x.2 = l then none else some (eD x.1)) = (cut1 p l).map eD := by
  unfold cut1
  have key : ∀ (p : Pk) (k l : Nat), ((p.zipIdx k).filterMap fun x => if x.2 = k + l then none else some (eD x.1)) = (p.take l ++ p.drop (l + 1)).map eD := by
    intro p
    induction p with
    | nil => intro k l; simp
    | cons a p ih =>
      intro k l
      cases l with
      | zero =>
        simp only [List.zipIdx_cons, List.filterMap_cons, Nat.add_zero, if_true, List.take_zero, List.drop_succ_cons, List.drop_zero, List.nil_append]
        have : ∀ (p : Pk) (j : Nat), k < j → ((p.zipIdx j).filterMap fun x => if x.2 = k then none else some (eD x.1)) = p.map eD := by
          intro p
          induction p with
          | nil => intro j _; rfl
          | cons b p ih2 =>
            intro j hj
            rw [List.zipIdx_cons, List.filterMap_cons]
            simp only [if_neg (show ¬ j = k by omega)]
            rw [ih2 (j + 1) (by omega)]; rfl
        exact this p (k + 1) (by omega)
      | succ l =>
        rw [List.zipIdx_cons, List.filterMap_cons]
        simp only [if_neg (show ¬ k = k + (l + 1) by omega)]
        have := ih (k + 1) l
        rw [show k + 1 + l = k + (l + 1) by omega] at this
        rw [this]
        simp
  simpa using key p 0 l
theorem rest_run (L : Lib) (h : MH) (p : Pk) (ls : List D) (l : Nat) (hl : l < p.length) (ha : atI ls (-1) = some (.int (l : Int))) (hp : p.length ≤ 90) (x0 x2 x3 x4 x5 x7 : Option Val) :
    compRun (compK L (.name 7) (.cons (.cmp .ne (.var 7) (.ix (.var 6) (.neg (.int 1)))) .nil) (.ix (.var 1) (.var 7)) [7] [x0, some (.d (.tuple (p.map eD))), x2, x3, x4, x5, some (.d (.list ls)), x7]) (rangeD 0 (p.length : Int)) h [] = .ok ((cut1 p l).map eD) h := by
  have e0 : rangeD 0 (p.length : Int) = (List.range p.length).map fun j : Nat => PySem.PyData.int (j : Int) := by simp [rangeD]
  rw [e0, zip_snd, compRun_pure _ h (fun x : En × Nat => PySem.PyData.int (x.2 : Int)) (fun x => if x.2 = l then none else some (eD x.1)) _ _ (fun x hx => by
    obtain ⟨a, i⟩ := x
    have hx := List.mem_zipIdx_iff_getElem?.mp hx
    simp only at hx ⊢
    have hm : atI (p.map eD) (i : Int) = some (eD a) := by
      rw [atI_nat _ _ (by simpa using (List.getElem?_eq_some_iff.mp hx).1), List.getElem?_map, hx]; rfl
    simp only [eD] at hm ⊢
    by_cases hq : i = l
    · subst hq; simp -implicitDefEqProofs (disch := first | assumption | omega | (simp; done) | fail) [compK_def, hm, ha, eqv_int]
    · have hq' : ¬ ((i : Int) = (l : Int)) := by omega
      simp -implicitDefEqProofs (disch := first | assumption | omega | (simp; done) | fail) [compK_def, hm, ha, eqv_int, hq, hq']) (by simp; omega)]
  simp only [List.nil_append]
  rw [cut1_filter p l hl]
theorem m_lcopy (w : Way) (hw : w.ok) (p : Pk) (t : Int) (h : MH) (hp : p.length ≤ 90) (hn : (p.length : Int) ≤ w.n) : g_law_copy [.d (wD w), .d (pD p), .d (.int t)] h = .ok (.d (pD (copied w p t))) h := by
  obtain ⟨s0, s1, s2, s4, s5, s6⟩ := Way.shs hw
  have r1 := fun (L : Lib) => lying_run L h p t hp
  have r2 := fun (L : Lib) => able_run L h p hp
  have r3 := fun (L : Lib) => rest_run L h p
  have hrg : rgOk (p.length : Int) = true := rgOk_of (by omega) (by omega)
  have hl3 : lOk (1 + p.length) = true := lOk_of (by omega)
  by_cases hl : idxs (fun x => decide (x.1 = t)) p ≠ [] ∧ w.again ≠ "twice"
  · obtain ⟨f, fs, hpl⟩ := List.exists_cons_of_ne_nil hl.1
    have hlm : f ∈ idxs (fun x => decide (x.1 = t)) p := by rw [hpl]; exact List.mem_cons_self
    obtain ⟨y, hy, _⟩ := idxs_mem hlm
    have hlt := (List.getElem?_eq_some_iff.mp hy).1
    have hm1 : atI (p.map eD) (f : Int) = some (eD y) := by
      rw [atI_nat _ _ (by simpa using hlt), List.getElem?_map, hy]; rfl
    have hl1 : lOk (1 + min f p.length) = true := lOk_of (by omega)
    have hl2 : lOk (1 + min f p.length + (p.length - (f + 1))) = true := lOk_of (by omega)
    have hsh : sh (.list (PySem.PyData.int (f : Int) :: fs.map fun i : Nat => PySem.PyData.int (i : Int))) = true := sh_ints (f :: fs)
    rcases hw.again with ha | ha | ha
    · simp -implicitDefEqProofs (disch := first | assumption | omega | (simp; done) | fail) [g_law_copy, runF_def, b_law_copy, pD, wD, hrg, r1, hpl, hsh, eqv_lst, eqvAll_cn, copied, eqv_str, ha, hm1, cutD_take, cutD_drop1, cut1, (List.getElem?_eq_some_iff.mp hy).2, hlt]
    · exact absurd ha hl.2
    · simp -implicitDefEqProofs (disch := first | assumption | omega | (simp; done) | fail) [g_law_copy, runF_def, b_law_copy, pD, wD, hrg, r1, hpl, hsh, eqv_lst, eqvAll_cn, copied, eqv_str, ha, hm1, cutD_take, cutD_drop1, cut1, (List.getElem?_eq_some_iff.mp hy).2, hlt]
  · have hcp : copied w p t = if (p.length : Int) = w.n then (if w.full = "refuse" ∨ idxs (fun x => decide (x.2 = 0)) p = [] then p else (t, 0) :: cut1 p ((idxs (fun x => decide (x.2 = 0)) p).getLastD 0)) else (t, 0) :: p := by
      unfold copied
      have n1 : ¬ (idxs (fun x => decide (x.1 = t)) p ≠ [] ∧ w.again = "stay") := fun z => hl ⟨z.1, by rw [z.2]; decide⟩
      have n2 : ¬ (idxs (fun x => decide (x.1 = t)) p ≠ [] ∧ w.again = "move") := fun z => hl ⟨z.1, by rw [z.2]; decide⟩
      simp only [n1, n2, if_false]
    rw [hcp]
    by_cases hlt : (p.length : Int) < w.n
    · have hne : ¬ ((p.length : Int) = w.n) := by omega
      by_cases hnil : idxs (fun x => decide (x.1 = t)) p = []
      · simp -implicitDefEqProofs (disch := first | assumption | omega | (simp; done) | fail) [g_law_copy, runF_def, b_law_copy, pD, wD, hrg, r1, hnil, eqv_lst, eqvAll_nil, hlt, hne, hl3, eD]
      · have hag : w.again = "twice" := Classical.byContradiction fun z => hl ⟨hnil, z⟩
        simp -implicitDefEqProofs (disch := first | assumption | omega | (simp; done) | fail) [g_law_copy, runF_def, b_law_copy, pD, wD, hrg, r1, hnil, eqv_ints_nil, hag, eqv_str, hlt, hne, hl3, eD]
    · have heq : (p.length : Int) = w.n := by omega
      have hnot : ¬ (w.n < w.n) := by omega
      have hfin : (rfl : w = w) = rfl := rfl
      by_cases hlo : idxs (fun x => decide (x.2 = 0)) p = []
      · by_cases hnil : idxs (fun x => decide (x.1 = t)) p = []
        · simp -implicitDefEqProofs (disch := first | assumption | omega | (simp; done) | fail) [g_law_copy, runF_def, b_law_copy, pD, wD, hrg, r1, r2, hnil, hlo, eqv_lst, eqvAll_nil, hlt, eq_true heq]
        · have hag : w.again = "twice" := Classical.byContradiction fun z => hl ⟨hnil, z⟩
          simp -implicitDefEqProofs (disch := first | assumption | omega | (simp; done) | fail) [g_law_copy, runF_def, b_law_copy, pD, wD, hrg, r1, r2, hnil, hlo, eqv_nil_map, eqv_lst, eqvAll_nil, hag, eqv_str, hlt, eq_true heq]
      · obtain ⟨l, hll⟩ : ∃ l, (idxs (fun x => decide (x.2 = 0)) p).getLast? = some l := ⟨_, List.getLast?_eq_some_getLast hlo⟩
        have hlm := List.mem_of_getLast? hll
        obtain ⟨y, hy, _⟩ := idxs_mem hlm
        have hlt2 := (List.getElem?_eq_some_iff.mp hy).1
        have ha : atI ((idxs (fun x => decide (x.2 = 0)) p).map fun i : Nat => PySem.PyData.int (i : Int)) (-1) = some (.int (l : Int)) := by
          rw [atI_t, List.getLast?_map, hll]; rfl
        have hld : (idxs (fun x => decide (x.2 = 0)) p).getLastD 0 = l := by rw [List.getLastD_eq_getLast?, hll]; rfl
        have r3' := fun (L : Lib) => r3 L _ l hlt2 ha hp
        have hl4 : lOk (1 + (cut1 p l).length) = true := lOk_of (by rw [cut1_len hlt2]; omega)
        by_cases hnil : idxs (fun x => decide (x.1 = t)) p = []
        · by_cases hf : w.full = "refuse"
          · simp -implicitDefEqProofs (disch := first | assumption | omega | (simp; done) | fail) [g_law_copy, runF_def, b_law_copy, pD, wD, hrg, r1, r2, hnil, hlo, eqv_nil_map, eqv_lst, eqvAll_nil, eqv_str, hlt, eq_true heq, hf]
          · simp -implicitDefEqProofs (disch := first | assumption | omega | (simp; done) | fail) [g_law_copy, runF_def, b_law_copy, pD, wD, hrg, r1, r2, r3', hnil, hlo, eqv_nil_map, eqv_lst, eqvAll_nil, eqv_str, hlt, eq_true heq, hf, hll, hl4, eD]
        · have hag : w.again = "twice" := Classical.byContradiction fun z => hl ⟨hnil, z⟩
          by_cases hf : w.full = "refuse"
          · simp -implicitDefEqProofs (disch := first | assumption | omega | (simp; done) | fail) [g_law_copy, runF_def, b_law_copy, pD, wD, hrg, r1, r2, hnil, hlo, eqv_nil_map, eqv_lst, eqvAll_nil, eqv_str, hlt, eq_true heq, hf, hag]
          · simp -implicitDefEqProofs (disch := first | assumption | omega | (simp; done) | fail) [g_law_copy, runF_def, b_law_copy, pD, wD, hrg, r1, r2, r3', hnil, hlo, eqv_nil_map, eqv_lst, eqvAll_nil, eqv_str, hlt, eq_true heq, hf, hll, hl4, eD, hag]
theorem m_lstep (w : Way) (hw : w.ok) (s : Sta) (d : Deed) (size : Int) (hd : d.ok size) (h : MH) (hn : (s.1.length : Int) ≤ w.n) : g_law_step [.d (wD w), .d (sD s), .d (dD d)] h = .ok (.d (sD (step w s d))) h := by
  have n3 := hw.n3
  obtain ⟨p, tl⟩ := s
  simp only at hn
  cases d with
  | act k => exact m_lstep_act w hw p tl k hd h (by omega)
  | copy t =>
    have e1 := m_lcopy w hw p t h (by omega) hn
    simp only [pD] at e1
    simp -implicitDefEqProofs (disch := first | assumption | omega | (simp; done) | fail) [g_law_step, runF_def, b_law_step, sD, dD, pD, eqv_str, step, e1]
end Tx

set_option Elab.async false
set_option linter.all false
set_option autoImplicit false
set_option maxRecDepth 100000
set_option maxHeartbeats 4000000
/-! Q15: views. -/
namespace Pl
open L2 Z
abbrev View := List Int × Int
def view (k : Int) (s : Sta) : View := if k = 0 then (s.1.map (·.1), s.2) else ([], s.2)
def veD (k : Int) (v : View) : D := if k = 0 then .tuple [.tuple (v.1.map .int), .int v.2] else .int v.2
theorem sh_ve (k : Int) (v : View) : shD 2 (veD k v) := by
  unfold veD
  split
  · exact shD_tup (n := 1) fun y hy => by
      simp at hy
      rcases hy with rfl | rfl
      · exact shD_tup (n := 0) fun z hz => by
          obtain ⟨x, _, rfl⟩ := List.mem_map.mp hz
          exact shD_int _
      · exact shD_int _
  · exact shD_int _
theorem eqv_ints (l m : List Int) : (PySem.PyData.eqvAll (l.map .int) (m.map .int) = true ↔ l = m) := eqvAll_map fun x _ y _ => by simp [eqv_int]
theorem eqv_ve (k : Int) (s t : Sta) : (PySem.PyData.eqv (veD k (view k s)) (veD k (view k t)) = true ↔ view k s = view k t) := by
  unfold veD view
  by_cases hk : k = 0
  · simp only [hk, if_true]
    rw [eqv_tup, eqvAll_cons, eqvAll_cons, eqvAll_nil, eqv_tup, eqv_int]
    simp
    intro _
    have := eqv_ints (s.1.map (·.1)) (t.1.map (·.1))
    simpa using this
  · simp [hk, eqv_int]
end Pl
namespace Tx
open L2 Z Pl
theorem m_view_of (s : Sta) (k : Int) (h : MH) (hp : s.1.length ≤ 90) : g_view_of [.d (sD s), .d (.int k)] h = .ok (.d (veD k (view k s))) h := by
  have r1 := fun (L : Lib) (e : Z.Env) hf => compRun_pure (compK L (.pair (.name 3) (.name 2)) .nil (.var 3) [2, 3] e) h eD (fun x => some (.int x.1)) s.1 [] hf (by simp; omega)
  by_cases hk : k = 0
  · simp -implicitDefEqProofs [g_view_of, runF_def, b_view_of, sD, pD, eqv_int, hk, veD, view]
    rw [r1 _ _ (fun x _ => by simp -implicitDefEqProofs [compK_def, eD])]
    simp -implicitDefEqProofs [Function.comp_def]
  · simp -implicitDefEqProofs [g_view_of, runF_def, b_view_of, sD, pD, eqv_int, hk, veD, view]
theorem m_lview2 (s : Sta) (k : Int) (h : MH) (hp : s.1.length ≤ 90) : g_law_view [.d (sD s), .d (.int k)] h = .ok (.d (veD k (view k s))) h := by
  rw [m_lview s k h hp]
  unfold veD view
  by_cases hk : k = 0 <;> simp [hk, Function.comp_def]
/-- the views behind the deeds -/
def views (w : Way) (k : Int) (row : List Deed) : List View := (states w Pl.start row).tail.map (view k)
theorem start_len (w : Way) (hw : w.ok) : ((Pl.start.1.length : Int)) ≤ w.n := by have := hw.n1; simp [Pl.start]; omega
theorem states_len2 (w : Way) (hw : w.ok) : ∀ (row : List Deed) (s : Sta), (s.1.length : Int) ≤ w.n → ∀ x ∈ states w s row, (x.1.length : Int) ≤ w.n
  | [], s, hs, x, hx => by simp [states] at hx; rw [hx]; exact hs
  | d :: ds, s, hs, x, hx => by
    simp only [states, List.mem_cons] at hx
    rcases hx with rfl | hx
    · exact hs
    · exact states_len2 w hw ds _ (step_len w s d hs) x hx
theorem m_shown (w : Way) (hw : w.ok) (size k : Int) (row : List Deed) (hr : ∀ d ∈ row, d.ok size) (hl : row.length ≤ 1000) (h : MH) :
    g_shown [.d (wD w), .d (.int size), .d (.int k), .d (.list (row.map dD))] h = .ok (.d (.list ((views w k row).map (veD k)))) h := by
  have n3 := hw.n3
  have r1 := fun (L : Lib) (e : Z.Env) hf => compRun_pure (compK L (.name 4) .nil (.call 1 (.cons (.var 4) (.cons (.var 2) .nil))) [4] e) h sD (fun s => some (veD k (view k s))) (states w Pl.start row).tail [] hf (by simp [states_length]; omega)
  simp -implicitDefEqProofs [g_shown, runF_def, b_shown, m_states_of w hw size row hr hl]
  rw [← List.map_tail, r1 _ _ (fun x hx => by
    have := states_len2 w hw row Pl.start (start_len w hw) x (List.mem_of_mem_tail hx)
    simp -implicitDefEqProofs [compK_def, m_view_of x k h (by omega)])]
  simp -implicitDefEqProofs [views, Function.comp_def]
theorem m_check_sight (v : Int) (h : MH) (h1 : 0 ≤ v) (h2 : v ≤ 1) : g_check_sight [.d (.int v)] h = .ok (.d .none) h := by
  simp [g_check_sight, runF_def, b_check_sight, m_check_number v 0 1 h h1 h2]
theorem m_views_of (w : Way) (hw : w.ok) (size k : Int) (h2 : 2 ≤ size) (h3 : size ≤ 3) (k0 : 0 ≤ k) (k1 : k ≤ 1) (row : List Deed) (hr : ∀ d ∈ row, d.ok size) (hl : row.length ≤ 40) (h : MH) :
    g_views_of [.d (wD w), .d (.int size), .d (.int k), .d (.list (row.map dD))] h = .ok (.d (.list ((views w k row).map (veD k)))) h := by
  simp -implicitDefEqProofs [g_views_of, runF_def, b_views_of, m_check_way w hw, m_check_size size _ h2 h3, m_check_sight k _ k0 k1, m_check_row size row hr hl, m_shown w hw size k row hr (by omega)]
theorem for_lstates (w : Way) (hw : w.ok) (size : Int) (row0 : D) : ∀ (ds : List Deed) (ss : List Sta) (s : Sta) (x : Option Val), (∀ d ∈ ds, d.ok size) → (s.1.length : Int) ≤ w.n → ss.getLast? = some s → ss.length + ds.length ≤ 10000 →
    ∃ y, forRun (.name 4) (execs ⟨[g_law_first, g_law_step], [], 0⟩ (.cons (.expr (.mst .append (.var 3) (.cons (.call 1 (.cons (.var 0) (.cons (.ix (.var 3) (.neg (.int 1))) (.cons (.var 4) .nil)))) .nil))) .nil)) (ds.map dD) [some (.d (wD w)), some (.d (.int size)), some (.d row0), some (.ref 0), x] [.lst ((ss.map sD).map .d)]
      = .next [some (.d (wD w)), some (.d (.int size)), some (.d row0), some (.ref 0), y] [.lst (((ss ++ runs w s ds).map sD).map .d)]
  | [], ss, s, x, _, _, _, _ => ⟨x, by simp [forRun_nil, runs]⟩
  | d :: ds, ss, s, x, hd, hs, hlast, hl => by
    simp only [List.length_cons] at hl
    have h1 := m_lstep w hw s d size (hd d (by simp)) [.lst ((ss.map sD).map .d)] hs
    have h2 := step_len w s d hs
    obtain ⟨y, ih⟩ := for_lstates w hw size row0 ds (ss ++ [step w s d]) (step w s d) (some (.d (dD d))) (fun x hx => hd x (by simp [hx])) h2 (by simp) (by simp; omega)
    refine ⟨y, ?_⟩
    have hne : (ss.map sD).map Val.d ≠ [] := by
      intro e
      simp at e
      rw [e] at hlast
      cases hlast
    have ha : atI ((ss.map sD).map Val.d) (-1) = some (.d (sD s)) := by
      rw [atI_last _ hne, List.getLast?_map, List.getLast?_map, hlast]; rfl
    have hls : ((ss.map sD).map Val.d).length < PySem.sizeLine := by simp [PySem.sizeLine]; omega
    have hap : (ss ++ runs w s (d :: ds)) = (ss ++ [step w s d]) ++ runs w (step w s d) ds := by simp [runs]
    rw [hap, ← ih]
    simp only [List.map_cons, forRun_cons]
    simp only [List.map_map] at ha h1 hls
    simp [ha, h1, appC_lst _ _ _ _ hls]
theorem m_lstates (w : Way) (hw : w.ok) (size : Int) (row : List Deed) (hr : ∀ d ∈ row, d.ok size) (hl : row.length ≤ 1000) (h : MH) :
    g_law_states [.d (wD w), .d (.int size), .d (.list (row.map dD))] h = .ok (.d (.list ((states w Pl.start row).map sD))) h := by
  obtain ⟨y, hy⟩ := for_lstates w hw size (.list (row.map dD)) row [Pl.start] Pl.start none hr (start_len w hw) rfl (by simp; omega)
  refine pureF_ok (ds := [wD w, .int size, .list (row.map dD)]) (h1 := [.lst ((([Pl.start] ++ runs w Pl.start row).map sD).map .d)]) (v := .ref 0) rfl ?_ ?_
  · rw [runF_def]
    simp only [List.map_cons, List.map_nil] at hy
    simp [b_law_states, m_lfirst, hy]
  · rw [frz_ref]
    simp only [Nat.le_refl, if_true]
    show frzC 0 (some _) _ _ = _
    rw [frzC_lst, states_runs]
    rfl
end Tx

set_option Elab.async false
set_option linter.all false
set_option autoImplicit false
set_option maxRecDepth 100000
set_option maxHeartbeats 4000000
namespace Tx
open L2 Z Pl
end Tx

set_option Elab.async false
set_option linter.all false
set_option autoImplicit false
set_option maxRecDepth 100000
set_option maxHeartbeats 4000000
/-! Q16: what all states keep; loops. -/
namespace Pl
open L2 Z
def pins (p : Pk) : List Int := p.map (·.2)
theorem getE_perm {p : Pk} {i : Nat} (h : i < p.length) : (p[i] :: p.eraseIdx i).Perm p := by
  rw [List.eraseIdx_eq_take_drop_succ]
  have e : p = p.take i ++ p[i] :: p.drop (i + 1) := by rw [← List.drop_eq_getElem_cons h, List.take_append_drop]
  conv => rhs; rw [e]
  exact List.perm_middle.symm
def things (p : Pk) : List Int := p.map (·.1)
theorem cut1_erase (p : Pk) (i : Nat) : cut1 p i = p.eraseIdx i := by
  unfold cut1; rw [List.eraseIdx_eq_take_drop_succ]
theorem turn_perm (p : Pk) (n : Nat) : (p.drop n ++ p.take n).Perm p := by
  have := (List.perm_append_comm (l₁ := p.drop n) (l₂ := p.take n))
  rwa [List.take_append_drop] at this
theorem back_perm (p : Pk) : (p.drop (p.length - 1) ++ p.dropLast).Perm p := by
  rw [List.dropLast_eq_take]; exact turn_perm p _
theorem idxs_nil {c : En → Bool} {p : Pk} (h : idxs c p = []) : ∀ x ∈ p, c x = false := by
  intro x hx
  obtain ⟨i, hi, e⟩ := List.mem_iff_getElem.mp hx
  cases hc : c x with
  | false => rfl
  | true =>
    have : i ∈ idxs c p := by
      unfold idxs
      refine List.mem_filterMap.mpr ⟨(x, i), List.mem_zipIdx_iff_getElem?.mpr (by rw [List.getElem?_eq_getElem hi, e]), by simp [hc]⟩
    rw [h] at this; cases this
/-- what holds of all entries that come from p or are new -/
theorem copied_sub (w : Way) (p : Pk) (t : Int) : ∀ x ∈ copied w p t, x ∈ p ∨ x = (t, 0) := by
  unfold copied
  simp only
  split
  · exact fun x hx => .inl hx
  · split
    · rename_i h1 h2
      obtain ⟨f, fs, hpl⟩ := List.exists_cons_of_ne_nil h2.1
      have hlm : f ∈ idxs (fun x => decide (x.1 = t)) p := by rw [hpl]; exact List.mem_cons_self
      obtain ⟨y, hy, _⟩ := idxs_mem hlm
      rw [hpl]
      intro x hx
      rcases List.mem_cons.mp hx with rfl | hx
      · left
        simp only [List.headD_cons, List.getD_eq_getElem?_getD, hy, Option.getD_some]
        exact List.mem_of_getElem? hy
      · exact .inl (cut1_mem hx)
    · split
      · split
        · exact fun x hx => .inl hx
        · intro x hx
          rcases List.mem_cons.mp hx with rfl | hx
          · exact .inr rfl
          · exact .inl (cut1_mem hx)
      · intro x hx
        rcases List.mem_cons.mp hx with rfl | hx
        · exact .inr rfl
        · exact .inl hx
theorem dropped_subl (p : Pk) : (dropped p).Sublist p := by
  unfold dropped
  split
  · exact List.Sublist.refl _
  · exact List.drop_sublist _ _
theorem nd_perm {p q : Pk} (h : q.Perm p) (n : (things p).Nodup) : (things q).Nodup := (List.Perm.map _ h).nodup_iff.mpr n
theorem nd_sub {p q : Pk} (h : q.Sublist p) (n : (things p).Nodup) : (things q).Nodup := (List.Sublist.map _ h).nodup n
theorem copied_nd (w : Way) (hw : w.ok) (ha : w.again ≠ "twice") (p : Pk) (t : Int) (n : (things p).Nodup) : (things (copied w p t)).Nodup := by
  unfold copied
  simp only
  split
  · exact n
  · split
    · rename_i h1 h2
      obtain ⟨f, fs, hpl⟩ := List.exists_cons_of_ne_nil h2.1
      have hlm : f ∈ idxs (fun x => decide (x.1 = t)) p := by rw [hpl]; exact List.mem_cons_self
      obtain ⟨y, hy, _⟩ := idxs_mem hlm
      have hlt := (List.getElem?_eq_some_iff.mp hy).1
      rw [hpl]
      simp only [List.headD_cons, cut1_erase, List.getD_eq_getElem?_getD, List.getElem?_eq_getElem hlt, Option.getD_some]
      exact nd_perm (getE_perm hlt) n
    · rename_i h1 h2
      have hnil : idxs (fun x => decide (x.1 = t)) p = [] := by
        cases hp : idxs (fun x => decide (x.1 = t)) p with
        | nil => rfl
        | cons a l =>
          rcases hw.again with e | e | e
          · exact absurd ⟨by simp [hp], e⟩ h2
          · exact absurd e ha
          · exact absurd ⟨by simp [hp], e⟩ h1
      have hno := idxs_nil hnil
      have key : ∀ q : Pk, q.Sublist p → (things ((t, 0) :: q)).Nodup := fun q hq => by
        refine List.nodup_cons.mpr ⟨fun hm => ?_, nd_sub hq n⟩
        obtain ⟨x, hx, e⟩ := List.mem_map.mp hm
        have := hno x (hq.subset hx)
        simp at e
        simp [e] at this
      split
      · split
        · exact n
        · exact key _ (by rw [cut1_erase]; exact List.eraseIdx_sublist ..)
      · exact key _ (List.Sublist.refl _)
theorem step_nd (w : Way) (hw : w.ok) (ha : w.again ≠ "twice") (s : Sta) (d : Deed) (n : (things s.1).Nodup) : (things (step w s d).1).Nodup := by
  cases d with
  | copy t => exact copied_nd w hw ha s.1 t n
  | act k =>
    simp only [step]
    split
    · exact n
    · split
      · simp only [pasted]
        split
        · exact nd_perm (turn_perm _ _) n
        · split
          · exact nd_sub (dropped_subl _) n
          · exact n
      · simp only [changed]
        split
        · split
          · exact nd_perm (turn_perm _ _) n
          · exact nd_perm (back_perm _) n
        · split
          · exact nd_sub (dropped_subl _) n
          · split
            · split
              · rename_i hne _ _ _ _ _
                obtain ⟨a, q, e⟩ := List.exists_cons_of_ne_nil hne
                rw [e] at n ⊢
                exact n
              · exact n
            · split
              · exact List.nodup_nil
              · exact nd_sub List.filter_sublist n
def loose (p : Pk) : Prop := ∀ x ∈ p, x.2 = 0
theorem step_loose (w : Way) (hw : w.ok) (hp : w.pin = "none") (s : Sta) (d : Deed) (n : loose s.1) : loose (step w s d).1 := by
  have hns : ¬ w.pin = "stays" := by rw [hp]; decide
  cases d with
  | copy t =>
    intro x hx
    rcases copied_sub w s.1 t x hx with h | h
    · exact n x h
    · rw [h]
  | act k =>
    have hd : loose (dropped s.1) := fun x hx => n x ((dropped_subl s.1).subset hx)
    have ht : loose (s.1.drop 1 ++ s.1.take 1) := fun x hx => n x ((turn_perm _ _).mem_iff.mp hx)
    have hb : loose (s.1.drop (s.1.length - 1) ++ s.1.dropLast) := fun x hx => n x ((back_perm _).mem_iff.mp hx)
    simp only [step]
    split
    · exact n
    · split
      · simp only [pasted]
        split
        · exact ht
        · split
          · exact hd
          · exact n
      · simp only [changed, hns, if_false]
        split
        · split
          · exact ht
          · exact hb
        · split
          · exact hd
          · split
            · exact n
            · split
              · exact fun x hx => by cases hx
              · exact fun x hx => n x (List.mem_filter.mp hx).1
theorem states_ind {w : Way} {P : Sta → Prop} (hs : ∀ s d, P s → P (step w s d)) : ∀ (ds : List Deed) (s : Sta), P s → ∀ x ∈ states w s ds, P x
  | [], s, h, x, hx => by simp [states] at hx; rw [hx]; exact h
  | d :: ds, s, h, x, hx => by
    simp only [states, List.mem_cons] at hx
    rcases hx with rfl | hx
    · exact h
    · exact states_ind hs ds _ (hs s d h) x hx
theorem states_at (w : Way) : ∀ (ds : List Deed) (s : Sta) (k : Nat) (x : Sta), (states w s ds)[k + 1]? = some x → ∃ d y, ds[k]? = some d ∧ (states w s ds)[k]? = some y ∧ x = step w y d
  | [], s, k, x, h => by simp [states] at h
  | d :: ds, s, 0, x, h => by
    refine ⟨d, s, rfl, by simp [states], ?_⟩
    cases ds <;> simp [states] at h <;> exact h.symm
  | d :: ds, s, k + 1, x, h => by
    simp only [states, List.getElem?_cons_succ] at h
    obtain ⟨d', y, h1, h2, h3⟩ := states_at w ds (step w s d) k x h
    exact ⟨d', y, by simpa using h1, by simpa [states] using h2, h3⟩
end Pl
namespace Z
open PySem L2
theorem eq_self {d : D} (h : sh d = true) : cmpD .eq d d = some true := by
  rw [eq_D _ _ h h]
  congr 1
  exact SeqAt.eqv_refl d (SeqAt.canLay_of_shaped h)
theorem eqv_same {d : D} (h : sh d = true) : PyData.eqv d d = true := SeqAt.eqv_refl d (SeqAt.canLay_of_shaped h)
theorem ne_self {d : D} (h : sh d = true) : cmpD .ne d d = some false := by
  rw [ne_D _ _ h h, SeqAt.eqv_refl d (SeqAt.canLay_of_shaped h)]; rfl
@[simp] theorem bltV_list_l (h : MH) (xs : List D) : bltV h .list [.d (.list xs)] = some (.d (.list xs)) := rfl
@[simp] theorem bltV_list_t (h : MH) (xs : List D) : bltV h .list [.d (.tuple xs)] = some (.d (.list xs)) := rfl
@[simp] theorem bltV_sum_d (h : MH) (x : D) : bltV h .sum [.d x] = (bltD .sum [x]).map .d := rfl
@[simp] theorem bltV_lenset_d (h : MH) (x : D) : bltV h .lenset [.d x] = (bltD .lenset [x]).map .d := rfl
@[simp] theorem bltV_any_d (h : MH) (x : D) : bltV h .any [.d x] = (bltD .any [x]).map .d := rfl
@[simp] theorem isnot_bool (a b : Bool) : cmpD .isnot (.bool a) (.bool b) = some (!decide (a = b)) := rfl
@[simp] theorem is_bool (a b : Bool) : cmpD .is_ (.bool a) (.bool b) = some (decide (a = b)) := rfl
@[simp] theorem isnot_none : cmpD .isnot .none .none = some false := rfl
@[simp] theorem is_none : cmpD .is_ .none .none = some true := rfl
@[simp] theorem isnot_none_l (a : List D) : cmpD .isnot (.list a) .none = some true := rfl
@[simp] theorem is_none_l (a : List D) : cmpD .is_ (.list a) .none = some false := rfl
@[simp] theorem isnot_none_t (a : List D) : cmpD .isnot (.tuple a) .none = some true := rfl
@[simp] theorem is_none_t (a : List D) : cmpD .is_ (.tuple a) .none = some false := rfl
@[simp] theorem isnot_none_i (a : Int) : cmpD .isnot (.int a) .none = some true := rfl
@[simp] theorem is_none_i (a : Int) : cmpD .is_ (.int a) .none = some false := rfl
theorem if_ok {α : Type} (c : Prop) [Decidable c] (u v : α) (h : MH) : (if c then Res.ok u h else Res.ok v h) = Res.ok (if c then u else v) h := by split <;> rfl
theorem if_d (c : Prop) [Decidable c] (u v : D) : (if c then Val.d u else Val.d v) = Val.d (if c then u else v) := by split <;> rfl
theorem if_bool (c : Prop) [Decidable c] (u v : Bool) : (if c then PyData.bool u else PyData.bool v) = PyData.bool (if c then u else v) := by split <;> rfl
def rg2K (v w : Val) (h : MH) : Res Src := match v, w with
  | .d (.int i), .d (.int j) => if rgOk i && rgOk j then .ok (.items (rangeD i j)) h else .bad
  | _, _ => .bad
@[simp] theorem denI_range2 (L : Lib) (a b : Ce) (e : Env) (h : MH) : denI L (.range2 a b) e h = (den L a e h).bind fun v h => (den L b e h).bind fun w h => rg2K v w h := rfl
@[simp] theorem rg2K_int (i j : Int) (h : MH) : rg2K (.d (.int i)) (.d (.int j)) h = if rgOk i && rgOk j then .ok (.items (rangeD i j)) h else .bad := rfl
/-- a loop whose body goes on -/
theorem forRun_all {t : Ct} {body : Env → MH → RS} {P : Nat → Env → MH → Prop} : ∀ (ds : List D) (i : Nat) (e : Env) (h : MH), P i e h →
    (∀ j d e h, ds[j]? = some d → P (i + j) e h → ∃ e1, bindT t (.d d) e = some e1 ∧ ∃ e2 h2, body e1 h = .next e2 h2 ∧ P (i + j + 1) e2 h2) → ∃ e' h', forRun t body ds e h = .next e' h' ∧ P (i + ds.length) e' h'
  | [], i, e, h, p, _ => ⟨e, h, rfl, p⟩
  | d :: ds, i, e, h, p, s => by
    obtain ⟨e1, b1, e2, h2, b2, p2⟩ := s 0 d e h rfl p
    obtain ⟨e', h', r, p'⟩ := forRun_all ds (i + 1) e2 h2 p2 fun j d' e h hd hp => by
      have := s (j + 1) d' e h (by simpa using hd) (by rw [show i + (j + 1) = i + 1 + j by omega]; exact hp)
      rw [show i + (j + 1) = i + 1 + j by omega] at this
      exact this
    refine ⟨e', h', ?_, by rw [List.length_cons, show i + (ds.length + 1) = i + 1 + ds.length by omega]; exact p'⟩
    rw [forRun_cons, b1, fstK_some, b2, nxtK_next, r]
/-- a call that answers True -/
def Yes (r : Res Val) : Prop := ∃ h, r = .ok (.d (.bool true)) h
end Z

set_option Elab.async false
set_option linter.all false
set_option autoImplicit false
set_option maxRecDepth 100000
set_option maxHeartbeats 4000000
/-! QC: reading meanings of instances. -/
namespace Z
open PySem L2
section
variable (L : Lib) (e : Env) (h : MH)
def fldC (o : Option Cell) (cs : List Str) (f : Str) : Option Val := match o with
  | some (.ins c fs) => if cs.contains c then fs.lookup f else none
  | _ => none
@[simp] theorem den_fld (cs : List Str) (o : Ce) (f : Str) : den L (.fld cs o f) e h = (den L o e h).bind fun v h => lift h (fldV h cs f v) := rfl
@[simp] theorem fldV_ref (n : Nat) (cs : List Str) (f : Str) : fldV h cs f (.ref n) = fldC h[n]? cs f := by
  unfold fldV fldC
  first
    | rfl
    | (dsimp only; done)
    | (dsimp only; cases h[n]? with
      | none => rfl
      | some c => cases c <;> rfl)
theorem fldC_ins {c : Str} {fs : List (Str × Val)} {cs : List Str} {f : Str} {v : Val} (hc : cs.contains c = true) (hf : fs.lookup f = some v) : fldC (some (.ins c fs)) cs f = some v := by
  unfold fldC
  simp only [hc, if_true, hf]
@[simp] theorem den_mcall (c m : Str) (k : Nat) (o : Ce) (es : Ces) : den L (.mcall c m k o es) e h = (den L o e h).bind fun x h => if methAt h c m x then (dens L es e h).bind fun vs h => callG L.fn[k]? (x :: vs) h else .bad := rfl
theorem methAt_ins {n : Nat} {c m : Str} {fs : List (Str × Val)} (hc : h[n]? = some (.ins c fs)) (hm : fs.lookup m = none) : methAt h c m (.ref n) = true := by
  unfold methAt
  simp only [hc, hm, decide_true, Bool.true_and, Option.isNone_none]
def mkR (n : Nat) (v : Val) (h1 : MH) : Res Val := if noneD v then .ok (.ref n) h1 else .bad
def mkK (o : Option FnS) (c : Str) (vs : List Val) (h : MH) : Res Val := match o with
  | some g => (g (.ref h.length :: vs) (h ++ [.ins c []])).bind (mkR h.length)
  | none => .bad
@[simp] theorem den_make (c : Str) (k : Nat) (es : Ces) : den L (.make c k es) e h = (dens L es e h).bind fun vs h => mkK L.fn[k]? c vs h := rfl
@[simp] theorem mkK_some (g : FnS) (c : Str) (vs : List Val) : mkK (some g) c vs h = (g (.ref h.length :: vs) (h ++ [.ins c []])).bind (mkR h.length) := rfl
@[simp] theorem mkR_none (n : Nat) : mkR n (.d .none) h = .ok (.ref n) h := rfl
def lenK (o : Option FnS) (x : Val) (h : MH) : Res Val := match o with
  | some g => (match g [x] h with
    | .ok v h1 => if lenR v then .ok v h1 else .bad
    | _ => .bad)
  | none => .bad
@[simp] theorem den_lenc (c : Str) (k : Nat) (o : Ce) : den L (.lenc c k o) e h = (den L o e h).bind fun x h => if methAt h c "__len__" x then lenK L.fn[k]? x h else .bad := rfl
theorem lenK_some {g : FnS} {x : Val} {i : Int} {h1 : MH} (hg : g [x] h = .ok (.d (.int i)) h1) (h0 : 0 ≤ i) (hi : i < 2 ^ 63) : lenK (some g) x h = .ok (.d (.int i)) h1 := by
  unfold lenK
  simp only [hg]
  have : lenR (.d (.int i)) = true := by unfold lenR; simp only [h0, hi, decide_true, Bool.true_and]
  rw [if_pos this]
@[simp] theorem exec_setf (cs : List Str) (o : Ce) (f : Str) (a : Ce) : exec L (.setf cs o f a) e h = ofR e (den L a e h) fun v h => ofR e (den L o e h) fun x h => nextH (setfV h cs x f v) e := rfl
theorem setfV_ins {n : Nat} {c : Str} {fs : List (Str × Val)} {cs : List Str} (f : Str) (v : Val) (hn : h[n]? = some (.ins c fs)) (hc : cs.contains c = true) (hl : fs.length < 900) : setfV h cs (.ref n) f v = some (h.set n (.ins c (putF f v fs))) := by
  unfold setfV
  simp only [hn, hc, hl, decide_true, Bool.and_self, if_true]
def popC (o : Option Cell) (h : MH) (n : Nat) : Res Val := match o with
  | some (.lst vs) => (match vs[vs.length - 1]? with
    | some v => .ok v (h.set n (.lst vs.dropLast))
    | none => .bad)
  | _ => .bad
def popK (x : Val) (h : MH) : Res Val := match x with
  | .ref n => popC h[n]? h n
  | _ => .bad
@[simp] theorem popK_ref (n : Nat) : popK (.ref n) h = popC h[n]? h n := rfl
theorem den_popQ (o : Ce) : den L (.mst .pop o .nil) e h = (den L o e h).bind popK := by
  simp only [den, dens, Res.bind_ok]
  congr 1
  funext x h
  have em : mstAt h .pop x = lstAt h x := by cases x <;> rfl
  rw [em]
  unfold popK popC
  cases x with
  | ref n =>
    unfold lstAt mstV
    simp only
    cases h[n]? with
    | none => rfl
    | some c => cases c with
      | lst vs =>
        simp only [if_true]
        cases vs[vs.length - 1]? <;> rfl
      | _ => rfl
  | _ => rfl
theorem popC_snoc (vs : List Val) (v : Val) (n : Nat) : popC (some (.lst (vs ++ [v]))) h n = .ok v (h.set n (.lst vs)) := by
  simp [popC]
end
theorem cmpV_rd (h : MH) (n : Nat) (o : Cop) (ho : eqO o = true) {d : D} (hd : asD h (.ref n) = some d) (b : D) : cmpV h o (.ref n) (.d b) = cmpD o d b := by
  cases o <;> first | (simp [eqO] at ho; done) | skip
  all_goals
    unfold cmpV cmpV0 asX dicR
    cases b <;> simp [noneD, hd, eqO]
theorem while_no {c : Env → MH → Res Val} {body : Env → MH → RS} {n : Nat} {e : Env} {h h1 : MH} (q : c e h = .ok (.d (.bool false)) h1) : whileRun c body (n + 1) e h = .next e h1 := by
  simp only [whileRun]; rw [q]
theorem while_go {c : Env → MH → Res Val} {body : Env → MH → RS} {n : Nat} {e e2 : Env} {h h1 h2 : MH} (q : c e h = .ok (.d (.bool true)) h1) (r : body e h1 = .next e2 h2) : whileRun c body (n + 1) e h = whileRun c body n e2 h2 := by
  conv => lhs; unfold whileRun
  rw [q]; simp only; rw [r]
end Z

set_option Elab.async false
set_option linter.all false
set_option autoImplicit false
set_option maxRecDepth 100000
set_option maxHeartbeats 4000000
/-! P13: desks. -/
namespace Tx
open L2 Z Pl
/-- a desk's fields; its line stands at b + 1, its states at b + 2 -/
def dkF (w : Way) (size k : Int) (b : Nat) : List (PySem.Str × Val) := [("way", .d (wD w)), ("size", .d (.int size)), ("sight", .d (.int k)), ("line", .ref (b + 1)), ("states", .ref (b + 2))]
theorem dk_way (w : Way) (size k : Int) (b : Nat) : (dkF w size k b).lookup ("way" : PySem.Str) = some (.d (wD w)) := by kernel_rfl
theorem dk_size (w : Way) (size k : Int) (b : Nat) : (dkF w size k b).lookup ("size" : PySem.Str) = some (.d (.int size)) := by kernel_rfl
theorem dk_sight (w : Way) (size k : Int) (b : Nat) : (dkF w size k b).lookup ("sight" : PySem.Str) = some (.d (.int k)) := by kernel_rfl
theorem dk_line (w : Way) (size k : Int) (b : Nat) : (dkF w size k b).lookup ("line" : PySem.Str) = some (.ref (b + 1)) := by kernel_rfl
theorem dk_states (w : Way) (size k : Int) (b : Nat) : (dkF w size k b).lookup ("states" : PySem.Str) = some (.ref (b + 2)) := by kernel_rfl
theorem dk_no (w : Way) (size k : Int) (b : Nat) : (dkF w size k b).lookup ("view" : PySem.Str) = none ∧ (dkF w size k b).lookup ("do" : PySem.Str) = none ∧ (dkF w size k b).lookup ("undo" : PySem.Str) = none ∧ (dkF w size k b).lookup ("state" : PySem.Str) = none ∧ (dkF w size k b).lookup ("done" : PySem.Str) = none ∧ (dkF w size k b).lookup ("__len__" : PySem.Str) = none :=
  ⟨by kernel_rfl, by kernel_rfl, by kernel_rfl, by kernel_rfl, by kernel_rfl, by kernel_rfl⟩
/-- a desk's three cells -/
structure DkH (h : MH) (b : Nat) (w : Way) (size k : Int) (row : List Deed) (ss : List Sta) : Prop where
  ins : h[b]? = some (.ins "Desk" (dkF w size k b))
  line : h[b + 1]? = some (.lst ((row.map dD).map .d))
  sts : h[b + 2]? = some (.lst ((ss.map sD).map .d))
section
variable {h : MH} {b : Nat} {w : Way} {size k : Int} {row : List Deed} {ss : List Sta} {s : Sta}
theorem dk_cls : (["Desk"] : List PySem.Str).contains ("Desk" : PySem.Str) = true := by decide +kernel
theorem DkH.f_way (D : DkH h b w size k row ss) : fldC h[b]? ["Desk"] "way" = some (.d (wD w)) := by rw [D.ins]; exact fldC_ins dk_cls (dk_way ..)
theorem DkH.f_size (D : DkH h b w size k row ss) : fldC h[b]? ["Desk"] "size" = some (.d (.int size)) := by rw [D.ins]; exact fldC_ins dk_cls (dk_size ..)
theorem DkH.f_sight (D : DkH h b w size k row ss) : fldC h[b]? ["Desk"] "sight" = some (.d (.int k)) := by rw [D.ins]; exact fldC_ins dk_cls (dk_sight ..)
theorem DkH.f_line (D : DkH h b w size k row ss) : fldC h[b]? ["Desk"] "line" = some (.ref (b + 1)) := by rw [D.ins]; exact fldC_ins dk_cls (dk_line ..)
theorem DkH.f_states (D : DkH h b w size k row ss) : fldC h[b]? ["Desk"] "states" = some (.ref (b + 2)) := by rw [D.ins]; exact fldC_ins dk_cls (dk_states ..)
theorem atI_snoc {α : Type} (l : List α) (a : α) : atI (l ++ [a]) (-1) = some a := by
  rw [atI_last _ (by simp)]; simp
theorem m_dk_view (D : DkH h b w size k row (ss ++ [s])) (hp : s.1.length ≤ 90) : g_Desk_view [.ref b] h = .ok (.d (veD k (view k s))) h := by
  have a := atI_snoc (List.map (Val.d ∘ sD) ss) (.d (sD s))
  have e := D.sts
  simp only [List.map_append, List.map_cons, List.map_nil] at e
  simp -implicitDefEqProofs [g_Desk_view, runF_def, b_Desk_view, D.f_states, D.f_sight, e, a, m_view_of s k h hp]
theorem m_dk_state (D : DkH h b w size k row (ss ++ [s])) : g_Desk_state [.ref b] h = .ok (.d (sD s)) h := by
  have a := atI_snoc (List.map (Val.d ∘ sD) ss) (.d (sD s))
  have e := D.sts
  simp only [List.map_append, List.map_cons, List.map_nil] at e
  simp -implicitDefEqProofs [g_Desk_state, runF_def, b_Desk_state, D.f_states, e, a]
theorem m_dk_done (D : DkH h b w size k row ss) : g_Desk_done [.ref b] h = .ok (.d (.list (row.map dD))) h := by
  have e := D.line
  have q : bltV h .list [.ref (b + 1)] = some (.d (.list (row.map dD))) := by
    show (asDs h [.ref (b + 1)]).bind (fun ds => (bltD .list ds).map Val.d) = _
    simp only [asDs, asD_ref, e, datC, dats_map, Option.map_some, Option.bind_some]
    rfl
  simp -implicitDefEqProofs only [g_Desk_done, runF_def, b_Desk_done]
  simp -implicitDefEqProofs [D.f_line, q]
theorem m_dk_len (D : DkH h b w size k row ss) : g_Desk_len [.ref b] h = .ok (.d (.int row.length)) h := by
  simp -implicitDefEqProofs [g_Desk_len, runF_def, b_Desk_len, D.f_line, D.line]
theorem sh_dD {size : Int} {d : Deed} (h : d.ok size) : shD 1 (dD d) := by
  cases d with
  | copy t =>
    refine shD_tup (n := 0) fun y hy => ?_
    simp at hy
    rcases hy with rfl | rfl
    · exact shD_str (by decide +kernel)
    · exact shD_int _
  | act k =>
    refine shD_tup (n := 0) fun y hy => ?_
    simp at hy
    subst hy
    rcases h with rfl | rfl | rfl | rfl | rfl <;> exact shD_str (by decide +kernel)
theorem shR {size : Int} {row : List Deed} (h : ∀ d ∈ row, d.ok size) : shD 2 (.list (row.map dD)) := shD_lst (n := 1) fun y hy => by
    obtain ⟨x, hx, rfl⟩ := List.mem_map.mp hy
    exact sh_dD (h x hx)
theorem sh_rw {size : Int} {row : List Deed} (h : ∀ d ∈ row, d.ok size) : sh (.list (row.map dD)) = true := sh_of (shR h) (by decide)
theorem m_check_deed (size : Int) (d : Deed) (hd : d.ok size) (h : MH) : g_check_deed [.d (.int size), .d (dD d)] h = .ok (.d .none) h := by
  simp -implicitDefEqProofs [g_check_deed, runF_def, b_check_deed, m_is_one size d hd]
theorem DkH.meth (D : DkH h b w size k row ss) {m : PySem.Str} (hm : (dkF w size k b).lookup m = none) : methAt h "Desk" m (.ref b) = true := methAt_ins h D.ins hm
/-- the heap behind a deed -/
def dkPut (h : MH) (b : Nat) (row : List Deed) (ss : List Sta) : MH := (h.set (b + 2) (.lst ((ss.map sD).map .d))).set (b + 1) (.lst ((row.map dD).map .d))
theorem dkPut_H (D : DkH h b w size k row ss) (row' : List Deed) (ss' : List Sta) : DkH (dkPut h b row' ss') b w size k row' ss' := by
  have l1 := (List.getElem?_eq_some_iff.mp D.line).1
  have l2 := (List.getElem?_eq_some_iff.mp D.sts).1
  unfold dkPut
  refine ⟨?_, ?_, ?_⟩
  · rw [List.getElem?_set_ne (by omega), List.getElem?_set_ne (by omega)]; exact D.ins
  · rw [List.getElem?_set_self (by simpa using l1)]
  · rw [List.getElem?_set_ne (by omega), List.getElem?_set_self l2]
theorem m_dk_do (hw : w.ok) (D : DkH h b w size k row (ss ++ [s])) {d : Deed} (hd : d.ok size) (hp : (s.1.length : Int) ≤ w.n) (hl : row.length < 100) (hs : ss.length ≤ 1000) :
    g_Desk_do [.ref b, .d (dD d)] h = .ok (.d (veD k (view k (step w s d)))) (dkPut h b (row ++ [d]) (ss ++ [s] ++ [step w s d])) := by
  have n3 := hw.n3
  have hq := step_len w s d hp
  have D2 := dkPut_H D (row ++ [d]) (ss ++ [s] ++ [step w s d])
  have v2 := m_dk_view D2 (by omega)
  have fs := D.f_states
  have fl := D.f_line
  have fw := D.f_way
  have fz := D.f_size
  have es := D.sts
  have el := D.line
  have a : atI (((ss ++ [s]).map sD).map Val.d) (-1) = some (.d (sD s)) := by rw [List.map_append, List.map_append]; exact atI_snoc _ _
  have mv : methAt (dkPut h b (row ++ [d]) (ss ++ [s] ++ [step w s d])) "Desk" "view" (.ref b) = true := D2.meth (dk_no ..).1
  have hH : dkPut h b (row ++ [d]) (ss ++ [s] ++ [step w s d]) = (h.set (b + 2) (.lst (((ss ++ [s]).map sD).map .d ++ [.d (sD (step w s d))]))).set (b + 1) (.lst ((row.map dD).map .d ++ [.d (dD d)])) := by
    unfold dkPut
    rw [List.map_append (l₁ := ss ++ [s]), List.map_append (l₁ := (ss ++ [s]).map sD), List.map_append (l₁ := row), List.map_append (l₁ := row.map dD)]
    rfl
  rw [hH] at v2 mv
  have hl2 : ((row.map dD).map Val.d).length < PySem.sizeLine := by simp [PySem.sizeLine]; omega
  have hs2 : (((ss ++ [s]).map sD).map Val.d).length < PySem.sizeLine := by simp [PySem.sizeLine]; omega
  have hlr : ((row.map dD).map Val.d).length = row.length := by simp
  have e1 : ∀ c, (h.set (b + 2) c)[b]? = h[b]? := fun c => by rw [List.getElem?_set_ne (by omega)]
  have e2 : ∀ c, (h.set (b + 2) c)[b + 1]? = h[b + 1]? := fun c => by rw [List.getElem?_set_ne (by omega)]
  have cd := fun h => m_check_deed size d hd h
  have st := fun h => m_step w hw s d size hd h (by omega)
  rw [hH]
  generalize hX : ((ss ++ [s]).map sD).map Val.d = X at es a v2 mv hs2 ⊢
  generalize hY : (row.map dD).map Val.d = Y at el v2 mv hl2 hlr ⊢
  have hne : ¬ ((row.length : Int) = 100) := by omega
  clear D2 D
  simp -implicitDefEqProofs (disch := first | assumption | omega | (simp; done) | fail) [g_Desk_do, runF_def, b_Desk_do, cd, fz, fl, fs, fw, el, es, a, st, e1, e2, appC_lst, v2, mv, c_MOST_DONE, eqv_int, hlr, hne]
theorem m_dk_full (D : DkH h b w size k row ss) {d : Deed} (hd : d.ok size) (hl : row.length = 100) : g_Desk_do [.ref b, .d (dD d)] h = .exc "BadNumber" h := by
  have fl := D.f_line
  have fz := D.f_size
  have el := D.line
  have cd := fun h => m_check_deed size d hd h
  have hlr : ((row.map dD).map Val.d).length = 100 := by simp [hl]
  generalize hY : (row.map dD).map Val.d = Y at el hlr
  clear D
  simp -implicitDefEqProofs (disch := first | assumption | omega | (simp; done) | fail) [g_Desk_do, runF_def, b_Desk_do, cd, fz, fl, el, c_MOST_DONE, eqv_int, hlr]
theorem m_dk_bad (D : DkH h b w size k row ss) {x : PySem.PyData} (hx : ∀ h, g_check_deed [.d (.int size), .d x] h = .exc "BadDeeds" h) : g_Desk_do [.ref b, .d x] h = .exc "BadDeeds" h := by
  have fz := D.f_size
  clear D
  simp -implicitDefEqProofs [g_Desk_do, runF_def, b_Desk_do, fz, hx]
theorem m_dk_undo {d : Deed} (hd : d.ok size) (hr : ∀ d ∈ row, d.ok size) (D : DkH h b w size k (row ++ [d]) (ss ++ [s])) : g_Desk_undo [.ref b] h = .ok (.d (dD d)) (dkPut h b row ss) := by
  have fl := D.f_line
  have fs := D.f_states
  have el := D.line
  have es := D.sts
  have e0 : asD h (.ref (b + 1)) = some (.list ((row ++ [d]).map dD)) := by
    rw [asD_ref, el]; simp only [datC, dats_map, Option.map_some]
  have hall : ∀ x ∈ row ++ [d], x.ok size := fun x hx => by
    rcases List.mem_append.mp hx with m | m
    · exact hr x m
    · rw [List.mem_singleton.mp m]; exact hd
  have c0 : cmpV h .eq (.ref (b + 1)) (.d (.list [])) = some false := by
    rw [cmpV_rd h _ .eq rfl e0]
    have s1 := sh_of (shR hall) (by decide)
    have s2 : sh (.list []) = true := by decide +kernel
    rw [eq_D _ _ s1 s2, eqv_lst]
    congr 1
    cases hrr : row with
    | nil => rfl
    | cons a r => rfl
  rw [List.map_append, List.map_append] at el es
  have e1 : ∀ c, (h.set (b + 2) c)[b]? = h[b]? := fun c => by rw [List.getElem?_set_ne (by omega)]
  have e2 : ∀ c, (h.set (b + 2) c)[b + 1]? = h[b + 1]? := fun c => by rw [List.getElem?_set_ne (by omega)]
  have p1 : popC h[b + 2]? h (b + 2) = .ok (.d (sD s)) (h.set (b + 2) (.lst ((ss.map sD).map .d))) := by rw [es]; exact popC_snoc _ _ _ _
  have p2 : ∀ c, popC (h.set (b + 2) c)[b + 1]? (h.set (b + 2) c) (b + 1) = .ok (.d (dD d)) ((h.set (b + 2) c).set (b + 1) (.lst ((row.map dD).map .d))) := fun c => by rw [e2, el]; exact popC_snoc _ _ _ _
  replace p2 := p2 (.lst ((ss.map sD).map .d))
  replace e1 := e1 (.lst ((ss.map sD).map .d))
  unfold dkPut
  generalize (row.map dD).map Val.d = Y at p2 ⊢
  generalize (ss.map sD).map Val.d = X at p1 p2 e1 ⊢
  generalize (h.set (b + 2) (.lst X)) = h2 at p1 p2 e1 ⊢
  clear D el es
  simp -implicitDefEqProofs [g_Desk_undo, runF_def, b_Desk_undo, fl, fs, c0, den_popQ, p1, p2, e1]
theorem m_dk_undo0 (D : DkH h b w size k [] ss) : g_Desk_undo [.ref b] h = .exc "NotFound" h := by
  have fl := D.f_line
  have el := D.line
  have e0 : asD h (.ref (b + 1)) = some (.list []) := by
    rw [asD_ref, el]; rfl
  have c0 : cmpV h .eq (.ref (b + 1)) (.d (.list [])) = some true := by
    rw [cmpV_rd h _ .eq rfl e0]
    decide +kernel
  clear D el
  simp -implicitDefEqProofs [g_Desk_undo, runF_def, b_Desk_undo, fl, c0]
/-! ### doors -/
theorem call_do {x r : D} {h' : MH} (hm : methAt h "Desk" "do" (.ref b) = true) (e : g_Desk_do [.ref b, .d x] h = .ok (.d r) h') : g_law_call [.ref b, .d (.int 0), .d x] h = .ok (.d (.tuple [.str "told", r])) h' := by
  simp -implicitDefEqProofs [g_law_call, runF_def, b_law_call, eqv_int, hm, e]
theorem call_dox {x : D} {c t : PySem.Str} {h' : MH} (hm : methAt h "Desk" "do" (.ref b) = true) (e : g_Desk_do [.ref b, .d x] h = .exc c h') (hc : (["BadWay", "BadDeeds", "BadViews", "BadNumber", "BadText", "NotFound"] : List PySem.Str).contains c = true) (he : ∀ h, g_law_error [.exc c] h = .ok (.d (.str t)) h) : g_law_call [.ref b, .d (.int 0), .d x] h = .ok (.d (.tuple [.str "error", .str t])) h' := by
  simp -implicitDefEqProofs only [g_law_call, runF_def, b_law_call]
  simp -implicitDefEqProofs [-List.contains_eq_mem, -List.contains_cons, eqv_int, hm, e, hc, he]
theorem call_undo {r : D} {h' : MH} (hm : methAt h "Desk" "undo" (.ref b) = true) (e : g_Desk_undo [.ref b] h = .ok (.d r) h') : g_law_call [.ref b, .d (.int 1), .d (.int 0)] h = .ok (.d (.tuple [.str "told", r])) h' := by
  simp -implicitDefEqProofs [g_law_call, runF_def, b_law_call, eqv_int, hm, e]
theorem call_undox {c t : PySem.Str} {h' : MH} (hm : methAt h "Desk" "undo" (.ref b) = true) (e : g_Desk_undo [.ref b] h = .exc c h') (hc : (["BadWay", "BadDeeds", "BadViews", "BadNumber", "BadText", "NotFound"] : List PySem.Str).contains c = true) (he : ∀ h, g_law_error [.exc c] h = .ok (.d (.str t)) h) : g_law_call [.ref b, .d (.int 1), .d (.int 0)] h = .ok (.d (.tuple [.str "error", .str t])) h' := by
  simp -implicitDefEqProofs only [g_law_call, runF_def, b_law_call]
  simp -implicitDefEqProofs [-List.contains_eq_mem, -List.contains_cons, eqv_int, hm, e, hc, he]
theorem m_lerr_none (h : MH) : g_law_error [.exc "NotFound"] h = .ok (.d (.str "none")) h := by rfl
theorem m_lerr_deeds (h : MH) : g_law_error [.exc "BadDeeds"] h = .ok (.d (.str "deeds")) h := by rfl
theorem m_lerr_number (h : MH) : g_law_error [.exc "BadNumber"] h = .ok (.d (.str "number")) h := by rfl
/-- what is no deed -/
def badsD (size : Int) : List D := [.none, .int 5, .str "next", .tuple [], .tuple [.str "copy"], .tuple [.str "next", .int 0], .tuple [.str "copy", .int size], .tuple [.str "copy", .int (-1)], .tuple [.str "copy", .bool true], .list [.str "next"], .tuple [.str "Next"], .tuple [.int 0], .tuple [.str "copy", .int 0, .int 0], .tuple [.str "paste", .int 0]]
theorem bads_bad (hs : size = 2 ∨ size = 3) {x : D} (hx : x ∈ badsD size) (h : MH) : g_check_deed [.d (.int size), .d x] h = .exc "BadDeeds" h := by
  simp only [badsD, List.mem_cons, List.not_mem_nil, or_false] at hx
  rcases hs with rfl | rfl <;> rcases hx with rfl | rfl | rfl | rfl | rfl | rfl | rfl | rfl | rfl | rfl | rfl | rfl | rfl | rfl <;> kernel_rfl
theorem bad_empty (h : MH) : g_check_deed [.d (.int 3), .d (.tuple [.str "empty", .int 1])] h = .exc "BadDeeds" h := by kernel_rfl
end
end Tx

set_option Elab.async false
set_option linter.all false
set_option autoImplicit false
set_option maxRecDepth 100000
set_option maxHeartbeats 4000000
/-! L13: the law of desks. -/
namespace Tx
open L2 Z Pl
theorem sts_snoc (w : Way) (d : Deed) : ∀ (row : List Deed) (s : Sta), states w s (row ++ [d]) = states w s row ++ [step w ((states w s row).getLastD s) d]
  | [], s => rfl
  | e :: row, s => by
    have ih := sts_snoc w d row (step w s e)
    have hne : states w (step w s e) row ≠ [] := by rw [states_runs]; simp
    have hl : (s :: states w (step w s e) row).getLastD s = (states w (step w s e) row).getLastD (step w s e) := by
      rw [List.getLastD_eq_getLast?, List.getLastD_eq_getLast?, List.getLast?_cons, List.getLast?_eq_some_getLast hne]
      rfl
    simp only [List.cons_append, states, ih, hl]
def lastS (w : Way) (row : List Deed) : Sta := (states w Pl.start row).getLastD Pl.start
theorem sts_split (w : Way) (row : List Deed) : states w Pl.start row = (states w Pl.start row).dropLast ++ [lastS w row] := by
  have hne : states w Pl.start row ≠ [] := by rw [states_runs]; simp
  unfold lastS
  rw [List.getLastD_eq_getLast?, List.getLast?_eq_some_getLast hne]
  exact (List.dropLast_concat_getLast hne).symm
theorem lastS_len (w : Way) (hw : w.ok) (row : List Deed) : ((lastS w row).1.length : Int) ≤ w.n := states_len2 w hw row Pl.start (start_len w hw) _ (by
  have e := sts_split w row
  rw [e]
  simp)
def w2 : Way := ⟨"stack", 3, "twice", "refuse", "up", "stays", "loose"⟩
theorem w2_ok : w2.ok := ⟨.inr (.inl rfl), by decide, by decide, .inr (.inl rfl), .inr rfl, .inr rfl, .inl rfl, .inr rfl⟩
/-- a desk's three cells -/
def dk3 (b : Nat) (w : Way) (size k : Int) (row : List Deed) : MH := [.ins "Desk" (dkF w size k b), .lst ((row.map dD).map .d), .lst (((states w Pl.start row).map sD).map .d)]
def HH (ns : List Int) (c : Int) (w : Way) (size k : Int) (row row2 : List Deed) : MH := dh ns c (dk3 2 w size k row ++ dk3 5 w2 3 0 row2)
section
variable (ns : List Int) (c : Int) (w : Way) (size k : Int) (row row2 : List Deed)
theorem HH_1 : DkH (HH ns c w size k row row2) 2 w size k row (states w Pl.start row) := ⟨rfl, rfl, rfl⟩
theorem HH_2 : DkH (HH ns c w size k row row2) 5 w2 3 0 row2 (states w2 Pl.start row2) := ⟨rfl, rfl, rfl⟩
theorem HH_p1 (row' : List Deed) : dkPut (HH ns c w size k row row2) 2 row' (states w Pl.start row') = HH ns c w size k row' row2 := rfl
theorem HH_p2 (row' : List Deed) : dkPut (HH ns c w size k row row2) 5 row' (states w2 Pl.start row') = HH ns c w size k row row' := rfl
end
section
variable {h : MH} {b : Nat} {w : Way} {size k : Int} {row : List Deed}
theorem dk_do (hw : w.ok) (X : DkH h b w size k row (states w Pl.start row)) {d : Deed} (hd : d.ok size) (hl : row.length < 100) : g_Desk_do [.ref b, .d (dD d)] h = .ok (.d (veD k (view k (step w (lastS w row) d)))) (dkPut h b (row ++ [d]) (states w Pl.start (row ++ [d]))) := by
  have e := sts_split w row
  rw [sts_snoc]
  have hs : ((states w Pl.start row).dropLast).length ≤ 1000 := by rw [List.length_dropLast, states_length]; omega
  rw [e] at X
  have := m_dk_do hw X hd (lastS_len w hw row) hl hs
  rw [this]
  rw [← e]; rfl
theorem dk_undo {d : Deed} (hd : d.ok size) (hr : ∀ d ∈ row, d.ok size) (X : DkH h b w size k (row ++ [d]) (states w Pl.start (row ++ [d]))) : g_Desk_undo [.ref b] h = .ok (.d (dD d)) (dkPut h b row (states w Pl.start row)) := by
  rw [sts_snoc] at X
  exact m_dk_undo hd hr X
theorem dk_view (hw : w.ok) (X : DkH h b w size k row (states w Pl.start row)) : g_Desk_view [.ref b] h = .ok (.d (veD k (view k (lastS w row)))) h := by
  rw [sts_split] at X
  have := lastS_len w hw row
  have n3 := hw.n3
  exact m_dk_view X (by omega)
theorem dk_state (X : DkH h b w size k row (states w Pl.start row)) : g_Desk_state [.ref b] h = .ok (.d (sD (lastS w row))) h := by
  rw [sts_split] at X
  exact m_dk_state X
theorem m_dk_init (hw : w.ok) (h2 : 2 ≤ size) (h3 : size ≤ 3) (k0 : 0 ≤ k) (k1 : k ≤ 1) (h : MH) (n : Nat) (hn : n = h.length) : g_Desk_init [.ref n, .d (wD w), .d (.int size), .d (.int k)] (h ++ [.ins "Desk" []]) = .ok (.d .none) (h ++ dk3 n w size k []) := by
  subst hn
  have sf : ∀ (fs : List (PySem.Str × Val)) (r : MH) (f : PySem.Str) (v : Val), fs.length < 900 → setfV (h ++ .ins "Desk" fs :: r) ["Desk"] (.ref h.length) f v = some (h ++ .ins "Desk" (Z.putF f v fs) :: r) := fun fs r f v hl => by
    rw [setfV_ins _ f v (c := "Desk") (fs := fs) (by rw [List.getElem?_append_right (Nat.le_refl _)]; simp) dk_cls hl]
    rw [List.set_append_right _ _ (Nat.le_refl _)]
    simp
  have cs := fun h => m_check_sight k h k0 k1
  have cz := fun h => m_check_size size h h2 h3
  have cw := fun h => m_check_way w hw h
  have e0 : c_START.2 = sD Pl.start := rfl
  have p1 : ∀ v, Z.putF ("way" : PySem.Str) v [] = ([("way", v)] : List (PySem.Str × Val)) := fun v => rfl
  have p2 : ∀ v a, Z.putF ("size" : PySem.Str) v [("way", a)] = ([("way", a), ("size", v)] : List (PySem.Str × Val)) := fun v a => by kernel_rfl
  have p3 : ∀ v a b, Z.putF ("sight" : PySem.Str) v [("way", a), ("size", b)] = ([("way", a), ("size", b), ("sight", v)] : List (PySem.Str × Val)) := fun v a b => by kernel_rfl
  have p4 : ∀ v a b c, Z.putF ("line" : PySem.Str) v [("way", a), ("size", b), ("sight", c)] = ([("way", a), ("size", b), ("sight", c), ("line", v)] : List (PySem.Str × Val)) := fun v a b c => by kernel_rfl
  have p5 : ∀ v a b c d, Z.putF ("states" : PySem.Str) v [("way", a), ("size", b), ("sight", c), ("line", d)] = ([("way", a), ("size", b), ("sight", c), ("line", d), ("states", v)] : List (PySem.Str × Val)) := fun v a b c d => by kernel_rfl
  simp -implicitDefEqProofs (disch := first | assumption | omega | (simp; done) | fail) [g_Desk_init, runF_def, b_Desk_init, cw, cz, cs, sf, e0, p1, p2, p3, p4, p5, dk3, dkF, nextH, states]
end
end Tx

set_option Elab.async false
set_option linter.all false
set_option autoImplicit false
set_option maxRecDepth 100000
set_option maxHeartbeats 4000000
/-! L13b: the law's turns. -/
namespace Tx
open L2 Z Pl
def LL : Lib := ⟨[g_law_start, g_law_way, g_law_draw, g_law_call, g_law_states, g_law_view, g_law_pick, g_law_deeds, g_law_step, g_views_of, g_Desk_init, g_Desk_do, g_Desk_state, g_Desk_done, g_Desk_len, g_Desk_view, g_Desk_undo], [], 100000000⟩
def turns4 : List Deed := [.copy 2, .act "pin", .copy 0, .act "paste"]
def T16 : List Deed := turns4 ++ turns4 ++ turns4 ++ turns4
def turnsD : D := .list (turns4.map dD)
theorem T16_ok : ∀ d ∈ T16, d.ok 3 := by
  intro d hd
  have hd : d ∈ turns4 := by simpa [T16] using hd
  simp [turns4] at hd
  rcases hd with rfl | rfl | rfl | rfl
  · exact ⟨by decide, by decide⟩
  · exact .inr (.inr (.inr (.inl rfl)))
  · exact ⟨by decide, by decide⟩
  · exact .inl rfl
theorem T16_at : ∀ i : Nat, i < 16 → ∃ d, T16[i]? = some d ∧ atI (turns4.map dD) ((i : Int).fmod 4) = some (dD d) ∧ d ∈ T16
  | 0, _ | 4, _ | 8, _ | 12, _ => ⟨.copy 2, rfl, rfl, by simp [T16, turns4]⟩
  | 1, _ | 5, _ | 9, _ | 13, _ => ⟨.act "pin", rfl, rfl, by simp [T16, turns4]⟩
  | 2, _ | 6, _ | 10, _ | 14, _ => ⟨.copy 0, rfl, rfl, by simp [T16, turns4]⟩
  | 3, _ | 7, _ | 11, _ | 15, _ => ⟨.act "paste", rfl, rfl, by simp [T16, turns4]⟩
  | n + 16, h => absurd h (by omega)
theorem take_snoc {α : Type} {l : List α} {i : Nat} {d : α} (h : l[i]? = some d) : l.take (i + 1) = l.take i ++ [d] := by
  rw [List.take_succ, h]; rfl
theorem body7 (w : Way) (hw : w.ok) (size : Nat) (hs : size = 2 ∨ size = 3) (k : Int) (k0 : 0 ≤ k) (k1 : k ≤ 1) (ns : List Int) (hns : ns ≠ []) (c : Int) (row : List Deed) (hr : ∀ d ∈ row, d.ok size) (i : Nat) (hi : i < 16) (hl : row.length ≤ i) (x0 x7 x11 x12 x13 : Option Val) :
    ∃ ns' c' row' y11 y12 y13, ns' ≠ [] ∧ (∀ d ∈ row', d.ok size) ∧ row'.length ≤ i + 1 ∧ execs LL fb_law_7 [x0, some (.ref 1), some (.d (wD w)), some (.d (.int size)), some (.d (.int k)), some (.ref 2), some (.d (.list (row.map dD))), x7, some (.ref 5), some (.d turnsD), some (.d (.int i)), x11, x12, x13] (HH ns c w size k row (T16.take i)) =
      .next [x0, some (.ref 1), some (.d (wD w)), some (.d (.int size)), some (.d (.int k)), some (.ref 2), some (.d (.list (row'.map dD))), x7, some (.ref 5), some (.d turnsD), some (.d (.int i)), y11, y12, y13] (HH ns' c' w size k row' (T16.take (i + 1))) := by
  obtain ⟨t, ht, ha, htm⟩ := T16_at i hi
  have X1 := HH_1 ns c w size k row (T16.take i)
  have X2 := HH_2 ns c w size k row (T16.take i)
  have hT16 : T16.length = 16 := rfl
  have hd := dk_do w2_ok X2 (T16_ok t htm) (by rw [List.length_take]; omega)
  rw [← take_snoc ht, HH_p2] at hd
  have hm5 := X2.meth (dk_no ..).2.1
  have Y1 := HH_1 ns c w size k row (T16.take (i + 1))
  have st1 := m_lstates w hw size row hr (by omega) (HH ns c w size k row (T16.take (i + 1)))
  have mst := Y1.meth (dk_no ..).2.2.2.1
  have mdn := Y1.meth (dk_no ..).2.2.2.2.1
  have mln := Y1.meth (dk_no ..).2.2.2.2.2
  have mvw := Y1.meth (dk_no ..).1
  have vst := dk_state Y1
  have vdn := m_dk_done Y1
  have vln := lenK_some _ (m_dk_len Y1) (by omega) (by omega)
  have vvw := dk_view hw Y1
  have n3 := hw.n3
  have lsl := lastS_len w hw row
  have alv := m_lview2 (lastS w row) k (HH ns c w size k row (T16.take (i + 1))) (by omega)
  have al : atI ((states w Pl.start row).map sD) (-1) = some (sD (lastS w row)) := by
    rw [sts_split, List.map_append]; exact atI_snoc _ _
  have ne1 := ne_self (d := sD (lastS w row)) (sh_of (sh_sD _) (by decide))
  have ne2 := ne_self (sh_rw hr)
  have ne3 := ne_self (d := veD k (view k (lastS w row))) (sh_of (sh_ve k _) (by decide))
  have mu := Y1.meth (dk_no ..).2.2.1
  have md := Y1.meth (dk_no ..).2.1
  obtain ⟨v, ns1, c1, v0, v5, hn1, dr⟩ := m_draw hns c (dk3 2 w size k row ++ dk3 5 w2 3 0 (T16.take (i + 1))) (l := 5) (by decide) (by decide)
  have Z1 := HH_1 ns1 c1 w size k row (T16.take (i + 1))
  have hDH : ∀ n c row row2, dh n c (dk3 2 w size k row ++ dk3 5 w2 3 0 row2) = HH n c w size k row row2 := fun _ _ _ _ => rfl
  rw [hDH, hDH] at dr
  have b1 : ∀ (ns : List Int) (c : Int) (row : List Deed), ns ≠ [] → ∃ x ns' c', x ∈ badsD size ∧ ns' ≠ [] ∧ g_law_pick [.ref 1, .d (.list (badsD size))] (HH ns c w size k row (T16.take (i + 1))) = .ok (.d x) (HH ns' c' w size k row (T16.take (i + 1))) ∧
      g_law_call [.ref 2, .d (.int 0), .d x] (HH ns' c' w size k row (T16.take (i + 1))) = .ok (.d (.tuple [.str "error", .str "deeds"])) (HH ns' c' w size k row (T16.take (i + 1))) := fun ns c row hn => by
    obtain ⟨x, h', hx, ⟨ns', c', hn', e⟩, ep⟩ := pick_R ns hn c (dk3 2 w size k row ++ dk3 5 w2 3 0 (T16.take (i + 1))) (badsD size) (by simp [badsD]) (by simp [badsD])
    subst e
    rw [hDH, hDH] at ep
    have V := HH_1 ns' c' w size k row (T16.take (i + 1))
    exact ⟨x, ns', c', hx, hn', ep, call_dox (V.meth (dk_no ..).2.1) (m_dk_bad V (bads_bad (by omega) hx)) (by decide +kernel) m_lerr_deeds⟩
  have ne4 : cmpD .ne (.tuple [.str "error", .str "deeds"]) (.tuple [.str "error", .str "deeds"]) = some false := ne_self (by decide +kernel)
  have ne5 : cmpD .ne (.tuple [.str "error", .str "none"]) (.tuple [.str "error", .str "none"]) = some false := ne_self (by decide +kernel)
  have shl : sh (.list (row.map dD)) = true := sh_rw hr
  have she : sh (.list []) = true := by decide +kernel
  have hH2 : ∀ ns c row, HH ns c w size k row (T16.take (i + 1)) = HH ns c w size k row (T16.take (i + 1)) := fun _ _ _ => rfl
  by_cases hv : v = 0
  · subst hv
    rcases (show row = [] ∨ ∃ r d, row = r ++ [d] from by
      rcases List.eq_nil_or_concat row with e | ⟨r, d, e⟩
      · exact .inl e
      · exact .inr ⟨r, d, by simpa using e⟩) with rfl | ⟨r, d, rfl⟩
    · have cu := call_undox (Z1.meth (dk_no ..).2.2.1) (m_dk_undo0 Z1) (by decide +kernel) m_lerr_none
      obtain ⟨x, ns2, c2, hx, hn2, ep, ec⟩ := b1 ns1 c1 [] hn1
      refine ⟨ns2, c2, [], some (.d (.list ((states w Pl.start []).map sD))), x12, some (.d (.list (badsD size))), hn2, hr, by simp, ?_⟩
      simp only [badsD] at ep ⊢
      have ql : PySem.PyData.eqv (.list []) (.list []) = true := by decide +kernel
      clear X1 X2 Y1 Z1 b1 hDH
      generalize HH ns c w size k [] (T16.take i) = h0 at *
      generalize HH ns c w size k [] (T16.take (i + 1)) = h1 at *
      generalize HH ns1 c1 w size k [] (T16.take (i + 1)) = h2 at *
      generalize HH ns2 c2 w size k [] (T16.take (i + 1)) = h3 at *
      simp only [List.map_nil, turnsD] at *
      generalize turns4.map dD = tD at *
      simp -implicitDefEqProofs (disch := first | assumption | omega | (simp; done) | fail) [fb_law_7, LL, ha, hm5, hd, st1, mst, mdn, mln, mvw, vst, vdn, vln, vvw, alv, al, ne1, ne2, ne3, ne4, ne5, dr, cu, ep, ec, eqv_int, ql, she]
    · have hdk : d.ok size := hr d (by simp)
      have hrr : ∀ d ∈ r, d.ok (size : Int) := fun x hx => hr x (by simp [hx])
      have cu := call_undo (Z1.meth (dk_no ..).2.2.1) (dk_undo hdk hrr Z1)
      rw [HH_p1] at cu
      obtain ⟨x, ns2, c2, hx, hn2, ep, ec⟩ := b1 ns1 c1 r hn1
      refine ⟨ns2, c2, r, some (.d (.list ((states w Pl.start (r ++ [d])).map sD))), x12, some (.d (.list (badsD size))), hn2, hrr, by simp at hl; omega, ?_⟩
      simp only [badsD] at ep ⊢
      have ql : cmpD .ne (.list ((r ++ [d]).map dD)) (.list []) = some true := by
        rw [ne_D _ _ shl she, eqv_lst]
        cases r <;> rfl
      have qa : atI ((r ++ [d]).map dD) (-1) = some (dD d) := by rw [List.map_append]; exact atI_snoc _ _
      have qs : sh (.tuple [.str "told", dD d]) = true := sh_of (n := 2) (shD_tup (n := 1) fun y hy => by
        simp at hy
        rcases hy with rfl | rfl
        · exact shD_str (by decide +kernel)
        · exact sh_dD hdk) (by decide)
      have qn := ne_self qs
      have qd : ((r ++ [d]).map dD).dropLast = r.map dD := by simp
      clear X1 X2 Y1 Z1 b1 hDH
      generalize HH ns c w size k (r ++ [d]) (T16.take i) = h0 at *
      generalize HH ns c w size k (r ++ [d]) (T16.take (i + 1)) = h1 at *
      generalize HH ns1 c1 w size k (r ++ [d]) (T16.take (i + 1)) = h2 at *
      generalize HH ns1 c1 w size k r (T16.take (i + 1)) = h3 at *
      generalize HH ns2 c2 w size k r (T16.take (i + 1)) = h4 at *
      simp only [turnsD] at *
      generalize turns4.map dD = tD at *
      generalize (states w Pl.start (r ++ [d])).map sD = sts at *
      have hrl : ((r ++ [d]).length : Int) = ((((r ++ [d]).map dD).length : Nat) : Int) := by simp
      rw [hrl] at vln
      generalize (r ++ [d]).map dD = rD at *
      simp -implicitDefEqProofs (disch := first | assumption | omega | (simp; done) | fail) [fb_law_7, LL, ha, hm5, hd, st1, mst, mdn, mln, mvw, vst, vdn, vln, vvw, alv, al, ne1, ne2, ne3, ne4, ne5, dr, cu, ep, ec, eqv_int, ql, qa, qn, qd]
  · obtain ⟨x, h', hx, ⟨ns2, c2, hn2, e2⟩, ep⟩ := pick_R ns1 hn1 c1 (dk3 2 w size k row ++ dk3 5 w2 3 0 (T16.take (i + 1))) ((deedsOf size).map dD) (by simp [deedsOf]) (by simp [deedsOf]; omega)
    subst e2
    rw [hDH, hDH] at ep
    obtain ⟨d, hdd, rfl⟩ := List.mem_map.mp hx
    have hdk : d.ok size := deeds_ok size d (List.mem_append_left _ hdd)
    have V := HH_1 ns2 c2 w size k row (T16.take (i + 1))
    have cd := call_do (V.meth (dk_no ..).2.1) (dk_do hw V hdk (by omega))
    rw [HH_p1] at cd
    have hrr : ∀ x ∈ row ++ [d], x.ok (size : Int) := fun x hx => by
      rcases List.mem_append.mp hx with m | m
      · exact hr x m
      · rw [List.mem_singleton.mp m]; exact hdk
    obtain ⟨y, ns3, c3, hy, hn3, ep2, ec⟩ := b1 ns2 c2 (row ++ [d]) hn2
    refine ⟨ns3, c3, row ++ [d], some (.d (.list ((states w Pl.start row).map sD))), some (.d (dD d)), some (.d (.list (badsD size))), hn3, hrr, by simp; omega, ?_⟩
    simp only [badsD] at ep2 ⊢
    have mds := m_deeds size hs (HH ns1 c1 w size k row (T16.take (i + 1)))
    have ms := m_lstep w hw (lastS w row) d size hdk (HH ns2 c2 w size k (row ++ [d]) (T16.take (i + 1))) lsl
    have sl2 := step_len w (lastS w row) d lsl
    have mv := m_lview2 (step w (lastS w row) d) k (HH ns2 c2 w size k (row ++ [d]) (T16.take (i + 1))) (by omega)
    have qs : sh (.tuple [.str "told", veD k (view k (step w (lastS w row) d))]) = true := sh_of (n := 3) (shD_tup (n := 2) fun y hy => by
        simp at hy
        rcases hy with rfl | rfl
        · exact shD_str (by decide +kernel)
        · exact sh_ve k _) (by decide)
    have qn := ne_self qs
    have qm : (row ++ [d]).map dD = row.map dD ++ [dD d] := by simp
    have hrow : (row.map dD).length + 1 ≤ 16777216 := by simp; omega
    rw [qm]
    clear X1 X2 Y1 Z1 b1 hDH V
    generalize HH ns c w size k row (T16.take i) = h0 at *
    generalize HH ns c w size k row (T16.take (i + 1)) = h1 at *
    generalize HH ns1 c1 w size k row (T16.take (i + 1)) = h2 at *
    generalize HH ns2 c2 w size k row (T16.take (i + 1)) = h3 at *
    generalize HH ns2 c2 w size k (row ++ [d]) (T16.take (i + 1)) = h4 at *
    generalize HH ns3 c3 w size k (row ++ [d]) (T16.take (i + 1)) = h5 at *
    simp only [turnsD] at *
    generalize turns4.map dD = tD at *
    generalize (states w Pl.start row).map sD = sts at *
    have hrl : (row.length : Int) = (((row.map dD).length : Nat) : Int) := by simp
    rw [hrl] at vln
    generalize row.map dD = rD at *
    generalize (deedsOf size).map dD = dD' at *
    simp -implicitDefEqProofs (disch := first | assumption | omega | (simp; done) | fail) [fb_law_7, LL, ha, hm5, hd, st1, mst, mdn, mln, mvw, vst, vdn, vln, vvw, alv, al, ne1, ne2, ne3, ne4, ne5, dr, cd, ep, ep2, ec, eqv_int, hv, mds, ms, mv, qn]
end Tx

set_option Elab.async false
set_option linter.all false
set_option autoImplicit false
set_option maxRecDepth 100000
set_option maxHeartbeats 4000000
/-! L13c: the side desk is filled. -/
namespace Tx
open L2 Z Pl
def empt : Deed := .act "empty"
theorem empt_ok : empt.ok 3 := .inr (.inr (.inr (.inr rfl)))
def cF : Ce := .cmp .lt (.lenc "Desk" 14 (.var 8)) (.int 100)
def bF : Css := .cons (.expr (.mcall "Desk" "do" 11 (.var 8) (.cons (.tup (.cons (.str "empty") .nil)) .nil))) .nil
section
variable (x0 x1 x2 x3 x4 x5 x6 x7 x9 x10 x11 x12 x13 : Option Val)
theorem t1 (h : MH) (m : methAt h "Desk" "__len__" (.ref 5) = true) (n : Nat) (v : lenK (some g_Desk_len) (.ref 5) h = .ok (.d (.int n)) h) (b : Bool) (hb : decide ((n : Int) < 100) = b) : den LL cF [x0, x1, x2, x3, x4, x5, x6, x7, some (.ref 5), x9, x10, x11, x12, x13] h = .ok (.d (.bool b)) h := by
  rw [← hb]
  simp -implicitDefEqProofs [LL, m, v, cF]
theorem t2 (h h2 : MH) (v : D) (m2 : methAt h "Desk" "do" (.ref 5) = true) (d : g_Desk_do [.ref 5, .d (.tuple [.str "empty"])] h = .ok (.d v) h2) : execs LL bF [x0, x1, x2, x3, x4, x5, x6, x7, some (.ref 5), x9, x10, x11, x12, x13] h = .next [x0, x1, x2, x3, x4, x5, x6, x7, some (.ref 5), x9, x10, x11, x12, x13] h2 := by
  simp -implicitDefEqProofs [LL, m2, d, bF]
theorem fill (ns : List Int) (c : Int) (w : Way) (size k : Int) (row : List Deed) : ∀ (t fuel : Nat) (row2 : List Deed), row2.length + t = 100 → t < fuel →
    whileRun (den LL cF) (execs LL bF) fuel [x0, x1, x2, x3, x4, x5, x6, x7, some (.ref 5), x9, x10, x11, x12, x13] (HH ns c w size k row row2) =
      .next [x0, x1, x2, x3, x4, x5, x6, x7, some (.ref 5), x9, x10, x11, x12, x13] (HH ns c w size k row (row2 ++ List.replicate t empt)) := by
  intro t
  induction t with
  | zero =>
    intro fuel row2 hl hf
    obtain ⟨fuel, rfl⟩ : ∃ f, fuel = f + 1 := ⟨fuel - 1, by omega⟩
    have X := HH_2 ns c w size k row row2
    have v := lenK_some _ (m_dk_len X) (Int.natCast_nonneg _) (by omega)
    have e1 := t1 x0 x1 x2 x3 x4 x5 x6 x7 x9 x10 x11 x12 x13 _ (X.meth (dk_no ..).2.2.2.2.2) _ v false (by rw [decide_eq_false_iff_not]; omega)
    rw [List.replicate_zero, List.append_nil]
    exact while_no e1
  | succ t ih =>
    intro fuel row2 hl hf
    obtain ⟨fuel, rfl⟩ : ∃ f, fuel = f + 1 := ⟨fuel - 1, by omega⟩
    have X := HH_2 ns c w size k row row2
    have v := lenK_some _ (m_dk_len X) (Int.natCast_nonneg _) (by omega)
    have d := dk_do w2_ok X empt_ok (by omega)
    rw [HH_p2] at d
    replace ih := ih fuel (row2 ++ [empt]) (by rw [List.length_append, List.length_singleton]; omega) (by omega)
    rw [List.append_assoc, List.singleton_append, ← List.replicate_succ] at ih
    rw [← ih]
    exact while_go (t1 x0 x1 x2 x3 x4 x5 x6 x7 x9 x10 x11 x12 x13 _ (X.meth (dk_no ..).2.2.2.2.2) _ v true (by rw [decide_eq_true_eq]; omega)) (t2 x0 x1 x2 x3 x4 x5 x6 x7 x9 x10 x11 x12 x13 _ _ _ (X.meth (dk_no ..).2.1) d)
end
end Tx

set_option Elab.async false
set_option linter.all false
set_option autoImplicit false
set_option maxRecDepth 100000
set_option maxHeartbeats 4000000
/-! L13d: the law. -/
namespace Tx
open L2 Z Pl
theorem law_true (ns : List Int) (hl : ns.length ≤ 63) : ∃ h, g_law [.scr ns] [] = .ok (.d (.bool true)) h := by
  show Yes (g_law [.scr ns] [])
  show Yes (runF LL b_law 14 [.scr ns] [])
  rw [runF_def]
  show Yes (endR (execs LL b_law [some (.scr ns), none, none, none, none, none, none, none, none, none, none, none, none, none] []))
  unfold b_law
  obtain ⟨ms, q1, e1⟩ := m_start ns
  rw [execs_cons]
  simp -implicitDefEqProofs (disch := first | assumption | omega | (simp; done) | fail) [s_law_1, LL, e1]
  obtain ⟨w, h1, hw, ⟨ns1, k1, q2, rfl⟩, e2⟩ := m_way ms q1 0
  obtain ⟨v, ns2, k2, v0, v1, q3, e3⟩ := m_draw q2 k1 [] (l := 2) (by decide) (by decide)
  obtain ⟨k, ns3, k3, kv0, kv1, q4, e4⟩ := m_draw q3 k2 [] (l := 2) (by decide) (by decide)
  obtain ⟨size, hsz⟩ : ∃ size : Nat, 2 + v = (size : Int) := ⟨(2 + v).toNat, by omega⟩
  have hs : size = 2 ∨ size = 3 := by omega
  simp -implicitDefEqProofs (disch := first | assumption | omega | (simp; done) | fail) [s_law_2, LL, e2, e3, e4, hsz]
  have i1 := m_dk_init (size := (size : Int)) (k := k) hw (by omega) (by omega) kv0 (by omega) (dh ns3 k3 []) 2 rfl
  have hd1 : dh ns3 k3 [] ++ dk3 2 w size k [] = dh ns3 k3 (dk3 2 w size k []) := rfl
  have hl1 : (dh ns3 k3 []).length = 2 := rfl
  rw [hd1] at i1
  generalize hh1 : dh ns3 k3 [] = hA at *
  simp -implicitDefEqProofs (disch := first | assumption | omega | (simp; done) | fail) [s_law_3, LL, i1, hl1]
  have X0 : DkH (dh ns3 k3 (dk3 2 w size k [])) 2 w size k [] (states w Pl.start []) := ⟨rfl, rfl, rfl⟩
  have cu := call_undox (X0.meth (dk_no ..).2.2.1) (m_dk_undo0 X0) (by decide +kernel) m_lerr_none
  have ne5 : cmpD .ne (.tuple [.str "error", .str "none"]) (.tuple [.str "error", .str "none"]) = some false := ne_self (by decide +kernel)
  have i2 := m_dk_init (size := 3) (k := 0) w2_ok (by decide) (by decide) (by decide) (by decide) (dh ns3 k3 (dk3 2 w size k [])) 5 rfl
  have hd2 : dh ns3 k3 (dk3 2 w size k []) ++ dk3 5 w2 3 0 [] = HH ns3 k3 w size k [] [] := rfl
  have hl2 : (dh ns3 k3 (dk3 2 w size k [])).length = 5 := rfl
  rw [hd2] at i2
  clear X0 hd1 hd2
  generalize dh ns3 k3 (dk3 2 w size k []) = hB at *
  have hw2 : wD w2 = .tuple [.str "stack", .int 3, .str "twice", .str "refuse", .str "up", .str "stays", .str "loose"] := rfl
  rw [hw2] at i2
  simp -implicitDefEqProofs (disch := first | assumption | omega | (simp; done) | fail) [s_law_4, s_law_5, s_law_6, LL, cu, ne5, i2, hl2]
  have hr16 : rangeD 0 16 = (List.range 16).map fun i : Nat => PySem.PyData.int (i : Int) := rfl
  have hg16 : rgOk 16 = true := rfl
  have hturns : (PySem.PyData.list [.tuple [.str "copy", .int 2], .tuple [.str "pin"], .tuple [.str "copy", .int 0], .tuple [.str "paste"]]) = turnsD := rfl
  obtain ⟨e', h', r7, ns', c', row', y10, y11, y12, y13, hn', hr', hl', he', hh'⟩ := forRun_all (t := .name 10) (body := execs LL fb_law_7) (P := fun j e h => ∃ ns' c' row' y10 y11 y12 y13, ns' ≠ [] ∧ (∀ d ∈ row', d.ok (size : Int)) ∧ row'.length ≤ j ∧
      e = [some (Val.scr ns), some (.ref 1), some (.d (wD w)), some (.d (.int size)), some (.d (.int k)), some (.ref 2), some (.d (.list (row'.map dD))), some (.d (wD w2)), some (.ref 5), some (.d turnsD), y10, y11, y12, y13] ∧ h = HH ns' c' w size k row' (T16.take j)) (rangeD 0 16) 0
      [some (Val.scr ns), some (.ref 1), some (.d (wD w)), some (.d (.int size)), some (.d (.int k)), some (.ref 2), some (.d (.list [])), some (.d (wD w2)), some (.ref 5), some (.d turnsD), none, none, none, none] (HH ns3 k3 w size k [] [])
      ⟨ns3, k3, [], none, none, none, none, q4, (fun _ h => by cases h), Nat.le_refl _, rfl, rfl⟩ (fun j d e h hd ⟨ns', c', row', y10, y11, y12, y13, h1, h2, h3, h4, h5⟩ => by
    subst h4 h5
    rw [hr16, List.getElem?_map, Option.map_eq_some_iff] at hd
    obtain ⟨i, hi, rfl⟩ := hd
    obtain ⟨hj, hij⟩ := List.getElem?_eq_some_iff.mp hi
    rw [List.getElem_range] at hij
    subst hij
    rw [List.length_range] at hj
    rw [Nat.zero_add] at h3
    obtain ⟨ns4, c4, row4, z11, z12, z13, g1, g2, g3, g4⟩ := body7 w hw size hs k kv0 (by omega) ns' h1 c' row' h2 j hj h3 (some (.scr ns)) (some (.d (wD w2))) y11 y12 y13
    rw [Nat.zero_add]
    exact ⟨_, rfl, _, _, g4, ns4, c4, row4, _, z11, z12, z13, g1, g2, g3, rfl, rfl⟩)
  have hT : T16.take (0 + (rangeD 0 16).length) = T16 := by rfl
  rw [hT] at hh'
  subst he' hh'
  have X2 := HH_2 ns' c' w size k row' T16
  have vdn := m_dk_done X2
  have vvw := dk_view w2_ok X2
  have mdn := X2.meth (dk_no ..).2.2.2.2.1
  have mvw := X2.meth (dk_no ..).1
  have mul : binD .mul turnsD (.int 4) = some (.list (T16.map dD)) := by kernel_rfl
  have vo := m_views_of w2 w2_ok 3 0 (by decide) (by decide) (by decide) (by decide) T16 T16_ok (by decide) (HH ns' c' w size k row' T16)
  have av : atI ((views w2 0 T16).map (veD 0)) (-1) = some (veD 0 (view 0 (lastS w2 T16))) := by kernel_rfl
  have ne2 := ne_self (sh_rw T16_ok)
  have ne3 := ne_self (d := veD 0 (view 0 (lastS w2 T16))) (sh_of (sh_ve 0 _) (by decide))
  have s8 : ∀ x10 x11 x12 x13, exec LL s_law_8 [some (Val.scr ns), some (.ref 1), some (.d (wD w)), some (.d (.int size)), some (.d (.int k)), some (.ref 2), some (.d (.list (row'.map dD))), some (.d (wD w2)), some (.ref 5), some (.d turnsD), x10, x11, x12, x13] (HH ns' c' w size k row' T16) =
      .next [some (Val.scr ns), some (.ref 1), some (.d (wD w)), some (.d (.int size)), some (.d (.int k)), some (.ref 2), some (.d (.list (row'.map dD))), some (.d (wD w2)), some (.ref 5), some (.d turnsD), x10, x11, x12, x13] (HH ns' c' w size k row' T16) := fun x10 x11 x12 x13 => by
    clear r7 X2
    generalize HH ns' c' w size k row' T16 = h0 at *
    generalize turnsD = tD at *
    generalize T16.map dD = lD at *
    generalize veD 0 (view 0 (lastS w2 T16)) = vD at *
    generalize (views w2 0 T16).map (veD 0) = vsD at *
    generalize wD w2 = w2D at *
    simp -implicitDefEqProofs (disch := first | assumption | omega | (simp; done) | fail) [s_law_8, LL, vdn, vvw, mdn, mvw, mul, vo, av, ne2, ne3]
  have s9 : ∀ x10 x11 x12 x13, exec LL s_law_9 [some (Val.scr ns), some (.ref 1), some (.d (wD w)), some (.d (.int size)), some (.d (.int k)), some (.ref 2), some (.d (.list (row'.map dD))), some (.d (wD w2)), some (.ref 5), some (.d turnsD), x10, x11, x12, x13] (HH ns' c' w size k row' T16) =
      .next [some (Val.scr ns), some (.ref 1), some (.d (wD w)), some (.d (.int size)), some (.d (.int k)), some (.ref 2), some (.d (.list (row'.map dD))), some (.d (wD w2)), some (.ref 5), some (.d turnsD), x10, x11, x12, x13] (HH ns' c' w size k row' (T16 ++ List.replicate 84 empt)) := fun x10 x11 x12 x13 =>
    fill _ _ _ _ _ _ _ _ _ _ _ _ _ ns' c' w size k row' 84 LL.fuel T16 rfl (by show 84 < 100000000; omega)
  have X3 := HH_2 ns' c' w size k row' (T16 ++ List.replicate 84 empt)
  have l3 : (T16 ++ List.replicate 84 empt).length = 100 := by rw [List.length_append, List.length_replicate]; rfl
  have c1 := call_dox (X3.meth (dk_no ..).2.1) (m_dk_full X3 empt_ok l3) (by decide +kernel) m_lerr_number
  have c2 := call_dox (X3.meth (dk_no ..).2.1) (m_dk_bad X3 bad_empty) (by decide +kernel) m_lerr_deeds
  have ln3 := lenK_some _ (m_dk_len X3) (Int.natCast_nonneg _) (by omega)
  have mln3 := X3.meth (dk_no ..).2.2.2.2.2
  rw [l3] at ln3
  have n1 : cmpD .ne (.tuple [.str "error", .str "number"]) (.tuple [.str "error", .str "number"]) = some false := ne_self (by decide +kernel)
  have n2 : cmpD .ne (.tuple [.str "error", .str "deeds"]) (.tuple [.str "error", .str "deeds"]) = some false := ne_self (by decide +kernel)
  have dE : dD empt = .tuple [.str "empty"] := rfl
  rw [dE] at c1
  have s10 : ∀ x0 x1 x2 x3 x4 x5 x6 x7 x9 x10 x11 x12 x13, exec LL s_law_10 [x0, x1, x2, x3, x4, x5, x6, x7, some (.ref 5), x9, x10, x11, x12, x13] (HH ns' c' w size k row' (T16 ++ List.replicate 84 empt)) = .next [x0, x1, x2, x3, x4, x5, x6, x7, some (.ref 5), x9, x10, x11, x12, x13] (HH ns' c' w size k row' (T16 ++ List.replicate 84 empt)) := fun x0 x1 x2 x3 x4 x5 x6 x7 x9 x10 x11 x12 x13 => by
    clear r7 X2 X3 s8 s9
    generalize HH ns' c' w size k row' (T16 ++ List.replicate 84 empt) = h0 at *
    have ln3' : lenK (some g_Desk_len) (.ref 5) h0 = .ok (.d (.int 100)) h0 := ln3
    simp -implicitDefEqProofs (disch := first | assumption | omega | (simp; done) | fail) [s_law_10, LL, c1, c2, ln3', mln3, n1, n2, eqv_int]
  have hrep : T16 ++ List.replicate 84 empt = (T16 ++ List.replicate 83 empt) ++ [empt] := by rw [List.append_assoc, ← List.replicate_succ']
  have hall : ∀ d ∈ T16 ++ List.replicate 83 empt, d.ok 3 := fun d hd => by
    rcases List.mem_append.mp hd with m | m
    · exact T16_ok d m
    · rw [List.eq_of_mem_replicate m]; exact empt_ok
  have u1 := dk_undo empt_ok hall (hrep ▸ X3)
  rw [HH_p2, ← hrep, dE] at u1
  have mu := X3.meth (dk_no ..).2.2.1
  have X4 := HH_2 ns' c' w size k row' (T16 ++ List.replicate 83 empt)
  have pok : (Deed.act "paste").ok 3 := .inl rfl
  have d4 := dk_do w2_ok X4 pok (by rw [List.length_append, List.length_replicate]; decide)
  rw [HH_p2] at d4
  have dP : dD (.act "paste") = .tuple [.str "paste"] := rfl
  have v4 : veD 0 (view 0 (step w2 (lastS w2 (T16 ++ List.replicate 83 empt)) (.act "paste"))) = .tuple [.tuple [.int 2, .int 2], .int 2] := by kernel_rfl
  rw [dP, v4] at d4
  have md4 := X4.meth (dk_no ..).2.1
  have X5 := HH_2 ns' c' w size k row' (T16 ++ List.replicate 83 empt ++ [.act "paste"])
  have ln5 := lenK_some _ (m_dk_len X5) (Int.natCast_nonneg _) (by
    rw [List.length_append, List.length_append, List.length_replicate]; decide)
  have l5 : (T16 ++ List.replicate 83 empt ++ [Deed.act "paste"]).length = 100 := by rw [List.length_append, List.length_append, List.length_replicate]; rfl
  rw [l5] at ln5
  have mln5 := X5.meth (dk_no ..).2.2.2.2.2
  have dn5 := m_dk_done X5
  have mdn5 := X5.meth (dk_no ..).2.2.2.2.1
  have a5 : atI ((T16 ++ List.replicate 83 empt ++ [Deed.act "paste"]).map dD) (-1) = some (.tuple [.str "paste"]) := by
    rw [List.map_append]; exact atI_snoc _ _
  have q1 : cmpD .eq (.tuple [.str "empty"]) (.tuple [.str "empty"]) = some true := Z.eq_self (by decide +kernel)
  have q2 : cmpD .eq (.tuple [.tuple [.int 2, .int 2], .int 2]) (.tuple [.tuple [.int 2, .int 2], .int 2]) = some true := Z.eq_self (by decide +kernel)
  have q3' : cmpD .eq (.tuple [.str "paste"]) (.tuple [.str "paste"]) = some true := Z.eq_self (by decide +kernel)
  have s11 : ∀ x0 x1 x2 x3 x4 x5 x6 x7 x9 x10 x11 x12 x13, ∃ h, exec LL s_law_11 [x0, x1, x2, x3, x4, x5, x6, x7, some (.ref 5), x9, x10, x11, x12, x13] (HH ns' c' w size k row' (T16 ++ List.replicate 84 empt)) = .ret (.d (.bool true)) h := fun x0 x1 x2 x3 x4 x5 x6 x7 x9 x10 x11 x12 x13 => by
    refine ⟨HH ns' c' w size k row' (T16 ++ List.replicate 83 empt ++ [.act "paste"]), ?_⟩
    clear r7 X2 X3 X4 X5 s8 s9 s10
    generalize HH ns' c' w size k row' (T16 ++ List.replicate 84 empt) = h0 at *
    generalize HH ns' c' w size k row' (T16 ++ List.replicate 83 empt ++ [.act "paste"]) = h2 at *
    generalize HH ns' c' w size k row' (T16 ++ List.replicate 83 empt) = h1 at *
    have ln5' : lenK (some g_Desk_len) (.ref 5) h2 = .ok (.d (.int 100)) h2 := ln5
    generalize (T16 ++ List.replicate 83 empt ++ [Deed.act "paste"]).map dD = lD at *
    simp -implicitDefEqProofs (disch := first | assumption | omega | (simp; done) | fail) [s_law_11, LL, u1, mu, d4, md4, ln5', mln5, dn5, mdn5, a5, q1, q2, q3', eqv_int]
  have s7 : exec LL s_law_7 [some (Val.scr ns), some (.ref 1), some (.d (wD w)), some (.d (.int size)), some (.d (.int k)), some (.ref 2), some (.d (.list [])), some (.d (wD w2)), some (.ref 5), some (.d turnsD), none, none, none, none] (HH ns3 k3 w size k [] []) = .next [some (Val.scr ns), some (.ref 1), some (.d (wD w)), some (.d (.int size)), some (.d (.int k)), some (.ref 2), some (.d (.list (row'.map dD))), some (.d (wD w2)), some (.ref 5), some (.d turnsD), y10, y11, y12, y13] (HH ns' c' w size k row' T16) := by
    unfold s_law_7
    rw [exec_for]
    exact r7
  show Yes (endR ((exec LL s_law_7 [some (Val.scr ns), some (.ref 1), some (.d (wD w)), some (.d (.int size)), some (.d (.int k)), some (.ref 2), some (.d (.list [])), some (.d (wD w2)), some (.ref 5), some (.d turnsD), none, none, none, none] (HH ns3 k3 w size k [] [])).andThen (execs LL (.cons s_law_8 (.cons s_law_9 (.cons s_law_10 (.cons s_law_11 .nil)))))))
  rw [s7, RS.andThen_next, execs_cons, s8, RS.andThen_next, execs_cons, s9, RS.andThen_next, execs_cons, s10, RS.andThen_next, execs_cons]
  obtain ⟨h, e11⟩ := s11 (some (Val.scr ns)) (some (.ref 1)) (some (.d (wD w))) (some (.d (.int size))) (some (.d (.int k))) (some (.ref 2)) (some (.d (.list (row'.map dD)))) (some (.d (wD w2))) (some (.d turnsD)) y10 y11 y12 y13
  rw [e11, RS.andThen_ret, endR_ret]
  exact ⟨h, rfl⟩
end Tx

set_option Elab.async false
set_option linter.all false
set_option autoImplicit false
set_option maxRecDepth 100000
set_option maxHeartbeats 4000000
namespace Tx
open PySem PySem.Spec PyProof.Rows L2 Z
abbrev R : PySem.W.OpenRow := PySem.W.OpenLaw.row PySem.Challenge.rw_pocketpastes_k13_whole_desks
abbrev hk : PySem.W.Hook := hookZ 5 T
def ob (s : PySem.W.SharedT) : AlZ := obsZG 5 T (HandSHeadRun.getT s)
theorem ob_eq (s : PySem.W.SharedT) : ob s = hk.obs s.abs := obsZG_eq (HandSHeadRun.getT_eq s)
def nm0 : List PySem.Str := ["PasteError", "BadWay", "BadDeeds", "BadViews", "BadNumber", "BadText", "NotFound", "is_int", "check_number", "check_sight", "KINDS", "MOST_ROW", "check_size", "is_one", "check_deed", "are_deeds", "check_row", "START", "copied", "dropped", "pasted", "changed", "step", "view_of", "KINDS_OF", "AGAINS", "FULLS", "TURNS", "PINS", "WIPES"]
def nm1 : List PySem.Str := ["is_word", "is_way", "check_way", "MOST_DONE", "Desk", "states_of", "shown", "views_of", "_law_start", "_law_draw", "_law_pick", "_law_error", "_law_words", "_law_kinds", "_law_deeds", "_law_way", "_law_copy", "_law_step", "_law_first", "_law_states", "_law_view", "_law_call"]
def names : List PySem.Str := nm0 ++ nm1
theorem run (w : World) : HandSHeadRun.RunEq R (PySem.W.view R.prog [59]) hk ob 7700 names w := by
  intro os
  kernel_rfl
end Tx
open PySem PySem.W PySem.Calls PyProof.Rows
theorem PySem.Challenge.cw_pocketpastes_k13_whole_desks_holds : PySem.Challenge.rw_pocketpastes_k13_whole_desks.Holds := by
  w_on; o_law
  refine HandSHeadRun.head_any (r := OpenLaw.row PySem.Challenge.rw_pocketpastes_k13_whole_desks) (q := view (OpenLaw.row PySem.Challenge.rw_pocketpastes_k13_whole_desks).prog [59]) (H := Tx.hk) (ob := Tx.ob) (M := 7700) (loose := Tx.names) (d := HandSHeadRun.topDef (OpenLaw.row PySem.Challenge.rw_pocketpastes_k13_whole_desks).prog 59) (kwd := []) Tx.ob_eq
    (by kernel_rfl) (fun s => by kernel_rfl) Tx.run (by kernel_rfl) (by kernel_rfl) (by kernel_rfl) (by rfl) (by first | assumption | decide +kernel) (by decide +kernel) ⟨rfl, rfl, rfl, rfl, rfl, by decide +kernel⟩ ?hw ?hc
  case hw => w_witness2
  case hc =>
    refine L2.walk_ofZ (l := PySem.Challenge.rw_pocketpastes_k13_whole_desks) (n := 63) (k := 7) (x := "_law_script") (CX := fun w => L2.CX (PySem.Challenge.rw_pocketpastes_k13_whole_desks).prog w) rfl (by decide) (by kernel_rfl) ⟨rfl, by decide, by decide⟩ ?F (fun _ _ _ _ _ z => L2.cx_none z)
    intro w mg fa h Y G hmg0
    have hmg : mg ("law" : PySem.Str) = some (.ref fa) := by
      have e : (HandSHeadRun.topDef (OpenLaw.row PySem.Challenge.rw_pocketpastes_k13_whole_desks).prog 59).name = ("law" : PySem.Str) := by kernel_rfl
      rw [← e]
      exact hmg0
    exact L2.law_ofZ (T := Tx.T) (gl := []) (fn := [("_law_start", 1, Tx.g_law_start), ("_law_way", 1, Tx.g_law_way), ("_law_draw", 2, Tx.g_law_draw), ("_law_call", 3, Tx.g_law_call), ("_law_states", 3, Tx.g_law_states), ("_law_view", 2, Tx.g_law_view), ("_law_pick", 2, Tx.g_law_pick), ("_law_deeds", 1, Tx.g_law_deeds), ("_law_step", 3, Tx.g_law_step), ("views_of", 4, Tx.g_views_of)]) (ms := [(("Desk", "__init__"), 4, Tx.g_Desk_init), (("Desk", "do"), 2, Tx.g_Desk_do), (("Desk", "state"), 1, Tx.g_Desk_state), (("Desk", "done"), 1, Tx.g_Desk_done), (("Desk", "__len__"), 1, Tx.g_Desk_len), (("Desk", "view"), 1, Tx.g_Desk_view), (("Desk", "undo"), 1, Tx.g_Desk_undo)]) (fuel := 100000000) Y G hmg (i := 34) rfl Tx.sc_law Tx.bd_law (L2.mem_nil_) Tx.ck_law (fun K base t => Tx.fn_law t) (fun K base t => Tx.ms_law t) Tx.law_true


