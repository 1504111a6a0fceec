import PyProof.Rows.All
import Wide.All
import OpenK.AllK
import Wide.FinOn
import HandS.ForMost
import HandS.ForExc
import HandS.Deep
import HandS.TupAny
import HandS.TupMul
import HandS.IsInst
import HandS.TupLe
import KE.KDictCopyH
import KE.KDictDisplayH
import HandS.SetTxt0
import HandS.SetFor
import HandS.Strs
import HandS.NoneIn
import KE.GoesMore
import HandS.Iter
import HandS.Style
import HandS.SortKw
import KE.DatumOrd
import PySem.Challenge.RW_taletask_k42_whole_short_by_parts
set_option Elab.async false
set_option linter.all false
set_option maxRecDepth 100000
namespace TL
open PySem L2

/-- values. lst, dic: lists and dicts that nobody changes any more; fls: a list that is read alone (the script); mlst, mset: a list, a dict of keys, owned by one name -/
inductive D where
  | non | bl (b : Bool) | int (i : Int) | str (x : Str)
  | tup (ds : List D) | lst (ds : List D) | fls (ds : List D) | dic (kvs : List (Str × D))
  | ref (l : Nat) | clo (k : Nat) (ds : List D)
  | mlst (ds : List D) | mset (ks : List D) | mdic (kvs : List (Str × D)) | ins (c : Nat) (fs : List (Str × D))
  deriving Inhabited

/-- owned by a name: no value to be handed on -/
def D.own : D → Bool
  | .mlst _ | .mset _ | .mdic _ | .ins _ _ => true
  | _ => false

mutual
def D.py : D → PyData
  | .non => .none
  | .bl b => .bool b
  | .int i => .int i
  | .str x => .str x
  | .tup ds => .tuple (pys ds)
  | .lst ds => .list (pys ds)
  | .fls ds => .list (pys ds)
  | _ => .dict []
def pys : List D → List PyData
  | [] => []
  | d :: ds => d.py :: pys ds
end
/-- == of two values -/
def D.eqv (d e : D) : Bool := PyData.eqv d.py e.py
/-- plain data, not too deep: what == may be asked of -/
def D.shp (d : D) : Bool := SeqAt.shaped d.py

inductive R (α : Type) where
  | ok (a : α) (st : List D)
  | exc (c : Nat) (st : List D)
  | fail
def R.bind {α β : Type} : R α → (α → List D → R β) → R β
  | .ok a st, f => f a st
  | .exc c st, _ => .exc c st
  | .fail, _ => .fail
def R.lift {α : Type} (st : List D) : Option α → R α
  | some a => .ok a st
  | none => .fail
/-- within a comprehension nothing may be raised -/
def R.quiet {α : Type} : R α → R α
  | .exc _ _ => .fail
  | r => r

abbrev Env := List (Option D)
abbrev Sto := List D
abbrev Cal := Nat → List D → Sto → R D

def cutD {α : Type} (xs : List α) (lo hi : Option Int) : List α := (xs.drop (HT.sIx xs.length 0 lo)).take (HT.sIx xs.length xs.length hi - HT.sIx xs.length 0 lo)
def sign (c : Nat) : D := .str ⟨#[c]⟩

inductive O1 where
  | len | tuple | list | sum | all | int | str | sortedSet | sorted | isStr | isInt | isBool | isTuple | isNone | notNone | rev | max | min | minN
  deriving DecidableEq
inductive O2 where
  | add | sub | mul | div | mod | eq | ne | lt | le | gt | ge | isIn | notIn | ix | max | min | join | split | isB | isNotB | index
  deriving DecidableEq
inductive IK where
  | tup | lst | fls | str | rng | enumT | enumL
  deriving DecidableEq

def dAdd : D → D → Option D
  | .int i, .int j => some (.int (i + j))
  | .str x, .str y => if x.length + y.length ≤ sizeLine then some (.str (x ++ y)) else none
  | .tup a, .tup b => if a.length + b.length ≤ sizeLine then some (.tup (a ++ b)) else none
  | .lst a, .lst b => if a.length + b.length ≤ sizeLine then some (.lst (a ++ b)) else none
  | _, _ => none
def dSub : D → D → Option D
  | .int i, .int j => some (.int (i - j))
  | _, _ => none
def dMul : D → D → Option D
  | .int i, .int j => if (-(2 ^ 64) < i ∧ i < 2 ^ 64) ∨ (-(2 ^ 64) < j ∧ j < 2 ^ 64) then some (.int (i * j)) else none
  | .lst a, .int k => if 0 ≤ k ∧ k < 2 ^ 63 ∧ a.length * k.toNat ≤ sizeLine then some (.lst (List.replicate k.toNat a).flatten) else none
  | .tup a, .int k => if k = 1 then some (.tup a) else if a ≠ [] ∧ 2 ≤ k ∧ k ≤ 1000 ∧ a.length ≤ 1000 then some (.tup (List.replicate k.toNat a).flatten) else none
  | _, _ => none
def dDiv : D → D → Option D
  | .int i, .int j => if 0 < j ∧ j < 1073741824 then some (.int (i / j)) else none
  | _, _ => none
def dMod : D → D → Option D
  | .int i, .int j => if 0 < j then some (.int (i % j)) else none
  | _, _ => none
def dEq (a b : D) : Option D := if a.shp && b.shp then some (.bl (a.eqv b)) else none
def dNe (a b : D) : Option D := if a.shp && b.shp then some (.bl (!a.eqv b)) else none
def dLt : D → D → Option D
  | .int i, .int j => some (.bl (decide (i < j)))
  | _, _ => none
def dLe : D → D → Option D
  | .int i, .int j => some (.bl (decide (i ≤ j)))
  | .str x, .str y => some (.bl (!decide (y.cps.toList < x.cps.toList)))
  | _, _ => none
def dGt : D → D → Option D
  | .int i, .int j => some (.bl (decide (j < i)))
  | _, _ => none
def dGe : D → D → Option D
  | .int i, .int j => some (.bl (decide (j ≤ i)))
  | _, _ => none
mutual
def hsb : D → Bool
  | .non => true
  | .int _ => true
  | .str _ => true
  | .tup ds => hsbs ds
  | _ => false
def hsbs : List D → Bool
  | [] => true
  | d :: ds => hsb d && hsbs ds
end
/-- a tuple that may be a key -/
def isKey (d : D) : Bool := (match d with | .tup _ => true | _ => false) && hsb d && decide (d.py.depth ≤ 8)
/-- x in y -/
def inD (x : D) : D → Option Bool
  | .str z => match x with
    | .str s => match s.cps.toList with
      | [c] => some (decide (c ∈ z.cps.toList))
      | _ => none
    | _ => none
  | .lst ds => if x.shp && (D.lst ds).shp then some (ds.any fun y => y.eqv x) else none
  | .tup ds => if x.shp && (D.tup ds).shp then some (ds.any fun y => y.eqv x) else none
  | .mlst ds => if x.shp && (D.lst ds).shp then some (ds.any fun y => y.eqv x) else none
  | .mset ks => if isKey x then some (ks.any fun y => y.eqv x) else none
  | _ => none
def dIn (x y : D) : Option D := (inD x y).map .bl
def dNotIn (x y : D) : Option D := (inD x y).map fun b => .bl (!b)
def dIx : D → D → Option D
  | .tup ds, .int i => atI ds i
  | .lst ds, .int i => atI ds i
  | .fls ds, .int i => atI ds i
  | .str x, .int i => (atI x.cps.toList i).map sign
  | .dic kvs, .str k => kvs.lookup k
  | _, _ => none
def strsOf : List D → Option (List Str)
  | [] => some []
  | .str x :: ds => (strsOf ds).map (x :: ·)
  | _ :: _ => none
def intsOf : List D → Option (List Int)
  | [] => some []
  | .int x :: ds => (intsOf ds).map (x :: ·)
  | _ :: _ => none
def blsOf : List D → Option (List Bool)
  | [] => some []
  | .bl x :: ds => (blsOf ds).map (x :: ·)
  | _ :: _ => none
/-- a text's order: by its code points -/
def strLe (x y : Str) : Bool := !decide (y.cps.toList < x.cps.toList)
def insS (x : Str) : List Str → List Str
  | [] => [x]
  | y :: r => if strLe x y then x :: y :: r else y :: insS x r
def sortS : List Str → List Str
  | [] => []
  | x :: r => insS x (sortS r)
def dedS : List Str → List Str
  | [] => []
  | x :: r => if x ∈ r then dedS r else x :: dedS r
def maxL : List Int → Int
  | [] => 0
  | [x] => x
  | x :: r => let m := maxL r; if m > x then m else x
def minL : List Int → Int
  | [] => 0
  | [x] => x
  | x :: r => let m := minL r; if m < x then m else x
def o1 : O1 → D → Option D
  | .len, .tup ds => some (.int ds.length)
  | .len, .lst ds => some (.int ds.length)
  | .len, .fls ds => some (.int ds.length)
  | .len, .str x => some (.int x.length)
  | .tuple, .lst ds => some (.tup ds)
  | .tuple, .tup ds => some (.tup ds)
  | .list, .tup ds => some (.lst ds)
  | .list, .lst ds => some (.lst ds)
  | .sum, .lst ds => (intsOf ds).map fun ns => .int ns.sum
  | .all, .lst ds => (blsOf ds).map fun bs => .bl (bs.all id)
  | .int, .int i => some (.int i)
  | .int, .bl b => some (.int (if b then 1 else 0))
  | .str, .int i => if i.natAbs.log2 < 1920 ∧ ((toString i : String) : Str).length ≤ sizeLine then some (.str (toString i : String)) else none
  | .sortedSet, .lst ds => (strsOf ds).bind fun xs => if xs.length < 64 then some (.lst ((sortS (dedS xs)).map .str)) else none
  | .sortedSet, .tup ds => (strsOf ds).bind fun xs => if xs.length < 64 then some (.lst ((sortS (dedS xs)).map .str)) else none
  | .sorted, .lst ds => (strsOf ds).bind fun xs => if xs.length < 64 then some (.lst ((sortS xs).map .str)) else none
  | .isStr, .str _ => some (.bl true)
  | .isStr, .non => some (.bl false)
  | .isStr, .bl _ => some (.bl false)
  | .isStr, .int _ => some (.bl false)
  | .isStr, .tup _ => some (.bl false)
  | .isStr, .lst _ => some (.bl false)
  | .isInt, .str _ => some (.bl false)
  | .isInt, .non => some (.bl false)
  | .isInt, .bl _ => some (.bl true)
  | .isInt, .int _ => some (.bl true)
  | .isInt, .tup _ => some (.bl false)
  | .isInt, .lst _ => some (.bl false)
  | .isBool, .str _ => some (.bl false)
  | .isBool, .non => some (.bl false)
  | .isBool, .bl _ => some (.bl true)
  | .isBool, .int _ => some (.bl false)
  | .isBool, .tup _ => some (.bl false)
  | .isBool, .lst _ => some (.bl false)
  | .isTuple, .str _ => some (.bl false)
  | .isTuple, .non => some (.bl false)
  | .isTuple, .bl _ => some (.bl false)
  | .isTuple, .int _ => some (.bl false)
  | .isTuple, .tup _ => some (.bl true)
  | .isTuple, .lst _ => some (.bl false)
  | .isNone, d => match d with
    | .non => some (.bl true)
    | .mlst _ | .mset _ | .mdic _ | .ins _ _ => none
    | _ => some (.bl false)
  | .notNone, d => match d with
    | .non => some (.bl false)
    | .mlst _ | .mset _ | .mdic _ | .ins _ _ => none
    | _ => some (.bl true)
  | .rev, .tup ds => some (.tup ds.reverse)
  | .max, .lst ds => (intsOf ds).bind fun ns => if ns = [] then none else some (.int (maxL ns))
  | .min, .lst ds => (intsOf ds).bind fun ns => if ns = [] then none else some (.int (minL ns))
  | .minN, .lst ds => (intsOf ds).map fun ns => if ns = [] then .non else .int (minL ns)
  | _, _ => none
def o2 : O2 → D → D → Option D
  | .add, a, b => dAdd a b
  | .sub, a, b => dSub a b
  | .mul, a, b => dMul a b
  | .div, a, b => dDiv a b
  | .mod, a, b => dMod a b
  | .eq, a, b => dEq a b
  | .ne, a, b => dNe a b
  | .lt, a, b => dLt a b
  | .le, a, b => dLe a b
  | .gt, a, b => dGt a b
  | .ge, a, b => dGe a b
  | .isIn, a, b => dIn a b
  | .notIn, a, b => dNotIn a b
  | .ix, a, b => dIx a b
  | .max, .int i, .int j => some (.int (if j > i then j else i))
  | .min, .int i, .int j => some (.int (if j < i then j else i))
  | .join, .str a, .lst ds => (strsOf ds).bind fun ys => if (ys.map (·.length)).sum + ys.length * a.length ≤ 16777216 ∧ (Txt.join a ys).length ≤ sizeLine then some (.str (Txt.join a ys)) else none
  | .split, .str a, .str b => if (b.length == 0) = false ∧ a.length + 2 ≤ sizeLine ∧ (Txt.split a b).length ≤ sizeLine ∧ (Txt.split a b).all (fun x => decide (x.length ≤ sizeLine)) = true then some (.lst ((Txt.split a b).map .str)) else none
  | .index, .lst ds, x => if x.shp && (D.lst ds).shp then (ds.findIdx? fun y => y.eqv x).map fun (j : Nat) => .int (j : Nat) else none
  | .isB, .bl a, .bl b => some (.bl (decide (a = b)))
  | .isNotB, .bl a, .bl b => some (.bl (!decide (a = b)))
  | _, _, _ => none
/-- t[lo:hi] -/
def dCut : D → Option Int → Option Int → Option D
  | .tup ds, lo, hi => some (.tup (cutD ds lo hi))
  | .lst ds, lo, hi => some (.lst (cutD ds lo hi))
  | .str x, lo, hi => some (.str ⟨(cutD x.cps.toList lo hi).toArray⟩)
  | _, _, _ => none
/-- d.get(k, z) -/
def dGet (kvs : List (Str × D)) (y z : D) : Option D := match y with
  | .str k => some ((kvs.lookup k).getD z)
  | _ => none
/-- what a for walks -/
def items : IK → List D → Option (List D)
  | .tup, [.tup ds] => some ds
  | .lst, [.lst ds] => some ds
  | .fls, [.fls ds] => some ds
  | .str, [.str x] => some (x.cps.toList.map sign)
  | .rng, [.int n] => if -(2 ^ 62) ≤ n ∧ n ≤ sizeLine then some ((List.range n.toNat).map fun (i : Nat) => .int (0 + (i : Int))) else none
  | .rng, [.int a, .int b] => if -(2 ^ 62) ≤ a ∧ a < 2 ^ 62 ∧ -(2 ^ 62) ≤ b ∧ b < 2 ^ 62 ∧ b - a ≤ sizeLine then some ((List.range (b - a).toNat).map fun (i : Nat) => .int (a + (i : Int))) else none
  | .enumT, [.tup ds] => some (ds.zipIdx.map fun p => .tup [.int (p.2 : Nat), p.1])
  | .enumL, [.lst ds] => some (ds.zipIdx.map fun p => .tup [.int (p.2 : Nat), p.1])
  | _, _ => none

inductive T where
  | nm (i : Nat)
  | tp (is : List Nat)
  deriving DecidableEq
def setAll : List Nat → List D → Env → Env
  | i :: is, d :: ds, ρ => setAll is ds (ρ.set i (some d))
  | _, _, ρ => ρ
def bindT : T → D → Env → Option Env
  | .nm i, d, ρ => if d.own then none else some (ρ.set i (some d))
  | .tp is, .tup ds, ρ => if ds.length = is.length then some (setAll is ds ρ) else none
  | .tp _, _, _ => none
def wipeE (ρ : Env) : List Nat → Env
  | [] => ρ
  | v :: vs => (wipeE ρ vs).set v none

inductive E where
  | var (i : Nat) | con (d : D) | tup (es : List E) | lst (es : List E) | dic (ks : List Str) (es : List E)
  | o1 (o : O1) (e : E) | o2 (o : O2) (a b : E) | sm (o : O2) (a b : E) | chain (o o' : O2) (a b c : E)
  | and (es : List E) | or (es : List E) | not (e : E) | ife (c a b : E)
  | call (f : Nat) (es : List E)
  | sl (e : E) (lo hi : List E)
  | dget (e k d : E)
  | lc (elt : E) (tg : T) (ik : IK) (ie : List E) (cond : List E) (own : List Nat)
  | inOwn (neg : Bool) (e : E) (i : Nat)
  | srt (e : E) | minN (e : E) | lm (o : O2) (a b : E)
  deriving Inhabited
inductive S where
  | set (i : Nat) (e : E) | own (i : Nat) (es : List E) | ownd (i : Nat) (e : E)
  | unpack (is : List Nat) (e : E) | app (i : Nat) (e : E) | ext (i : Nat) (e : E) | put (i : Nat) (e : E) | freeze (i : Nat)
  | expr (e : E) | ifs (c : E) (a b : List S) | for (tg : T) (ik : IK) (ie : List E) (body : List S) | while (c : E) (body : List S)
  | ret (e : E) | retN | raise (c : Nat) | unpackL (is : List Nat) (e : E)
  deriving Inhabited
structure Fn where
  np : Nat
  ns : Nat
  body : List S
  deriving Inhabited

def R.bool (r : R D) (f : Bool → Sto → R D) : R D := r.bind fun d st => match d with
  | .bl b => f b st
  | _ => .fail
def lcGo (bnd : D → Option Env) (c : Env → Sto → R D) (e : Env → Sto → R D) : List D → Sto → R (List D)
  | [], st => .ok [] st
  | x :: xs, st => match bnd x with
    | none => .fail
    | some ρ => (c ρ st).bind fun b st1 => match b with
      | .bl true => (e ρ st1).bind fun d st2 => if d.own then .fail else (lcGo bnd c e xs st2).bind fun ds st3 => .ok (d :: ds) st3
      | .bl false => lcGo bnd c e xs st1
      | _ => .fail
def optI : List D → Option (Option Int)
  | [] => some none
  | [.int i] => some (some i)
  | _ => none
mutual
def ev (C : Cal) : E → Env → Sto → R D
  | .var i, ρ, st => match ρ[i]? with
    | some (some d) => if d.own then .fail else .ok d st
    | _ => .fail
  | .con d, _, st => .ok d st
  | .tup es, ρ, st => (evs C es ρ st).bind fun ds st => .ok (.tup ds) st
  | .lst es, ρ, st => (evs C es ρ st).bind fun ds st => .ok (.lst ds) st
  | .dic ks es, ρ, st => (evs C es ρ st).bind fun ds st => .ok (.dic (ks.zip ds)) st
  | .o1 o e, ρ, st => (ev C e ρ st).bind fun d st => R.lift st (o1 o d)
  | .o2 o a b, ρ, st => (ev C a ρ st).bind fun x st => (ev C b ρ st).bind fun y st => R.lift st (o2 o x y)
  | .sm o a b, ρ, st => (ev C a ρ st).bind fun x st => match x with
    | .str x => (ev C b ρ st).bind fun y st => R.lift st (o2 o (.str x) y)
    | _ => .fail
  | .chain o o' a b c, ρ, st => (ev C a ρ st).bind fun x st => (ev C b ρ st).bind fun y st => (R.lift st (o2 o x y)).bool fun k st =>
      if k then (ev C c ρ st).bind fun z st => R.lift st (o2 o' y z) else .ok (.bl false) st
  | .and es, ρ, st => evAnd C es ρ st
  | .or es, ρ, st => evOr C es ρ st
  | .not e, ρ, st => (ev C e ρ st).bool fun k st => .ok (.bl (!k)) st
  | .ife c a b, ρ, st => (ev C c ρ st).bool fun k st => if k then ev C a ρ st else ev C b ρ st
  | .call f es, ρ, st => (evs C es ρ st).bind fun ds st => C f ds st
  | .sl e lo hi, ρ, st => (ev C e ρ st).bind fun d st => (evs C lo ρ st).bind fun l st => (R.lift st (optI l)).bind fun l st => (evs C hi ρ st).bind fun h st => (R.lift st (optI h)).bind fun h st => R.lift st (dCut d l h)
  | .dget e k d, ρ, st => (ev C e ρ st).bind fun x st => match x with
    | .dic kvs => (ev C k ρ st).bind fun y st => (ev C d ρ st).bind fun z st => R.lift st (dGet kvs y z)
    | _ => .fail
  | .lc elt tg ik ie cond own, ρ, st => (evs C ie ρ st).bind fun ds st => match items ik ds with
    | none => .fail
    | some xs => ((lcGo (fun x => bindT tg x (wipeE ρ own)) (fun ρ st => evAnd1 C cond ρ st) (fun ρ st => ev C elt ρ st) xs st).quiet).bind fun ds st => .ok (.lst ds) st
  | .inOwn neg e i, ρ, st => (ev C e ρ st).bind fun x st => match ρ[i]? with
    | some (some (.mlst ds)) => R.lift st ((inD x (.mlst ds)).map fun b => .bl (if neg then !b else b))
    | some (some (.mset ks)) => R.lift st ((inD x (.mset ks)).map fun b => .bl (if neg then !b else b))
    | _ => .fail
  | .srt e, ρ, st => (ev C e ρ st).bind fun d st => R.lift st (o1 .sortedSet d)
  | .minN e, ρ, st => (ev C e ρ st).bind fun d st => R.lift st (o1 .minN d)
  | .lm o a b, ρ, st => (ev C a ρ st).bind fun x st => match x with
    | .lst x => (ev C b ρ st).bind fun y st => R.lift st (o2 o (.lst x) y)
    | _ => .fail
def evs (C : Cal) : List E → Env → Sto → R (List D)
  | [], _, st => .ok [] st
  | e :: es, ρ, st => (ev C e ρ st).bind fun d st => (evs C es ρ st).bind fun ds st => .ok (d :: ds) st
def evAnd (C : Cal) : List E → Env → Sto → R D
  | [], _, _ => .fail
  | [e], ρ, st => ev C e ρ st
  | e :: es, ρ, st => (ev C e ρ st).bool fun k st => if k then evAnd C es ρ st else .ok (.bl false) st
def evOr (C : Cal) : List E → Env → Sto → R D
  | [], _, _ => .fail
  | [e], ρ, st => ev C e ρ st
  | e :: es, ρ, st => (ev C e ρ st).bool fun k st => if k then .ok (.bl true) st else evOr C es ρ st
/-- a comprehension's test, if there is one -/
def evAnd1 (C : Cal) : List E → Env → Sto → R D
  | [], _, st => .ok (.bl true) st
  | e :: _, ρ, st => ev C e ρ st
end

inductive Fl where
  | nx (ρ : Env) (st : Sto)
  | rt (d : D) (st : Sto)
  | ex (c : Nat) (ρ : Env) (st : Sto)
  | fail
def Fl.of (ρ : Env) (r : R D) (f : D → Sto → Fl) : Fl := match r with
  | .ok d st => f d st
  | .exc c st => .ex c ρ st
  | .fail => .fail
def Fl.ofs (ρ : Env) (r : R (List D)) (f : List D → Sto → Fl) : Fl := match r with
  | .ok d st => f d st
  | .exc c st => .ex c ρ st
  | .fail => .fail
def Fl.seq (r : Fl) (f : Env → Sto → Fl) : Fl := match r with
  | .nx ρ st => f ρ st
  | r => r
def forGo (bnd : D → Env → Option Env) (b : Env → Sto → Fl) : List D → Env → Sto → Fl
  | [], ρ, st => .nx ρ st
  | x :: xs, ρ, st => match bnd x ρ with
    | none => .fail
    | some ρ1 => (b ρ1 st).seq fun ρ2 st2 => forGo bnd b xs ρ2 st2
def whileGo (c : Env → Sto → R D) (b : Env → Sto → Fl) : Nat → Env → Sto → Fl
  | 0, _, _ => .fail
  | n + 1, ρ, st => Fl.of ρ (c ρ st) fun d st1 => match d with
    | .bl true => (b ρ st1).seq fun ρ2 st2 => whileGo c b n ρ2 st2
    | .bl false => .nx ρ st1
    | _ => .fail
/-- turns of a while, at most -/
def FU : Nat := 1000000
mutual
def exec (C : Cal) : S → Env → Sto → Fl
  | .set i e, ρ, st => Fl.of ρ (ev C e ρ st) fun d st => if d.own then .fail else .nx (ρ.set i (some d)) st
  | .own i es, ρ, st => Fl.ofs ρ (evs C es ρ st) fun ds st => .nx (ρ.set i (some (.mlst ds))) st
  | .ownd i e, ρ, st => Fl.of ρ (ev C e ρ st) fun d st => if isKey d then .nx (ρ.set i (some (.mset [d]))) st else .fail
  | .unpack is e, ρ, st => Fl.of ρ (ev C e ρ st) fun d st => match bindT (.tp is) d ρ with
    | some ρ1 => .nx ρ1 st
    | none => .fail
  | .app i e, ρ, st => match ρ[i]? with
    | some (some (.mlst ds)) => Fl.of ρ (ev C e ρ st) fun d st => if d.own then .fail else if ds.length < sizeLine then .nx (ρ.set i (some (.mlst (ds ++ [d])))) st else .fail
    | _ => .fail
  | .ext i e, ρ, st => match ρ[i]? with
    | some (some (.mlst ds)) => Fl.of ρ (ev C e ρ st) fun d st => match d with
      | .lst es => if ds.length + es.length ≤ sizeLine then .nx (ρ.set i (some (.mlst (ds ++ es)))) st else .fail
      | .tup es => if ds.length + es.length ≤ sizeLine then .nx (ρ.set i (some (.mlst (ds ++ es)))) st else .fail
      | _ => .fail
    | _ => .fail
  | .put i e, ρ, st => match ρ[i]? with
    | some (some (.mset ks)) => Fl.of ρ (ev C e ρ st) fun d st => if isKey d && decide (ks.length < sizeLine) then .nx (ρ.set i (some (.mset (if ks.any fun y => y.eqv d then ks else ks ++ [d])))) st else .fail
    | _ => .fail
  | .freeze i, ρ, st => match ρ[i]? with
    | some (some (.mlst ds)) => .nx (ρ.set i (some (.lst ds))) st
    | _ => .fail
  | .expr e, ρ, st => Fl.of ρ (ev C e ρ st) fun _ st => .nx ρ st
  | .ifs c a b, ρ, st => Fl.of ρ (ev C c ρ st) fun d st => match d with
    | .bl k => if k then execs C a ρ st else execs C b ρ st
    | _ => .fail
  | .for tg ik ie body, ρ, st => Fl.ofs ρ (evs C ie ρ st) fun ds st => match items ik ds with
    | none => .fail
    | some xs => forGo (bindT tg) (fun ρ st => execs C body ρ st) xs ρ st
  | .while c body, ρ, st => whileGo (fun ρ st => ev C c ρ st) (fun ρ st => execs C body ρ st) FU ρ st
  | .ret e, ρ, st => Fl.of ρ (ev C e ρ st) fun d st => if d.own then .fail else .rt d st
  | .retN, _, st => .rt .non st
  | .raise c, ρ, st => .ex c ρ st
  | .unpackL is e, ρ, st => Fl.of ρ (ev C e ρ st) fun d st => match d with
    | .lst ds => if ds.length = is.length then .nx (setAll is ds ρ) st else .fail
    | _ => .fail
def execs (C : Cal) : List S → Env → Sto → Fl
  | [], ρ, st => .nx ρ st
  | s :: ss, ρ, st => (exec C s ρ st).seq fun ρ st => execs C ss ρ st
end
def finish : Fl → R D
  | .nx _ st => .ok .non st
  | .rt d st => .ok d st
  | .ex c _ st => .exc c st
  | .fail => .fail
def enter (F : Fn) (ds : List D) : Env := ds.map some ++ List.replicate (F.ns - ds.length) none
def run (P : List Fn) : Nat → Cal
  | 0, _, _, _ => .fail
  | n + 1, f, ds, st => match P[f]? with
    | none => .fail
    | some F => if ds.length = F.np then finish (execs (run P n) F.body (enter F ds) st) else .fail
end TL

namespace HT
open PySem PyProof.Rows
section
variable {prog : Program} {w : World} {A : Around} {E : Value → Shared → Prop} {s : Shared}
theorem adjust_back (n : Nat) : Builtin.Slice.sliceAdjust none none (-1) (n : Int) = ((n : Int) - 1, -1) := by
  unfold Builtin.Slice.sliceAdjust
  simp
theorem places_back (n : Nat) : Builtin.Slice.slicePlaces ((n : Int) - 1) (-1) (-1) = n := by
  unfold Builtin.Slice.slicePlaces
  simp
  try (split <;> omega)
  try omega
theorem applied_back {b : Addr} {v1 v2 v3 : Value} {n : Nat} {Q : Int × Int × Nat → Shared → Prop} (hs : s.heap.IsSliceOf b v1 v2 v3) (p1 : IsPart v1 none) (p2 : IsPart v2 none) (p3 : IsPart v3 (some (-1)))
    (h : Q ((n : Int) - 1, -1, n) s) : wpAny (model prog w) A (Builtin.Slice.sliceApplied (.ref b) (pure (n : Int))) Q E s := by
  obtain ⟨os, hos, hcs, hds⟩ := id hs
  unfold Builtin.Slice.sliceApplied Builtin.Slice.sliceFields
  refine wpAny_bind (wpAny_bind (wpAny_field hos hds (x := v1) rfl (wpAny_bind (wpAny_field hos hds (x := v2) rfl (wpAny_bind (wpAny_field hos hds (x := v3) rfl (wpAny_pure ?_)))))))
  refine wpAny_bind (slicePart_ p3 ?_)
  show wpAny _ _ (if ((-1 : Int) == 0) = true then _ else _) _ _ s
  rw [if_neg (by decide)]
  refine wpAny_bind (slicePart_ p1 (wpAny_bind (slicePart_ p2 (wpAny_bind (wpAny_pure ?_)))))
  show wpAny _ _ (match Builtin.Slice.sliceAdjust none none (-1) (n : Int) with | (l, u) => pure (l, (-1 : Int), Builtin.Slice.slicePlaces l u (-1))) _ _ s
  rw [adjust_back n]
  show wpAny _ _ (pure ((n : Int) - 1, (-1 : Int), Builtin.Slice.slicePlaces ((n : Int) - 1) (-1) (-1))) _ _ s
  rw [places_back]
  exact wpAny_pure h
theorem fm_some {α β : Type} {f : α → Option β} {g : α → β} : ∀ {l : List α}, (∀ m ∈ l, f m = some (g m)) → l.filterMap f = l.map g
  | [], _ => rfl
  | x :: l, h => by
    rw [List.filterMap_cons, h x (List.mem_cons_self ..), List.map_cons, fm_some fun m hm => h m (List.mem_cons_of_mem _ hm)]
theorem pick_back (xs : Array Value) : ((List.range xs.size).filterMap fun (m : Nat) => xs[((xs.size : Int) - 1 + (m : Int) * (-1)).toNat]?).toArray = xs.toList.reverse.toArray := by
  congr 1
  apply List.ext_getElem?
  intro i
  have e : ∀ m ∈ List.range xs.size, xs[((xs.size : Int) - 1 + (m : Int) * (-1)).toNat]? = some (xs.toList.reverse.getD m .none) := by
    intro m hm
    have hm := List.mem_range.mp hm
    have : ((xs.size : Int) - 1 + (m : Int) * (-1)).toNat = xs.size - 1 - m := by omega
    rw [this, List.getD_eq_getElem?_getD, List.getElem?_reverse (by simpa using hm)]
    simp
    rw [Array.getElem?_eq_getElem (by omega)]
    simp
  rw [show ((List.range xs.size).filterMap fun (m : Nat) => xs[((xs.size : Int) - 1 + (m : Int) * (-1)).toNat]?) = (List.range xs.size).map fun m => xs.toList.reverse.getD m .none from fm_some e]
  rw [List.getElem?_map]
  by_cases hi : i < xs.size
  · rw [List.getElem?_range hi]
    simp [hi]
  · rw [List.getElem?_eq_none (by simpa using hi), List.getElem?_eq_none (by simpa using hi)]
    rfl
theorem getItem_tuple_back {t b : Addr} {items : Array Value} {v1 v2 v3 : Value} {Q : Value → Shared → Prop} (ht : IsTup s.heap t items) (hs : s.heap.IsSliceOf b v1 v2 v3) (p1 : IsPart v1 none) (p2 : IsPart v2 none) (p3 : IsPart v3 (some (-1)))
    (h : Q (.ref s.heap.objs.size) { s with heap := s.heap.push { cls := .type "tuple", data := .seq items.toList.reverse.toArray } })
    (hsz : items.size ≤ sizeLine) : wpAny (model prog w) A (getItem (.ref t) (.ref b)) Q E s := by
  have htake : sizeOk (.seq items.toList.reverse.toArray) := by
    show items.toList.reverse.toArray.size ≤ sizeLine
    rw [List.size_toArray, List.length_reverse, Array.length_toList]
    exact hsz
  obtain ⟨os, hos, hcs, hds⟩ := id hs
  have hTs : s.TypeIs (.ref b) "slice" := ⟨os, hos, hcs⟩
  unfold getItem
  try with_reducible refine wpAny_holding ?_
  first | refine wpAny_bind (wpAny_pure ?_) | skip
  refine wpAny_bind (wpAny_sequenceKey ht.typeIs (by decide) ?_)
  refine wpAny_bind (wpAny_callSpecial?_slot (name := Str.ofString "__getitem__") ht.typeIs PyProof.Rows.slot_tuple_getitem
    (wpAny_call_entry PyProof.Rows.slot_tuple_getitem ht.typeIs entry_tuple_getitem ?_ (args_tuple_getitem _ _)))
  show wpAny _ _ (Builtin.Tuple.tupleItemsOf (.ref t) >>= _) _ _ s
  refine wpAny_bind (tupleItemsOf_ ht ?_)
  refine wpAny_bind (wpAny_typeOf hTs ?_)
  rw [if_pos (by decide)]
  refine wpAny_bind (applied_back hs p1 p2 p3 ?_)
  have hno : ¬ ((((items.size : Int) - 1) == 0 && (-1 : Int) == 1 && items.size == items.size) = true) := by
    intro q
    rw [Bool.and_eq_true, Bool.and_eq_true] at q
    have := q.1.2
    exact absurd this (by decide)
  show wpAny _ _ (if (((items.size : Int) - 1) == 0 && (-1 : Int) == 1 && items.size == items.size) = true then _ else _) _ _ s
  rw [if_neg hno, pick_back]
  first
    | exact wpAny_bind (m := Builtin.Tuple.tupleExact _) (wpAny_newObj_type (wpAny_pure ⟨_, rfl, wpAny_pure h⟩) htake)
    | exact wpAny_bind (m := Builtin.Tuple.tupleExact _) (wpAny_newObj_type (wpAny_bind (wpAny_pure (wpAny_pure ⟨_, rfl, wpAny_pure h⟩))) htake)
    | exact wpAny_bind (wpAny_bind (m := Builtin.Tuple.tupleExact _) (wpAny_newObj_type (wpAny_pure (wpAny_pure ⟨_, rfl, wpAny_pure h⟩)) htake))
    | exact wpAny_bind (wpAny_bind (m := Builtin.Tuple.tupleExact _) (wpAny_newObj_type (wpAny_pure ⟨_, rfl, wpAny_pure h⟩) htake))
end
end HT
namespace L2
open PySem PySem.Spec PyProof.Rows
def tBack (K : PySem.W.Frag) (te : TE) : TE := fun σ H Q => te σ H fun x H1 => ∃ a xs, x = .ref a ∧ SqT K H1 a xs ∧ ∀ p, H1 p = none → Q (.ref p) (upd H1 p (.tup xs.reverse))
theorem pe_back {X : Cx} {e : Expr} {te : TE} {k : Nat} {p1 p2 p3 pos : Pos} (he : PE X e te) : PE X (.Subscript e (.Slice none none (some (.UnaryOp .USub (.Constant (.int 1) k p1) p2)) p3) pos) (tBack X.K te) := by
  refine ⟨fun pins s σ H Q I h => ?_⟩
  refine Subscript_ (thn (he.run pins s σ H _ I h) fun v s1 ⟨x, H1, I1, r1, q1⟩ => ?_)
  obtain ⟨a, xs, rfl, hx, q⟩ := q1
  cases r1
  have step : PO X (some (.UnaryOp .USub (.Constant (.int 1) k p1) p2)) (tPart (tUn (rU fun i => .int (-i)) (tC (.int 1)))) := po_some (pe_un un_neg pe_int)
  refine wpAny_Slice (thn (po_none.run pins s1 σ H1 (fun o H2 => o = none ∧ H2 = H1) I1 ⟨rfl, rfl⟩) fun v1 s2 ⟨l, H2, I2, q1, e1, e2⟩ => ?_)
  subst e1 e2
  refine thn (po_none.run pins s2 σ H2 (fun o H3 => o = none ∧ H3 = H2) I2 ⟨rfl, rfl⟩) fun v2 s3 ⟨u, H3, I3, q2, e1, e2⟩ => ?_
  subst e1 e2
  refine thn (step.run pins s3 σ H3 (fun o H4 => o = some (-1) ∧ H4 = H3) I3 ⟨1, rfl, -1, rfl, rfl, rfl⟩) fun v3 s4 ⟨o, H4, I4, q3, e1, e2⟩ => ?_
  subst e1 e2
  have I5 : Inv X pins σ H4 { s4 with heap := s4.heap.push { cls := .type "slice", data := .fields #[v1, v2, v3] } } := I4.kept (t' := s4.toks) fun b ob q => Heap.get?_push_of_some _ q
  obtain ⟨its, r, ht, hz⟩ := I5.tuple hx
  have hlen : its.toArray.size = xs.length := by rw [List.size_toArray]; exact r.length.symm
  show wpAny (model X.prog X.w) X.A (subscriptTail e (.Slice none none (some (.UnaryOp .USub (.Constant (.int 1) k p1) p2)) p3) (.ref a) (.ref s4.heap.objs.size)) (EP X pins σ Q) X.xe { s4 with heap := s4.heap.push { cls := .type "slice", data := .fields #[v1, v2, v3] } }
  refine tail_any (ops := [.ref a, .ref s4.heap.objs.size]) ht.typeIs PyProof.Rows.slot_tuple_getitem.lookup ?_ (by with_unfolding_all rfl)
  refine HT.getItem_tuple_back ht (Heap.IsSliceOf.new _ v1 v2 v3) q1 q2 q3 ?_ (by rw [hlen]; exact hz)
  refine ⟨.ref _, _, I5.laid (t' := s4.toks) (o := .tup xs.reverse) (fun b ob q => Heap.get?_push_of_some _ q) (Nat.le_refl _) ?_, rfl, q _ (I5.hok.fresh (Nat.le_refl _))⟩
  exact ⟨by rw [List.length_reverse]; exact hz, _, r.reverse, IsTup.new _ _⟩
end L2

namespace L2
open PySem PySem.Spec PyProof.Rows
theorem tuple_once (l : Addr) (items : Array Value) (n : Nat) (dd : Option Addr) (sl : Array (Option Value)) (u : Tok) (c1 : (items.isEmpty || (1 : Int) == 1) = true) :
    Meets (Builtin.«tuple.__mul__» ⟨[.ref l, .int 1 u], []⟩) (fun _ R s => s.heap.get? l = some { cls := .type "tuple", dict := dd, data := .seq items n, slots := sl } ∧ R (.ok (.ret (Value.ref l))) s) :=
  .of_wp fun prog w A R s h => by
    obtain ⟨hp, g, d, tk, os⟩ := s
    obtain ⟨hl, h⟩ := h
    have f1 := AutoSeq1.idx_int
    have c0 : (decide ((1 : Int) < -(2 ^ 63)) || decide ((1 : Int) ≥ 2 ^ 63)) = false := by decide
    wp_walk using wpAny_loadPart' hl
    repeat (first
      | (refine wpAny_ite_false (decide_eq_false (by rw [c0]; exact Bool.false_ne_true)) ?_; wp_walk using wpAny_loadPart' hl)
      | (refine wpAny_ite_true (decide_eq_true c1) ?_; wp_walk using wpAny_loadPart' hl))
    exact ⟨_, rfl, h⟩
def rOneT (K : PySem.W.Frag) : R2 := fun x y H Q => ∃ l xs, x = .ref l ∧ y = .int 1 ∧ SqT K H l xs ∧ Q (.ref l) H
theorem op_oneT {X : Cx} : OpR X (binaryOp .Mult) (rOneT X.K) := by
  intro pins s σ H x y v u Q I rx ry h
  obtain ⟨l, xs, rfl, rfl, hT, q⟩ := h
  cases rx
  obtain ⟨t, rfl⟩ := ry
  obtain ⟨its, r, ⟨⟨cls, dd, data, sl⟩, ho, hc, n, hd⟩, hs⟩ := I.tuple hT
  simp only at hc hd
  subst hc hd
  refine wpAny_binaryOp_repeat_ref (T := "tuple") (U := "int") (by decide) ⟨_, ho, rfl⟩ (fun s' => typeIs_int s' 1 t) noFill_tuple_mul F.fills_int_mul F.slot_int_rmul repeat_tuple F.slot_int_index.lookup
    (call_meets F.slot_int_rmul (typeIs_int s 1 t) F.entry_int_rmul (F.args_int_rmul_2 _ _) (int_rmul_tuple 1 t l its.toArray n dd sl)
      ⟨ho, rfl, ⟨_, ho, rfl⟩, call_meets F.slot_tuple_mul ⟨_, ho, rfl⟩ F.entry_tuple_mul (F.args_tuple_mul_2 _ _) (tuple_once l its.toArray n dd sl t (by simp)) ⟨ho, ?_⟩⟩)
  exact ⟨.ref l, H, I, rfl, q⟩
end L2

namespace TL
open PySem L2 PySem.Spec PyProof.Rows
open AutoSeq1 (wpAny_loadPart')
theorem meets_enumerate_newT (l : Addr) (items : Array Value) (n : Nat) (dct : Option Addr) (sl : Array (Option Value)) :
    Meets (Builtin.«enumerate.__new__» ⟨[.type "enumerate", .ref l], []⟩) (fun _ R s => s.heap.get? l = some { cls := .type "tuple", dict := dct, data := .seq items n, slots := sl } ∧
      R (.ok (.ret (.ref (s.heap.push { cls := .type "tuple_iterator", data := .fields #[.ref l, .int 0 0] }).objs.size)))
        { s with heap := (s.heap.push { cls := .type "tuple_iterator", data := .fields #[.ref l, .int 0 0] }).push { cls := .type "enumerate", data := .fields #[.none, .bool false, .ref s.heap.objs.size, rawInt 0, .none, .none] } }) :=
  .of_wp fun prog w A R s h => by
    obtain ⟨hp, g, d, tk, os⟩ := s; obtain ⟨hl, h⟩ := h
    have hsub := sub_enumerate
    have hL : Heap.IsTuple (Shared.heap ⟨hp, g, d, tk, os⟩) l items := ⟨_, hl, rfl, n, rfl⟩
    wp_walk using wpAny_loadPart' hl
    refine wpAny_stack_any fun st => wpAny_pure ?_
    split
    · rename_i c _ _ _ _ _
      cases (c == Value.type "enumerate")
      · wp_walk using wpAny_loadPart' hl, wpAny_pyIter_tuple hL
        exact ⟨_, rfl, h⟩
      · wp_walk using wpAny_loadPart' hl, wpAny_pyIter_tuple hL
        exact ⟨_, rfl, h⟩
    · wp_walk using wpAny_loadPart' hl, wpAny_pyIter_tuple hL
      exact ⟨_, rfl, h⟩
section
variable {prog : Program} {w : World} {A : Around} {E : Value → Shared → Prop} {s : Shared}
theorem call_enumerate_tup {l : Addr} {items : Array Value} {Q : Value → Shared → Prop} (hL : s.heap.IsTuple l items)
    (h : ∀ h', IsEnum h' (s.heap.objs.size + 1) s.heap.objs.size 0 .none → h'.IsTupleIter s.heap.objs.size l 0 → h'.objs.size = s.heap.objs.size + 2 →
      (∀ b o, s.heap.get? b = some o → h'.get? b = some o) → Q (.ref (s.heap.objs.size + 1)) { s with heap := h' }) :
    wpAny (model prog w) A (call (.type "enumerate") [.ref l]) Q E s := by
  obtain ⟨⟨c, dct, dt, sl⟩, hl, hc, n, hd⟩ := hL
  replace hc : c = .type "tuple" := hc
  replace hd : dt = .seq items n := hd
  subst hc hd
  refine callType_new F.called_enumerate (by decide) (F.typeCall_enumerate_1 _) (F.newCall_enumerate_1 _) (fun obj => F.args_object_init_2 obj _) F.entry_enumerate_new
    (meets_enumerate_newT l items n dct sl) ⟨hl, ?_⟩
  have hz : (s.heap.push { cls := .type "tuple_iterator", data := .fields #[.ref l, .int 0 0] }).objs.size = s.heap.objs.size + 1 := Heap.size_push ..
  show _ ∧ _
  rw [hz]
  have he : IsEnum ((s.heap.push { cls := .type "tuple_iterator", data := .fields #[.ref l, .int 0 0] }).push
      { cls := .type "enumerate", data := .fields #[.none, .bool false, .ref s.heap.objs.size, rawInt 0, .none, .none] }) (s.heap.objs.size + 1) s.heap.objs.size 0 .none := by
    have := Heap.get?_push_size (s.heap.push { cls := .type "tuple_iterator", data := .fields #[.ref l, .int 0 0] })
      (o := { cls := .type "enumerate", data := .fields #[.none, .bool false, .ref s.heap.objs.size, rawInt 0, .none, .none] }) rfl
    rw [hz] at this; exact this
  refine ⟨⟨_, he, rfl⟩, h _ he ⟨_, Heap.get?_push_of_some _ (Heap.get?_push_size _ rfl), rfl, rfl⟩ (by rw [Heap.size_push, hz]) fun b o x => Heap.get?_push_of_some _ (Heap.get?_push_of_some _ x)⟩
end
/-- the tuple at a as it stands, each item with its number in a new pair -/
def IteT (K : PySem.W.Frag) (a : Addr) : It :=
  ⟨fun i H => ∃ (xs : List V) (x : V), SqT K H a xs ∧ xs[i]? = some x, fun i H v H' => ∃ T x, v = .ref T ∧ H T = none ∧ H' = upd H T (.tup [.int (i : Nat), x]) ∧ ∀ xs, SqT K H a xs → xs[i]? = some x, fun i H => ∃ xs : List V, SqT K H a xs ∧ xs.length ≤ i⟩
theorem turn_enumT {P : Program} {w : World} {K : PySem.W.Frag} {elts : List Expr} {kk : Nat} {tpos : Pos} (a e it : Addr) :
    Turn P w K (.Tuple elts kk tpos) (IteT K a) [e, it] e (fun i h => (∃ old, IsEnum h e it ((i : Nat) : Int) old) ∧ h.IsTupleIter it a i ∧ e ≠ it) where
  mem := by simp
  obj := fun i h st b hb => by
    obtain ⟨⟨old, he⟩, ⟨o, ho, hc, hd⟩, _⟩ := st
    have e' : b = e ∨ b = it := by simpa using hb
    rcases e' with z | z
    · rw [z]; exact ⟨_, he, fun v q => nomatch q⟩
    · rw [z]; exact ⟨o, ho, fun v q => by rw [hd] at q; cases q⟩
  keep := fun i h h' st k => let ⟨⟨old, he⟩, hi, hne⟩ := st; ⟨⟨old, k e (by simp) _ he⟩, hi.at fun o q => k it (by simp) o q, hne⟩
  item := by
    intro X hP hw hK hc i pins s σ H E I hf st hg
    subst hP hw hK
    obtain ⟨⟨old, he⟩, hit, hne⟩ := st
    obtain ⟨xs, x, hq, hx⟩ := hg
    obtain ⟨its, rv, p, hz⟩ := I.tuple hq
    obtain ⟨u, hu, ru⟩ := rv.get hx
    have hel : e < s.heap.objs.size := Heap.lt_size he
    have hil : it < s.heap.objs.size := by obtain ⟨_, q, _⟩ := hit; exact Heap.lt_size q
    have pt : s.heap.IsTuple a its.toArray := p
    have hai : a ≠ it := by
      obtain ⟨o1, q1, c1, d1⟩ := hit
      obtain ⟨o2, q2, c2, n2, d2⟩ := pt
      intro z
      rw [z, q1] at q2
      cases q2
      rw [d1] at d2
      cases d2
    have hae : e ≠ a := by
      obtain ⟨o2, q2, c2, n2, d2⟩ := pt
      intro z
      have he' : s.heap.get? e = some _ := he
      rw [z, q2] at he'
      cases he'
      cases d2
    have hil2 : i < its.toArray.size := by
      rw [List.size_toArray]
      exact (List.getElem?_eq_some_iff.mp hu).1
    refine wpAny_pyNext_enum_itemD (Draws.tuple (A := X.A.in1) (show X.A.in1.handled = none from I.ok.hd hc) it a hai its.toArray) he ⟨hit, pt⟩ hil2 hne (by simp [hne, hae]) fun u' h' tk hP' ho hst hT hsz hk => ?_
    have eu : u' = u := by
      have : its.toArray[i]? = some u := by simpa using hu
      rw [this] at hP'
      exact (Option.some.inj hP').symm
    subst eu
    refine ⟨_, rfl, wpAny_letOwnedTupleGo_enum (s := { s with heap := h', toks := tk + 1 }) ho fun h'' he' sb => ?_⟩
    have hT2 : h''.get? s.heap.objs.size = some { cls := .type "tuple", data := .seq #[.int i tk, u'] } := (sb.2 _ (Nat.ne_of_gt hel)).trans hT
    have new : ObjOk X.prog X.w (upd H s.heap.objs.size (.tup [.int (i : Nat), x])) h'' s.heap.objs.size (.tup [.int (i : Nat), x]) :=
      ⟨by show 2 ≤ sizeLine; decide, [.int i tk, u'], .cons ⟨_, rfl⟩ (.cons ru .nil), ⟨_, hT2, rfl, _, rfl⟩⟩
    have I1 : Inv X pins σ (upd H s.heap.objs.size (.tup [.int (i : Nat), x])) { s with heap := h'', toks := tk + 1 } :=
      I.turnedNew (ch := [e, it]) (fun b ob hb q => (sb.2 b (fun z => hb (by simp [z]))).trans (hk b ob (fun z => hb (by simp [z])) (fun z => hb (by simp [z])) q)) hf (Nat.le_refl _) new
    refine ⟨.ref s.heap.objs.size, _, I1, rfl, ⟨_, x, rfl, I.hok.fresh (Nat.le_refl _), rfl, fun ys hy => by rw [I.tuple_inj hy hq]; exact hx⟩, ⟨⟨u', ?_⟩, hst.1.at fun o q => (sb.2 it (Ne.symm hne)).trans q, hne⟩, fun b hb => ?_⟩
    · have e1 : ((i + 1 : Nat) : Int) = (i : Int) + 1 := by omega
      rw [e1]; exact he'
    · have hb' : b < s.heap.objs.size := by
        have e' : b = e ∨ b = it := by simpa using hb
        rcases e' with z | z
        · rw [z]; exact hel
        · rw [z]; exact hil
      rw [upd_ne (Nat.ne_of_lt hb')]
      exact (hf b hb).1
  done := by
    intro X hP hw hK hc i pins s σ H E I hf st hg
    subst hP hw hK
    obtain ⟨⟨old, he⟩, hit, hne⟩ := st
    obtain ⟨xs, hq, hx⟩ := hg
    obtain ⟨its, rv, p, hz⟩ := I.tuple hq
    obtain ⟨f0, f1, f2, f3, f4, f5⟩ := hf it (by simp)
    have hl := rv.length
    have pt : s.heap.IsTuple a its.toArray := p
    have hT : s.TypeIs (.ref e) "enumerate" := ⟨_, he, rfl⟩
    unfold pyNext
    refine wpAny_bind (wpAny_attempt (wpAny_callSpecial?_slot (name := Str.ofString "__next__") hT F.slot_enumerate_next
      (wpAny_call_entry F.slot_enumerate_next hT F.entry_enumerate_next ?_ (F.args_enumerate_next_1 _))))
    show wpAny _ _ (field (.ref e) 2 >>= _) _ _ _
    refine wpAny_bind (wpAny_field he rfl (x := .ref it) rfl ?_)
    refine wpAny_bind (wpAny_nextOf_tuple_end (I.ok.hd hc) hit pt (by simp; omega) fun h' x he' hx' => ?_)
    obtain ⟨o, ho, hcc⟩ := hx'
    refine wpAny_bind (wpAny_isInstance (T := "StopIteration") (b := true) ⟨o, ho, hcc⟩ isSubtype_stop ?_)
    exact wpAny_pure ⟨rfl, I.turned (t' := s.toks) (fun b o hb q => he' b o hb q) f0 f1 f3 f4 f5⟩
  self := fun A i s Q E st h => let ⟨⟨_, he⟩, _⟩ := st; wpAny_pyIter_enum he h
def iEnumT (K : PySem.W.Frag) (ta : TA) : TI := fun σ H R => ta σ H fun vs H1 => ∃ a xs, vs = [.ref a] ∧ SqT K H1 a xs ∧ R (IteT K a) H1
theorem pi_enumT {X : Cx} {e : Expr} {ta : TA} {p pos tpos : Pos} {elts : List Expr} {kk : Nat} (hg : Gl X "enumerate") (hm : X.mg "enumerate" = none) (ha : PA X [e] ta) (hs : starEach [e] X.env = [(false, eval e X.env)]) :
    PI X (.Tuple elts kk tpos) (.Call (.Name "enumerate" p) [e] [] pos) (iEnumT X.K ta) := by
  refine ⟨fun pins s σ H R I h => ?_⟩
  refine Call_ (ld_blt I hg hm boot_enumerate (PyProof.Rows.callWith_type1 (thn (ha.run pos pins s σ H _ I h) fun us s1 ⟨vs, H1, I1, r1, q1⟩ => ?_) hs rfl))
  obtain ⟨a, xs, ex, hq, q⟩ := q1
  subst ex
  cases r1 with
  | cons r rr =>
    cases rr
    cases r
    obtain ⟨its, rv, p', hz⟩ := I1.tuple hq
    have pt : s1.heap.IsTuple a its.toArray := p'
    refine call_enumerate_tup pt fun h' he hit hsz hk => wpAny_pyIter_enum he ?_
    have I2 : Inv X pins σ H1 { s1 with heap := h' } := I1.kept (t' := s1.toks) hk
    refine ⟨s1.heap.objs.size + 1, [s1.heap.objs.size + 1, s1.heap.objs.size], _, _, H1, rfl, I2, turn_enumT a (s1.heap.objs.size + 1) s1.heap.objs.size, ⟨⟨.none, he⟩, hit, Nat.succ_ne_self _⟩, fun b hb => ?_, q⟩
    have e' : b = s1.heap.objs.size + 1 ∨ b = s1.heap.objs.size := by simpa using hb
    have hle : s1.heap.objs.size ≤ b := by
      rcases e' with z | z
      · rw [z]; exact Nat.le_add_right _ _
      · rw [z]; exact Nat.le_refl _
    exact I1.fpOk hle (I1.hok.fresh hle)
end TL

namespace TL
open PySem L2

/-- the written part, and the world -/
structure KW where
  K : PySem.W.Frag
  w : World
instance : Coe KW PySem.W.Frag := ⟨KW.K⟩
@[reducible] def _root_.L2.Cx.kw (X : L2.Cx) : KW := ⟨X.K, X.w⟩

/-- whose thing stands at an address: a name's (depth, slot), a cell's of the store; the path to it -/
inductive Root where
  | slot (dp i : Nat) | cell (l : Nat)
  deriving DecidableEq
structure Wd where
  mu : List Addr
  wr : Addr → Option (Root × List Str)
section
variable (K : KW) (ω : Wd) (H : Hp)
mutual
def Rep : D → V → Prop
  | .non, v => v = .non
  | .bl b, v => v = .bl b
  | .int i, v => v = .int i
  | .str x, v => v = .str x ∧ x.length ≤ sizeLine
  | .tup ds, v => ds.length ≤ sizeLine ∧ ∃ a vs, v = .ref a ∧ SqT K H a vs ∧ Reps ds vs
  | .lst ds, v => ds.length ≤ sizeLine ∧ ∃ a vs, v = .ref a ∧ H a = some (.lst vs) ∧ ω.wr a = none ∧ Reps ds vs
  | .fls ds, v => ds.length ≤ sizeLine ∧ ∃ a vs, v = .ref a ∧ ((H a = some (.lst vs) ∧ ω.wr a = none) ∨ (∃ o, H a = some (.frz o (.lst vs))) ∨ ∃ (o : Obj) (its : Array Value) (n : Nat), K.K.lookup a = some o ∧ o.cls = .type "list" ∧ o.dict = none ∧ o.data = .seq its n ∧ its.size ≤ sizeLine ∧ Vals vs its.toList) ∧ Reps ds vs
  | .dic kvs, v => kvs.length ≤ sizeLine ∧ ∃ a kws, v = .ref a ∧ H a = some (.dK kws) ∧ ω.wr a = none ∧ Repk kvs kws
  | .ref l, v => ∃ a, ω.mu[l]? = some a ∧ v = .ref a
  | _, _ => False
def Reps : List D → List V → Prop
  | [], vs => vs = []
  | d :: ds, vs => ∃ v r, vs = v :: r ∧ Rep d v ∧ Reps ds r
def Repk : List (Str × D) → List (Key × V) → Prop
  | [], vs => vs = []
  | (k, d) :: ds, vs => ∃ v r, vs = (.inr k, v) :: r ∧ Rep d v ∧ Repk ds r
end
end
section
variable {K : KW} {ω ω' ω'' : Wd} {H H' H'' : Hp}
/-- all that a value leans on is kept -/
structure Kept (ω : Wd) (H : Hp) (ω' : Wd) (H' : Hp) : Prop where
  mu : ω.mu <+: ω'.mu
  tup : ∀ a xs, H a = some (.tup xs) → H' a = some (.tup xs)
  frz : ∀ a o u, H a = some (.frz o u) → H' a = some (.frz o u)
  lst : ∀ a xs, H a = some (.lst xs) → ω.wr a = none → H' a = some (.lst xs) ∧ ω'.wr a = none
  dic : ∀ a xs, H a = some (.dK xs) → ω.wr a = none → H' a = some (.dK xs) ∧ ω'.wr a = none
theorem Kept.sqT (k : Kept ω H ω' H') {a : Addr} {vs : List V} (h : SqT K H a vs) : SqT K H' a vs := by
  rcases h with (h | ⟨o, h⟩) | h
  · exact .inl (.inl (k.tup _ _ h))
  · exact .inl (.inr ⟨o, k.frz _ _ _ h⟩)
  · exact .inr h
mutual
theorem Rep.kept (k : Kept ω H ω' H') : ∀ (d : D) (v : V), Rep K ω H d v → Rep K ω' H' d v
  | .non, v, h => h
  | .bl b, v, h => h
  | .int i, v, h => h
  | .str x, v, h => h
  | .tup ds, v, h => by
    obtain ⟨l, a, vs, e, q, r⟩ := h
    exact ⟨l, a, vs, e, k.sqT q, Reps.kept k ds vs r⟩
  | .lst ds, v, h => by
    obtain ⟨l, a, vs, e, q, w, r⟩ := h
    obtain ⟨q', w'⟩ := k.lst _ _ q w
    exact ⟨l, a, vs, e, q', w', Reps.kept k ds vs r⟩
  | .fls ds, v, h => by
    obtain ⟨l, a, vs, e, q, r⟩ := h
    refine ⟨l, a, vs, e, ?_, Reps.kept k ds vs r⟩
    rcases q with ⟨q, w⟩ | ⟨o, q⟩ | q
    · exact .inl (k.lst _ _ q w)
    · exact .inr (.inl ⟨o, k.frz _ _ _ q⟩)
    · exact .inr (.inr q)
  | .dic kvs, v, h => by
    obtain ⟨l, a, vs, e, q, w, r⟩ := h
    obtain ⟨q', w'⟩ := k.dic _ _ q w
    exact ⟨l, a, vs, e, q', w', Repk.kept k kvs vs r⟩
  | .ref l, v, h => by
    obtain ⟨a, e, q⟩ := h
    refine ⟨a, ?_, q⟩
    obtain ⟨t, ht⟩ := k.mu
    rw [← ht, List.getElem?_append_left (List.getElem?_eq_some_iff.mp e).1]
    exact e
  | .clo _ _, v, h => h.elim
  | .mlst _, v, h => h.elim
  | .mset _, v, h => h.elim
  | .mdic _, v, h => h.elim
  | .ins _ _, v, h => h.elim
theorem Reps.kept (k : Kept ω H ω' H') : ∀ (ds : List D) (vs : List V), Reps K ω H ds vs → Reps K ω' H' ds vs
  | [], vs, h => h
  | d :: ds, vs, h => by
    obtain ⟨v, r, e, h1, h2⟩ := h
    exact ⟨v, r, e, Rep.kept k d v h1, Reps.kept k ds r h2⟩
theorem Repk.kept (k : Kept ω H ω' H') : ∀ (ds : List (Str × D)) (vs : List (Key × V)), Repk K ω H ds vs → Repk K ω' H' ds vs
  | [], vs, h => h
  | (n, d) :: ds, vs, h => by
    obtain ⟨v, r, e, h1, h2⟩ := h
    exact ⟨v, r, e, Rep.kept k d v h1, Repk.kept k ds r h2⟩
end
theorem Kept.refl : Kept ω H ω H := ⟨List.prefix_refl _, fun _ _ h => h, fun _ _ _ h => h, fun _ _ h w => ⟨h, w⟩, fun _ _ h w => ⟨h, w⟩⟩
theorem Kept.trans (a : Kept ω H ω' H') (b : Kept ω' H' ω'' H'') : Kept ω H ω'' H'' :=
  ⟨a.mu.trans b.mu, fun c xs h => b.tup c xs (a.tup c xs h), fun c o u h => b.frz c o u (a.frz c o u h), fun c xs h w => let ⟨x, y⟩ := a.lst c xs h w; b.lst c xs x y, fun c xs h w => let ⟨x, y⟩ := a.dic c xs h w; b.dic c xs x y⟩
/-- new things only -/
theorem Kept.grow (g : Same H H') : Kept ω H ω H' := ⟨List.prefix_refl _, fun _ _ h => g _ _ h, fun _ _ _ h => g _ _ h, fun _ _ h w => ⟨g _ _ h, w⟩, fun _ _ h w => ⟨g _ _ h, w⟩⟩

theorem Reps.length : ∀ {ds : List D} {vs : List V}, Reps K ω H ds vs → vs.length = ds.length
  | [], vs, h => by rw [show vs = [] from h]; rfl
  | d :: ds, vs, h => by
    obtain ⟨v, r, rfl, h1, h2⟩ := h
    rw [List.length_cons, List.length_cons, Reps.length h2]
theorem Reps.append : ∀ {ds es : List D} {vs ws : List V}, Reps K ω H ds vs → Reps K ω H es ws → Reps K ω H (ds ++ es) (vs ++ ws)
  | [], es, vs, ws, h, h' => by
    have e : vs = [] := h
    subst e
    exact h'
  | d :: ds, es, vs, ws, h, h' => by
    obtain ⟨v, r, rfl, h1, h2⟩ := h
    exact ⟨v, r ++ ws, rfl, h1, Reps.append h2 h'⟩
theorem Reps.get : ∀ {ds : List D} {vs : List V} {i : Nat} {d : D}, Reps K ω H ds vs → ds[i]? = some d → ∃ v, vs[i]? = some v ∧ Rep K ω H d v
  | [], vs, i, d, h, e => by simp at e
  | d' :: ds, vs, 0, d, h, e => by
    obtain ⟨v, r, rfl, h1, h2⟩ := h
    simp at e
    subst e
    exact ⟨v, rfl, h1⟩
  | d' :: ds, vs, i + 1, d, h, e => by
    obtain ⟨v, r, rfl, h1, h2⟩ := h
    simp at e
    obtain ⟨v', e', h'⟩ := Reps.get h2 e
    exact ⟨v', by simpa using e', h'⟩
theorem Reps.get' : ∀ {ds : List D} {vs : List V} {i : Nat} {v : V}, Reps K ω H ds vs → vs[i]? = some v → ∃ d, ds[i]? = some d ∧ Rep K ω H d v
  | [], vs, i, v, h, e => by
    rw [show vs = [] from h] at e
    simp at e
  | d' :: ds, vs, 0, v, h, e => by
    obtain ⟨v', r, rfl, h1, h2⟩ := h
    simp at e
    subst e
    exact ⟨d', rfl, h1⟩
  | d' :: ds, vs, i + 1, v, h, e => by
    obtain ⟨v', r, rfl, h1, h2⟩ := h
    simp at e
    obtain ⟨d, e', h'⟩ := Reps.get' h2 e
    exact ⟨d, by simpa using e', h'⟩
theorem Reps.take : ∀ {ds : List D} {vs : List V} (n : Nat), Reps K ω H ds vs → Reps K ω H (ds.take n) (vs.take n)
  | [], vs, n, h => by rw [show vs = [] from h]; simp [Reps]
  | d :: ds, vs, 0, h => by simp [Reps]
  | d :: ds, vs, n + 1, h => by
    obtain ⟨v, r, rfl, h1, h2⟩ := h
    exact ⟨v, r.take n, rfl, h1, Reps.take n h2⟩
theorem Reps.drop : ∀ {ds : List D} {vs : List V} (n : Nat), Reps K ω H ds vs → Reps K ω H (ds.drop n) (vs.drop n)
  | [], vs, n, h => by rw [show vs = [] from h]; simp [Reps]
  | d :: ds, vs, 0, h => h
  | d :: ds, vs, n + 1, h => by
    obtain ⟨v, r, rfl, h1, h2⟩ := h
    exact Reps.drop n h2
theorem Reps.reverse {ds : List D} {vs : List V} (h : Reps K ω H ds vs) : Reps K ω H ds.reverse vs.reverse := by
  induction ds generalizing vs with
  | nil => rw [show vs = [] from h]; rfl
  | cons d ds ih =>
    obtain ⟨v, r, rfl, h1, h2⟩ := h
    rw [List.reverse_cons, List.reverse_cons]
    exact (ih h2).append ⟨v, [], rfl, h1, rfl⟩
theorem Reps.rep {ds : List D} {vs : List V} (h : Reps K ω H ds vs) : ∀ k : Nat, Reps K ω H (List.replicate k ds).flatten (List.replicate k vs).flatten
  | 0 => rfl
  | k + 1 => by
    rw [List.replicate_succ, List.replicate_succ, List.flatten_cons, List.flatten_cons]
    exact h.append (h.rep k)
theorem Reps.one {d : D} {vs : List V} (h : Reps K ω H [d] vs) : ∃ v, vs = [v] ∧ Rep K ω H d v := by
  obtain ⟨v, r, rfl, h1, h2⟩ := h
  exact ⟨v, by rw [show r = [] from h2], h1⟩
theorem Reps.two {d e : D} {vs : List V} (h : Reps K ω H [d, e] vs) : ∃ v w, vs = [v, w] ∧ Rep K ω H d v ∧ Rep K ω H e w := by
  obtain ⟨v, r, rfl, h1, h2⟩ := h
  obtain ⟨w, rfl, h3⟩ := h2.one
  exact ⟨v, w, rfl, h1, h3⟩
theorem Reps.nil {vs : List V} (h : Reps K ω H [] vs) : vs = [] := h


mutual
theorem Rep.dp : ∀ (d : D) (v : V), d.shp = true ∨ SeqAt.shaped d.py = true ∨ PyData.canLay0 d.py = true → Rep K ω H d v → Dp K H v d.py
  | .non, v, _, h => by rw [show v = .non from h]; exact .non
  | .bl b, v, _, h => by rw [show v = .bl b from h]; exact .bl b
  | .int i, v, _, h => by rw [show v = .int i from h]; exact .int i
  | .str x, v, _, h => by rw [show v = .str x from h.1]; exact .str x
  | .tup ds, v, s, h => by
    obtain ⟨l, a, vs, rfl, q, r⟩ := h
    refine .tup q (Reps.dp ds vs ?_ r)
    have q : PyData.canLay0 (D.tup ds).py = true := s.elim (fun z => SeqAt.canLay_of_shaped z) fun z => z.elim (fun z => SeqAt.canLay_of_shaped z) fun z => z
    simpa [D.py, PyData.canLay0] using q
  | .lst ds, v, s, h => by
    obtain ⟨l, a, vs, rfl, q, _, r⟩ := h
    refine .lst (SqL.of q) (Reps.dp ds vs ?_ r)
    have q : PyData.canLay0 (D.lst ds).py = true := s.elim (fun z => SeqAt.canLay_of_shaped z) fun z => z.elim (fun z => SeqAt.canLay_of_shaped z) fun z => z
    simpa [D.py, PyData.canLay0] using q
  | .fls ds, v, s, h => by
    obtain ⟨l, a, vs, rfl, q, r⟩ := h
    refine .lst ?_ (Reps.dp ds vs ?_ r)
    · rcases q with ⟨q, _⟩ | ⟨o, q⟩ | q
      · exact .inl (.inl q)
      · exact .inl (.inr ⟨o, q⟩)
      · exact .inr q
    have q : PyData.canLay0 (D.fls ds).py = true := s.elim (fun z => SeqAt.canLay_of_shaped z) fun z => z.elim (fun z => SeqAt.canLay_of_shaped z) fun z => z
    simpa [D.py, PyData.canLay0] using q
  | .dic _, v, s, h => by
    have q : PyData.canLay0 (.dict []) = true := s.elim (fun z => SeqAt.canLay_of_shaped z) fun z => z.elim (fun z => SeqAt.canLay_of_shaped z) fun z => z
    simp [PyData.canLay0] at q
  | .ref _, v, s, h => by
    have q : PyData.canLay0 (.dict []) = true := s.elim (fun z => SeqAt.canLay_of_shaped z) fun z => z.elim (fun z => SeqAt.canLay_of_shaped z) fun z => z
    simp [PyData.canLay0] at q
  | .clo _ _, v, s, h => h.elim
  | .mlst _, v, s, h => h.elim
  | .mset _, v, s, h => h.elim
  | .mdic _, v, s, h => h.elim
  | .ins _ _, v, s, h => h.elim
theorem Reps.dp : ∀ (ds : List D) (vs : List V), PyData.canLayAll0 (pys ds) = true → Reps K ω H ds vs → DpAll K H vs (pys ds)
  | [], vs, _, h => by rw [show vs = [] from h]; exact .nil
  | d :: ds, vs, s, h => by
    obtain ⟨v, r, rfl, h1, h2⟩ := h
    have q : PyData.canLay0 d.py = true ∧ PyData.canLayAll0 (pys ds) = true := by simpa [pys, PyData.canLayAll0] using s
    exact .cons (Rep.dp d v (.inr (.inr q.1)) h1) (Reps.dp ds r q.2 h2)
end

mutual
def nk : D → NestedKey
  | .int i => .num i
  | .str x => .text x
  | .tup ds => .tup (nks ds)
  | _ => .none
def nks : List D → List NestedKey
  | [] => []
  | d :: ds => nk d :: nks ds
end
/-- a dict whose keys are the tuples xs (each with its place), all with the value True -/
def msetO (w : World) (a : Addr) (xs : List (NestedKey × Addr)) : HO := .ext fun h => (a == sysModules) = false ∧ ∃ o es ep, h.get? a = some o ∧ o.ExactDict ∧ o.data = .dict es ep ∧
  es.toList = xs.map (fun x => (⟨x.1.hash w, .ref x.2, .bool true⟩ : DictEntry)) ∧ (xs.map (·.1)).Nodup
def KeysR (K : KW) (ω : Wd) (H : Hp) : List D → List (NestedKey × Addr) → Prop
  | [], xs => xs = []
  | d :: ds, xs => ∃ b r, xs = (nk d, b) :: r ∧ isKey d = true ∧ Rep K ω H d (.ref b) ∧ KeysR K ω H ds r
theorem KeysR.kept (k : Kept ω H ω' H') : ∀ {ds : List D} {xs : List (NestedKey × Addr)}, KeysR K ω H ds xs → KeysR K ω' H' ds xs
  | [], xs, h => h
  | d :: ds, xs, h => by
    obtain ⟨b, r, e, i, h1, h2⟩ := h
    exact ⟨b, r, e, i, Rep.kept k d _ h1, KeysR.kept k h2⟩

/-- a name's value: handed on, or owned -/
def OwnR (K : KW) (ω : Wd) (H : Hp) (t : Root) : D → V → Prop
  | .mlst ds, v => ∃ a vs, v = .ref a ∧ H a = some (.lst vs) ∧ ω.wr a = some (t, []) ∧ Reps K ω H ds vs
  | .mset ks, v => ∃ a xs, v = .ref a ∧ H a = some (msetO K.w a xs) ∧ ω.wr a = some (t, []) ∧ KeysR K ω H ks xs
  | d, v => Rep K ω H d v
theorem OwnR.of {t : Root} {d : D} {v : V} (h : Rep K ω H d v) : OwnR K ω H t d v := by
  cases d <;> first | exact h | exact h.elim
theorem OwnR.rep {t : Root} {d : D} {v : V} (o : d.own = false) (h : OwnR K ω H t d v) : Rep K ω H d v := by
  cases d <;> first | exact h | exact absurd o (by simp [D.own])

/-- the names' values -/
structure Loc (K : KW) (ω : Wd) (dp : Nat) (ρ : Env) (σ : L2.St) (H : Hp) : Prop where
  len : σ.length = ρ.length
  at_ : ∀ i d, ρ[i]? = some (some d) → ∃ v, σ[i]? = some (some v) ∧ OwnR K ω H (.slot dp i) d v
/-- the store's cells -/
structure StoOk (K : KW) (ω : Wd) (st : Sto) (H : Hp) : Prop where
  len : ω.mu.length = st.length
  trk : ∀ a, ω.wr a ≠ none → H a ≠ none
  at_ : ∀ (l : Nat) (d : D), st[l]? = some d → False
/-- from one state to another: values are kept; what belongs to names of frames below dp stays as it is -/
structure Ext (dp : Nat) (ω : Wd) (H : Hp) (ω' : Wd) (H' : Hp) : Prop where
  kept : Kept ω H ω' H'
  fix : ∀ a k i p, ω.wr a = some (.slot k i, p) → k < dp → ω'.wr a = ω.wr a ∧ H' a = H a
theorem Ext.refl {dp : Nat} : Ext dp ω H ω H := ⟨.refl, fun _ _ _ _ _ _ => ⟨rfl, rfl⟩⟩
theorem Ext.trans {dp : Nat} (a : Ext dp ω H ω' H') (b : Ext dp ω' H' ω'' H'') : Ext dp ω H ω'' H'' :=
  ⟨a.kept.trans b.kept, fun c k i p h hk => by
    obtain ⟨e1, e2⟩ := a.fix c k i p h hk
    obtain ⟨e3, e4⟩ := b.fix c k i p (e1.trans h) hk
    exact ⟨e3.trans e1, e4.trans e2⟩⟩
theorem Ext.mono {dp dp' : Nat} (a : Ext dp' ω H ω' H') (h : dp ≤ dp') : Ext dp ω H ω' H' := ⟨a.kept, fun c k i p e hk => a.fix c k i p e (Nat.lt_of_lt_of_le hk h)⟩
theorem Rep.ext {dp : Nat} (x : Ext dp ω H ω' H') {d : D} {v : V} (h : Rep K ω H d v) : Rep K ω' H' d v := Rep.kept x.kept d v h
theorem Reps.ext {dp : Nat} (x : Ext dp ω H ω' H') {d : List D} {v : List V} (h : Reps K ω H d v) : Reps K ω' H' d v := Reps.kept x.kept d v h
theorem OwnR.ext {dp k i : Nat} (x : Ext dp ω H ω' H') (hk : k < dp) {d : D} {v : V} (h : OwnR K ω H (.slot k i) d v) : OwnR K ω' H' (.slot k i) d v := by
  cases d with
  | mlst ds =>
    obtain ⟨a, vs, e, q, w, r⟩ := h
    obtain ⟨e1, e2⟩ := x.fix a k i [] w hk
    exact ⟨a, vs, e, e2.trans q, e1.trans w, r.ext x⟩
  | mset ks =>
    obtain ⟨a, xs, e, q, w, r⟩ := h
    obtain ⟨e1, e2⟩ := x.fix a k i [] w hk
    exact ⟨a, xs, e, e2.trans q, e1.trans w, r.kept x.kept⟩
  | _ => first | exact Rep.ext x h
theorem Loc.ext {dp : Nat} {ρ : Env} {σ : L2.St} (x : Ext (dp + 1) ω H ω' H') (h : Loc K ω dp ρ σ H) : Loc K ω' dp ρ σ H' :=
  ⟨h.len, fun i d e => let ⟨v, e', r⟩ := h.at_ i d e; ⟨v, e', r.ext x (Nat.lt_succ_self _)⟩⟩
/-- new things only -/
theorem Ext.grow {dp : Nat} (hw : ∀ a, ω.wr a ≠ none → H a ≠ none) (g : Same H H') : Ext dp ω H ω H' :=
  ⟨.grow g, fun a k i p e _ => ⟨rfl, by
    cases q : H a with
    | none => exact absurd q (hw a (by rw [e]; simp))
    | some o => rw [g _ _ q]⟩⟩
end
end TL

namespace TL
open PySem L2
section
variable {K : KW} {ω ω' ω'' : Wd} {H H' H'' : Hp}
theorem StoOk.grow {st : Sto} (h : StoOk K ω st H) (g : Same H H') : StoOk K ω st H' :=
  ⟨h.len, fun a n => by
    cases q : H a with
    | none => exact absurd q (h.trk a n)
    | some o => rw [g _ _ q]; simp, fun l d e => (h.at_ l d e).elim⟩
theorem Ext.ofGrow {dp : Nat} {st : Sto} (h : StoOk K ω st H) (g : Same H H') : Ext dp ω H ω H' := Ext.grow h.trk g
theorem Rep.grow (g : Same H H') {d : D} {v : V} (h : Rep K ω H d v) : Rep K ω H' d v := Rep.kept (.grow g) d v h
theorem Reps.grow (g : Same H H') {d : List D} {v : List V} (h : Reps K ω H d v) : Reps K ω H' d v := Reps.kept (.grow g) d v h
theorem same_new {p : Addr} (h : H p = none) (o : HO) : Same H (upd H p o) := fun b u q => by rw [upd_ne (ne_of_none q h)]; exact q
theorem same_refl : Same H H := fun _ _ q => q

/-- what stands behind a piece of code that gives r -/
def Post (K : KW) (dp : Nat) (W : WX) (cls : Nat → Value) (σ : L2.St) (ω : Wd) (H : Hp) {α : Type} (r : R α) (P : α → Sto → Wd → Hp → Prop) : Prop := match r with
  | .ok a st' => ∀ ω' H', Ext (dp + 1) ω H ω' H' → StoOk K ω' st' H' → P a st' ω' H'
  | .exc c st' => ∀ ω' H', Ext (dp + 1) ω H ω' H' → StoOk K ω' st' H' → W (cls c) none σ H'
  | .fail => False
variable {dp : Nat} {W : WX} {cls : Nat → Value} {σ : L2.St}
theorem Post.bind {α β : Type} {r : R α} {f : α → Sto → R β} {P : β → Sto → Wd → Hp → Prop} (h : Post K dp W cls σ ω H (r.bind f) P) :
    Post K dp W cls σ ω H r fun a st1 ω1 H1 => Post K dp W cls σ ω1 H1 (f a st1) P := by
  cases r with
  | ok a st1 =>
    intro ω1 H1 x1 s1
    have h : Post K dp W cls σ ω H (f a st1) P := h
    show Post K dp W cls σ ω1 H1 (f a st1) P
    cases q : f a st1 with
    | ok b st2 => rw [q] at h; exact fun ω2 H2 x2 s2 => h ω2 H2 (x1.trans x2) s2
    | exc c st2 => rw [q] at h; exact fun ω2 H2 x2 s2 => h ω2 H2 (x1.trans x2) s2
    | fail => rw [q] at h; exact h
  | exc c st1 => exact h
  | fail => exact h
theorem Post.mono {α : Type} {r : R α} {P P' : α → Sto → Wd → Hp → Prop} (h : Post K dp W cls σ ω H r P) (i : ∀ a st' ω' H', Ext (dp + 1) ω H ω' H' → StoOk K ω' st' H' → P a st' ω' H' → P' a st' ω' H') : Post K dp W cls σ ω H r P' := by
  cases r with
  | ok a st1 => exact fun ω' H' x s => i _ _ _ _ x s (h ω' H' x s)
  | exc c st1 => exact h
  | fail => exact h
theorem Post.lift {α : Type} {st : Sto} {o : Option α} {P : α → Sto → Wd → Hp → Prop} (h : Post K dp W cls σ ω H (R.lift st o) P) : ∃ d, o = some d ∧ ∀ ω' H', Ext (dp + 1) ω H ω' H' → StoOk K ω' st H' → P d st ω' H' := by
  cases o with
  | some d => exact ⟨d, rfl, h⟩
  | none => exact h.elim
/-- an expression's reading -/
def tE (K : KW) (C : Cal) (dp : Nat) (W : WX) (cls : Nat → Value) (m : E) : TE := fun σ H Q => ∃ ω ρ st, Loc K ω dp ρ σ H ∧ StoOk K ω st H ∧
  Post K dp W cls σ ω H (ev C m ρ st) fun d _ ω' H' => ∀ v, Rep K ω' H' d v → Q v H'
/-- a test's -/
def tT (K : KW) (C : Cal) (dp : Nat) (W : WX) (cls : Nat → Value) (m : E) : TT := fun σ H Q => ∃ ω ρ st, Loc K ω dp ρ σ H ∧ StoOk K ω st H ∧
  Post K dp W cls σ ω H (ev C m ρ st) fun d _ ω' H' => ∃ b, d = .bl b ∧ Q b H'
/-- several -/
def tEs (K : KW) (C : Cal) (dp : Nat) (W : WX) (cls : Nat → Value) (ms : List E) : TA := fun σ H Q => ∃ ω ρ st, Loc K ω dp ρ σ H ∧ StoOk K ω st H ∧
  Post K dp W cls σ ω H (evs C ms ρ st) fun ds _ ω' H' => ∀ vs, Reps K ω' H' ds vs → Q vs H'
end
section
variable {X : Cx} {e : Expr} {es : List Expr} {t t' : TE} {u u' : TT} {ta ta' : TA}
theorem pe_imp (h : PE X e t) (i : ∀ σ H Q, t' σ H Q → t σ H Q) : PE X e t' := ⟨fun pins s σ H Q I q => h.run pins s σ H Q I (i σ H Q q)⟩
theorem pt_imp (h : PT X e u) (i : ∀ σ H Q, u' σ H Q → u σ H Q) : PT X e u' := ⟨fun pins s σ H Q I q => h.run pins s σ H Q I (i σ H Q q)⟩
theorem pa_imp (h : PA X es ta) (i : ∀ σ H Q, ta' σ H Q → ta σ H Q) : PA X es ta' := ⟨fun pos pins s σ H Q I q => h.run pos pins s σ H Q I (i σ H Q q)⟩
end

/-- an operation on values by what it gives -/
def rB (K : KW) (g : D → D → Option D) : R2 := fun x y H Q => ∃ (ω : Wd) (a b d : D), (∀ a, ω.wr a ≠ none → H a ≠ none) ∧ Rep K ω H a x ∧ Rep K ω H b y ∧ g a b = some d ∧ ∀ H' v, Same H H' → Rep K ω H' d v → Q v H'
theorem fresh_wr {ω : Wd} {H : Hp} (tr : ∀ a, ω.wr a ≠ none → H a ≠ none) {p : Addr} (hp : H p = none) : ω.wr p = none := by
  cases q : ω.wr p with
  | none => rfl
  | some z => exact absurd hp (tr p (by rw [q]; simp))
section
variable {X : Cx} {K : KW} {f : Value → Value → Sem Value} {r : R2} {g : D → D → Option D}
theorem opr_imp {r r' : R2} (h : OpR X f r) (i : ∀ x y H Q, r' x y H Q → r x y H Q) : OpR X f r' := fun pins s σ H x y v u Q I rx ry q => h pins s σ H x y v u Q I rx ry (i x y H Q q)
theorem rep_new_lst {ω : Wd} {H : Hp} (tr : ∀ a, ω.wr a ≠ none → H a ≠ none) {ds : List D} {vs : List V} {p : Addr} (hp : H p = none) (r : Reps K ω H ds vs) (l : ds.length ≤ sizeLine) : Rep K ω (upd H p (.lst vs)) (.lst ds) (.ref p) :=
  ⟨l, p, vs, rfl, upd_same, fresh_wr tr hp, r.grow (same_new hp _)⟩
theorem rep_new_tup {ω : Wd} {H : Hp} {ds : List D} {vs : List V} {p : Addr} (hp : H p = none) (r : Reps K ω H ds vs) (l : ds.length ≤ sizeLine) : Rep K ω (upd H p (.tup vs)) (.tup ds) (.ref p) :=
  ⟨l, p, vs, rfl, SqT.of upd_same, r.grow (same_new hp _)⟩
theorem op_dAdd : OpR X (binaryOp .Add) (rB X.kw dAdd) := by
  refine opr_imp (op_add.or (op_add_str.or (op_catA.or op_cat))) ?_
  rintro x y H Q ⟨ω, a, b, d, tr, ra, rb, e, q⟩
  unfold dAdd at e
  split at e
  · cases e
    cases ra; cases rb
    exact .inl ⟨_, _, rfl, rfl, q H _ same_refl rfl⟩
  · split at e
    · rename_i hl
      cases e
      obtain ⟨rfl, _⟩ := ra
      obtain ⟨rfl, _⟩ := rb
      refine .inr (.inl ⟨_, _, rfl, rfl, hl, q H _ same_refl ⟨rfl, ?_⟩⟩)
      show (Str.append _ _).cps.size ≤ _
      unfold Str.append
      rw [Array.size_append]
      exact hl
    · cases e
  · split at e
    · rename_i hl
      cases e
      obtain ⟨_, a1, vs, rfl, s1, r1⟩ := ra
      obtain ⟨_, a2, ws, rfl, s2, r2⟩ := rb
      have l1 := r1.length
      have l2 := r2.length
      refine .inr (.inr (.inl ⟨a1, a2, vs, ws, rfl, rfl, s1, s2, by rw [l1, l2]; exact hl, fun e => ?_, fun n e => ?_, fun n1 n2 p hp => ?_⟩))
      · subst e
        have r0 := r1.append r2
        rw [List.nil_append] at r0
        exact q H _ same_refl ⟨by rw [List.length_append]; exact hl, a2, ws, rfl, s2, r0⟩
      · subst e
        have r0 := r1.append r2
        rw [List.append_nil] at r0
        exact q H _ same_refl ⟨by rw [List.length_append]; exact hl, a1, vs, rfl, s1, r0⟩
      · exact q _ _ (same_new hp _) (rep_new_tup hp (r1.append r2) (by rw [List.length_append]; exact hl))
    · cases e
  · split at e
    · rename_i hl
      cases e
      obtain ⟨_, a1, vs, rfl, s1, w1, r1⟩ := ra
      obtain ⟨_, a2, ws, rfl, s2, w2, r2⟩ := rb
      have l1 := r1.length
      have l2 := r2.length
      refine .inr (.inr (.inr ⟨a1, a2, vs, ws, rfl, rfl, s1, s2, by rw [l1, l2]; exact hl, fun p hp => ?_⟩))
      exact q _ _ (same_new hp _) (rep_new_lst tr hp (r1.append r2) (by rw [List.length_append]; exact hl))
    · cases e
  · cases e
theorem op_dSub : OpR X (binaryOp .Sub) (rB X.kw dSub) := by
  refine opr_imp op_sub ?_
  rintro x y H Q ⟨ω, a, b, d, tr, ra, rb, e, q⟩
  unfold dSub at e
  split at e
  · cases e
    cases ra; cases rb
    exact ⟨_, _, rfl, rfl, q H _ same_refl rfl⟩
  · cases e
theorem length_rep {α : Type} (k : Nat) (xs : List α) : (List.replicate k xs).flatten.length = xs.length * k := by
  induction k with
  | zero => simp
  | succ k ih => rw [List.replicate_succ, List.flatten_cons, List.length_append, ih, Nat.mul_succ, Nat.add_comm]
theorem op_dMul : OpR X (binaryOp .Mult) (rB X.kw dMul) := by
  refine opr_imp (op_mul.or (op_rep.or (op_repT.or op_oneT))) ?_
  rintro x y H Q ⟨ω, a, b, d, tr, ra, rb, e, q⟩
  unfold dMul at e
  split at e
  · split at e
    · rename_i hc
      cases e
      cases ra; cases rb
      exact .inl ⟨_, _, rfl, rfl, hc, q H _ same_refl rfl⟩
    · cases e
  · split at e
    · rename_i hc
      obtain ⟨h0, h1, h2⟩ := hc
      cases e
      obtain ⟨_, a1, vs, rfl, s1, w1, r1⟩ := ra
      cases rb
      have l1 := r1.length
      refine .inr (.inl ⟨a1, _, vs, rfl, rfl, s1, by omega, h1, by rw [l1]; exact h2, fun p hp => ?_⟩)
      exact q _ _ (same_new hp _) (rep_new_lst tr hp (r1.rep _) (by rw [length_rep]; exact h2))
    · cases e
  · split at e
    · rename_i hc
      cases hc
      cases e
      have ra' := ra
      obtain ⟨_, a1, vs, rfl, s1, r1⟩ := ra
      cases rb
      exact .inr (.inr (.inr ⟨a1, vs, rfl, rfl, s1, q H _ same_refl ra'⟩))
    split at e
    · rename_i hc
      obtain ⟨h0, h1, h2, h3⟩ := hc
      cases e
      obtain ⟨_, a1, vs, rfl, s1, r1⟩ := ra
      cases rb
      have l1 := r1.length
      refine .inr (.inr (.inl ⟨a1, _, vs, rfl, rfl, s1, fun e => h0 ?_, h1, h2, by rw [l1]; exact h3, fun p hp => ?_⟩))
      · rw [e] at l1
        exact List.eq_nil_of_length_eq_zero l1.symm
      · refine q _ _ (same_new hp _) (rep_new_tup hp (r1.rep _) ?_)
        rw [length_rep, sizeLine_eq]
        rename_i ds k _ _
        have : ds.length * k.toNat ≤ 1000 * 1000 := Nat.mul_le_mul h3 (by omega)
        omega
    · cases e
  · cases e
theorem op_dDiv : OpR X (binaryOp .FloorDiv) (rB X.kw dDiv) := by
  refine opr_imp op_fdiv ?_
  rintro x y H Q ⟨ω, a, b, d, tr, ra, rb, e, q⟩
  unfold dDiv at e
  split at e
  · split at e
    · rename_i hc
      cases e
      cases ra; cases rb
      exact ⟨_, _, rfl, rfl, hc, q H _ same_refl rfl⟩
    · cases e
  · cases e
theorem op_dMod : OpR X (binaryOp .Mod) (rB X.kw dMod) := by
  refine opr_imp op_mod ?_
  rintro x y H Q ⟨ω, a, b, d, tr, ra, rb, e, q⟩
  unfold dMod at e
  split at e
  · split at e
    · rename_i hc
      cases e
      cases ra; cases rb
      exact ⟨_, _, rfl, rfl, hc, q H _ same_refl rfl⟩
    · cases e
  · cases e
theorem op_dEq (hu : X.A.units + 64 < cLine) : OpR X (compareOp .Eq) (rB X.kw dEq) := by
  refine opr_imp (op_eqD hu) ?_
  rintro x y H Q ⟨ω, a, b, d, tr, ra, rb, e, q⟩
  unfold dEq at e
  split at e
  · rename_i hc
    cases e
    rw [Bool.and_eq_true] at hc
    exact ⟨_, _, Rep.dp a x (.inl hc.1) ra, Rep.dp b y (.inl hc.2) rb, hc.1, hc.2, q H _ same_refl rfl⟩
  · cases e
theorem op_dNe (hu : X.A.units + 64 < cLine) : OpR X (compareOp .NotEq) (rB X.kw dNe) := by
  refine opr_imp (op_neD hu) ?_
  rintro x y H Q ⟨ω, a, b, d, tr, ra, rb, e, q⟩
  unfold dNe at e
  split at e
  · rename_i hc
    cases e
    rw [Bool.and_eq_true] at hc
    exact ⟨_, _, Rep.dp a x (.inl hc.1) ra, Rep.dp b y (.inl hc.2) rb, hc.1, hc.2, q H _ same_refl rfl⟩
  · cases e
theorem op_dLt : OpR X (compareOp .Lt) (rB X.kw dLt) := by
  refine opr_imp op_lt ?_
  rintro x y H Q ⟨ω, a, b, d, tr, ra, rb, e, q⟩
  unfold dLt at e
  split at e
  · cases e
    cases ra; cases rb
    exact ⟨_, _, rfl, rfl, q H _ same_refl rfl⟩
  · cases e
theorem op_dLe : OpR X (compareOp .LtE) (rB X.kw dLe) := by
  refine opr_imp (op_le.or op_le_str) ?_
  rintro x y H Q ⟨ω, a, b, d, tr, ra, rb, e, q⟩
  unfold dLe at e
  split at e
  · cases e
    cases ra; cases rb
    exact .inl ⟨_, _, rfl, rfl, q H _ same_refl rfl⟩
  · cases e
    obtain ⟨rfl, _⟩ := ra
    obtain ⟨rfl, _⟩ := rb
    exact .inr ⟨_, _, rfl, rfl, q H _ same_refl rfl⟩
  · cases e
theorem op_dGt : OpR X (compareOp .Gt) (rB X.kw dGt) := by
  refine opr_imp op_gt ?_
  rintro x y H Q ⟨ω, a, b, d, tr, ra, rb, e, q⟩
  unfold dGt at e
  split at e
  · cases e
    cases ra; cases rb
    exact ⟨_, _, rfl, rfl, q H _ same_refl rfl⟩
  · cases e
theorem op_dGe : OpR X (compareOp .GtE) (rB X.kw dGe) := by
  refine opr_imp op_ge ?_
  rintro x y H Q ⟨ω, a, b, d, tr, ra, rb, e, q⟩
  unfold dGe at e
  split at e
  · cases e
    cases ra; cases rb
    exact ⟨_, _, rfl, rfl, q H _ same_refl rfl⟩
  · cases e
/-- x in t, t a tuple of data -/
def rInT (K : KW) (neg : Bool) : R2 := fun x y H Q => ∃ d ds, Dp K H x d ∧ Dp K H y (.tuple ds) ∧ SeqAt.shaped d = true ∧ PyData.canLayAll0 ds = true ∧ Q (.bl (if neg then !(ds.any fun z => PyData.eqv z d) else ds.any fun z => PyData.eqv z d)) H
theorem op_inT (hu : X.A.units + 65 < cLine) : OpR X (compareOp .In) (rInT X.kw false) := by
  intro pins s σ H x y v u Q I rx ry h
  obtain ⟨d, ds, hd, he, sd, se, q⟩ := h
  obtain ⟨as, r1⟩ := Dp.reads I d x v hd rx
  obtain ⟨bs, r2⟩ := Dp.reads I (.tuple ds) y u he ry
  exact SeqAt.in_tuple_reads r2 r1 se (SeqAt.canLay_of_shaped sd) (PyProof.Rows.room_in_shaped sd hu) ⟨.bl _, H, I, rfl, q⟩
theorem op_notInT (hu : X.A.units + 65 < cLine) : OpR X (compareOp .NotIn) (rInT X.kw true) := by
  intro pins s σ H x y v u Q I rx ry h
  obtain ⟨d, ds, hd, he, sd, se, q⟩ := h
  obtain ⟨as, r1⟩ := Dp.reads I d x v hd rx
  obtain ⟨bs, r2⟩ := Dp.reads I (.tuple ds) y u he ry
  exact SeqAt.notIn_tuple_reads r2 r1 se (SeqAt.canLay_of_shaped sd) (PyProof.Rows.room_in_shaped sd hu) ⟨.bl _, H, I, rfl, q⟩
theorem any_pys (x : PyData) : ∀ ds : List D, (pys ds).any (fun z => PyData.eqv z x) = ds.any fun y => PyData.eqv y.py x
  | [] => rfl
  | d :: ds => by
    show (PyData.eqv d.py x || (pys ds).any _) = _
    rw [any_pys x ds]
    rfl
theorem canLayAll_of {ds : List D} (h : (D.lst ds).shp = true) : PyData.canLayAll0 (pys ds) = true := by
  have q := SeqAt.canLay_of_shaped h
  simpa [D.py, PyData.canLay0] using q
theorem canLayAll_ofT {ds : List D} (h : (D.tup ds).shp = true) : PyData.canLayAll0 (pys ds) = true := by
  have q := SeqAt.canLay_of_shaped h
  simpa [D.py, PyData.canLay0] using q
theorem one_sign {s : Str} {c : Nat} (h : s.cps.toList = [c]) : s = ⟨#[c]⟩ := by
  obtain ⟨a⟩ := s
  have : a = #[c] := by
    apply Array.ext'
    exact h
  rw [this]
theorem op_dIn (hu : X.A.units + 65 < cLine) : OpR X (compareOp .In) (rB X.kw dIn) := by
  refine opr_imp (op_in_sign.or ((op_inD hu).or (op_inT hu))) ?_
  rintro x y H Q ⟨ω, a, b, d, tr, ra, rb, e, q⟩
  unfold dIn at e
  cases e1 : inD a b with
  | none => rw [e1] at e; cases e
  | some k =>
    rw [e1] at e
    cases e
    unfold inD at e1
    split at e1
    · split at e1
      · split at e1
        · rename_i hs
          cases e1
          obtain ⟨rfl, _⟩ := ra
          obtain ⟨rfl, _⟩ := rb
          exact .inl ⟨_, _, by rw [one_sign hs], rfl, q H _ same_refl rfl⟩
        · cases e1
      · cases e1
    · split at e1
      · rename_i hc
        cases e1
        rw [Bool.and_eq_true] at hc
        refine .inr (.inl ⟨_, _, Rep.dp a x (.inl hc.1) ra, Rep.dp _ y (.inl hc.2) rb, hc.1, hc.2, ?_⟩)
        rw [any_pys]
        exact q H _ same_refl rfl
      · cases e1
    · split at e1
      · rename_i hc
        cases e1
        rw [Bool.and_eq_true] at hc
        refine .inr (.inr ⟨_, _, Rep.dp a x (.inl hc.1) ra, Rep.dp _ y (.inl hc.2) rb, hc.1, canLayAll_ofT hc.2, ?_⟩)
        show Q (.bl (List.any _ _)) H
        rw [any_pys]
        exact q H _ same_refl rfl
      · cases e1
    · exact rb.elim
    · exact rb.elim
    · cases e1
theorem op_dNotIn (hu : X.A.units + 65 < cLine) : OpR X (compareOp .NotIn) (rB X.kw dNotIn) := by
  refine opr_imp (op_notIn_sign.or ((op_notInD hu).or (op_notInT hu))) ?_
  rintro x y H Q ⟨ω, a, b, d, tr, ra, rb, e, q⟩
  unfold dNotIn at e
  cases e1 : inD a b with
  | none => rw [e1] at e; cases e
  | some k =>
    rw [e1] at e
    cases e
    unfold inD at e1
    split at e1
    · split at e1
      · split at e1
        · rename_i hs
          cases e1
          obtain ⟨rfl, _⟩ := ra
          obtain ⟨rfl, _⟩ := rb
          exact .inl ⟨_, _, by rw [one_sign hs], rfl, q H _ same_refl rfl⟩
        · cases e1
      · cases e1
    · split at e1
      · rename_i hc
        cases e1
        rw [Bool.and_eq_true] at hc
        refine .inr (.inl ⟨_, _, Rep.dp a x (.inl hc.1) ra, Rep.dp _ y (.inl hc.2) rb, hc.1, hc.2, ?_⟩)
        rw [any_pys]
        exact q H _ same_refl rfl
      · cases e1
    · split at e1
      · rename_i hc
        cases e1
        rw [Bool.and_eq_true] at hc
        refine .inr (.inr ⟨_, _, Rep.dp a x (.inl hc.1) ra, Rep.dp _ y (.inl hc.2) rb, hc.1, canLayAll_ofT hc.2, ?_⟩)
        show Q (.bl (!List.any _ _)) H
        rw [any_pys]
        exact q H _ same_refl rfl
      · cases e1
    · exact rb.elim
    · exact rb.elim
    · cases e1
theorem op_dIsB : OpR X (compareOp .Is) (rB X.kw (o2 .isB)) := by
  refine opr_imp L2.op_is_bl ?_
  rintro x y H Q ⟨ω, a, b, d, tr, ra, rb, e, q⟩
  unfold o2 at e
  split at e <;> try cases e
  all_goals try contradiction
  all_goals
    cases ra; cases rb
    exact ⟨_, _, rfl, rfl, q H _ same_refl rfl⟩
theorem op_dIsNotB : OpR X (compareOp .IsNot) (rB X.kw (o2 .isNotB)) := by
  refine opr_imp L2.op_isnot_bl ?_
  rintro x y H Q ⟨ω, a, b, d, tr, ra, rb, e, q⟩
  unfold o2 at e
  split at e <;> try cases e
  all_goals try contradiction
  all_goals
    cases ra; cases rb
    exact ⟨_, _, rfl, rfl, q H _ same_refl rfl⟩
theorem ixr_imp {r r' : R2} (h : IxR X r) (i : ∀ x y H Q, r' x y H Q → r x y H Q) : IxR X r' := fun value slice pins s σ H x y v u Q I rx ry q hs => h value slice pins s σ H x y v u Q I rx ry (i x y H Q q) hs
theorem atI_rep {ω : Wd} {H : Hp} {ds : List D} {vs : List V} {i : Int} {d : D} (r : Reps K ω H ds vs) (e : atI ds i = some d) : ∃ v, atI vs i = some v ∧ Rep K ω H d v := by
  unfold atI at e ⊢
  rw [r.length]
  cases q : ixN ds.length i with
  | none => rw [q] at e; cases e
  | some j =>
    rw [q] at e
    exact r.get e
theorem valV_repk {K : KW} {ω : Wd} {H : Hp} {k : Str} : ∀ {kvs : List (Str × D)} {kws : List (Key × V)}, Repk K ω H kvs kws → match kvs.lookup k with
    | none => valV kws (.inr k) = none
    | some d => ∃ v, valV kws (.inr k) = some v ∧ Rep K ω H d v
  | [], kws, r => by
    cases r
    exact valV_nil
  | (k', d) :: kvs, kws, r => by
    obtain ⟨v, r', rfl, h1, h2⟩ := r
    rw [List.lookup_cons]
    by_cases e : k = k'
    · subst e
      rw [beq_self_eq_true]
      exact ⟨v, valV_pos rfl, h1⟩
    · rw [show (k == k') = false from by simpa using e]
      have e2 : valV ((Sum.inr k', v) :: r') (Sum.inr k) = valV r' (.inr k) := valV_neg (p := ((Sum.inr k' : Key), v)) (fun z => e (Sum.inr.inj z).symm)
      rw [e2]
      exact valV_repk h2
theorem ix_dk (hu : X.A.units + 1 < cLine) : IxR X (fun x y H Q => ∃ a v, x = .ref a ∧ DGet H a y (some v) ∧ Q v H) := by
  intro value slice pins s σ H x y v u Q I rx ry q hs
  obtain ⟨p, r, rfl, g, q⟩ := q
  obtain rfl : v = Value.ref p := rx
  exact PyProof.Rows.tail_any (dict_typeIs I g) PySem.F.slot_dict_getitem.lookup (d_getItem hu I g ry fun w' s' I' r' => ⟨r, H, I', r', q⟩) hs
theorem op_dIx (hu : X.A.units + 65 < cLine) : IxR X (rB X.kw dIx) := by
  refine ixr_imp (ix_seq.or (ix_dk (by omega))) ?_
  rintro x y H Q ⟨ω, a, b, d, tr, ra, rb, e, q⟩
  unfold dIx at e
  split at e
  · obtain ⟨_, a1, vs, rfl, s1, r1⟩ := ra
    cases rb
    obtain ⟨v, e1, rv⟩ := atI_rep r1 e
    exact .inl (.inr (.inl ⟨a1, vs, _, v, rfl, rfl, s1, e1, q H v same_refl rv⟩))
  · obtain ⟨_, a1, vs, rfl, s1, w1, r1⟩ := ra
    cases rb
    obtain ⟨v, e1, rv⟩ := atI_rep r1 e
    exact .inl (.inl ⟨a1, vs, _, v, rfl, rfl, SqL.of s1, e1, q H v same_refl rv⟩)
  · obtain ⟨_, a1, vs, rfl, s1, r1⟩ := ra
    cases rb
    obtain ⟨v, e1, rv⟩ := atI_rep r1 e
    refine .inl (.inl ⟨a1, vs, _, v, rfl, rfl, ?_, e1, q H v same_refl rv⟩)
    rcases s1 with ⟨s1, _⟩ | ⟨o, s1⟩ | s1
    · exact .inl (.inl s1)
    · exact .inl (.inr ⟨o, s1⟩)
    · exact .inr s1
  · obtain ⟨rfl, l1⟩ := ra
    cases rb
    rename_i z i
    cases e1 : atI z.cps.toList i with
    | none => rw [e1] at e; cases e
    | some c =>
      rw [e1] at e
      cases e
      refine .inl (.inr (.inr ⟨_, _, c, rfl, rfl, l1, e1, q H _ same_refl ⟨rfl, ?_⟩⟩))
      show 1 ≤ sizeLine
      rw [sizeLine_eq]
      decide
  · obtain ⟨ln, ad, kws, rfl, ha, wa, rk⟩ := ra
    obtain ⟨rfl, l1⟩ := rb
    rename_i kvs key
    have vv := valV_repk (k := key) rk
    rw [e] at vv
    obtain ⟨v', e1, rv⟩ := vv
    exact .inr ⟨ad, v', rfl, by rw [← e1]; exact DGet.k (k := .inr key) ha, q H v' same_refl rv⟩
  · cases e
end
end TL

namespace TStr
open PySem PySem.Spec PyProof.Rows PySem.Froz L2

/-- at a stands a set of the texts l, of which a walk is known -/
def Held (P : Program) (w : World) (h : Heap) (a : Addr) (l : List Str) : Prop :=
  l.Nodup ∧ l.length < scanBound ∧ ∃ D : SD, h.get? a = some (sObj "set" D) ∧ TxOk P w D l ∧ Ris D.2.2.place.toList ∧ (w.params.followText "set-order" = true ∨ D.2.2.led = true)
section
variable {P : Program} {w : World} {A : Around} {E : Value → Shared → Prop} {s : Shared} {h h' : Heap} {a : Addr} {l : List Str}
theorem Held.keep (x : Held P w h a l) (k : ∀ o, h.get? a = some o → h'.get? a = some o) : Held P w h' a l :=
  let ⟨n, b, D, e, r⟩ := x; ⟨n, b, D, k _ e, r⟩
theorem Held.lt (x : Held P w h a l) : a < h.objs.size := let ⟨_, _, _, e, _⟩ := x; Heap.lt_size e
theorem held_new (e : h.get? a = some { cls := .type "set", dict := none, data := .set #[] 0 (.fresh 0 0 (!w.params.followText "set-order")) }) : Held P w h a [] :=
  ⟨List.nodup_nil, by decide, (#[], 0, .fresh 0 0 (!w.params.followText "set-order")), e, .nil rfl, List.Pairwise.nil, by
    show _ ∨ (!w.params.followText "set-order") = true
    cases w.params.followText "set-order"
    · exact .inr rfl
    · exact .inl rfl⟩
theorem tail_ris {ep : Nat} {es : Array (Int × Value)} {t : SetTable} {b : Bool} (r : Ris t.place.toList) : Ris (tailTx ep es t b).2.2.place.toList ∧ (tailTx ep es t b).2.2.led = t.led := by
  unfold tailTx
  split
  · exact ⟨relayAll_ris _ _ _, relayAll_led _ _ _⟩
  · exact ⟨r, rfl⟩
theorem add_ris {D : SD} {hh : Int} {v : Value} (r : Ris D.2.2.place.toList) : Ris (addTx hh v D).2.2.place.toList ∧ (addTx hh v D).2.2.led = D.2.2.led := by
  have r1 := layNew_ris D.2.2 D.1 hh v r
  have l1 := layNew_led D.2.2 D.1 hh v
  unfold addTx
  split
  · have z := tail_ris (ep := D.2.1) (es := (layNew D.2.2 D.1 hh v).1) (t := { (layNew D.2.2 D.1 hh v).2.1 with plain := false }) (b := (layNew D.2.2 D.1 hh v).2.2.1) r1
    exact ⟨z.1, z.2.trans l1⟩
  · have z := tail_ris (ep := D.2.1) (es := (layNew D.2.2 D.1 hh v).1) (t := (layNew D.2.2 D.1 hh v).2.1) (b := (layNew D.2.2 D.1 hh v).2.2.1) r1
    exact ⟨z.1, z.2.trans l1⟩
theorem only_a {f : Obj → Obj} : Heap.SameBut a h (h.update a f) := Heap.SameBut.update h a f
/-- a text that is in the set already -/
theorem add_old {D : SD} {k : Str} {u : Tok} {Q : Bool → Shared → Prop} (ho : s.heap.get? a = some (sObj "set" D)) (F : TxOk P w D l) (hb : l.length < scanBound) (hk : k ∈ l) (q : Q false s) :
    wpAny (model P w) A (setAddHashed a (.str k u) (hashStr w k)) Q E s := by
  have hd : (sObj "set" D).data = .set D.1 D.2.1 D.2.2 := rfl
  have hf : D.2.2.fits D.1.size = true := F.fit
  have hb0 : D.1.size < scanBound := by rw [F.sz]; exact hb
  obtain ⟨e, he, hi⟩ := (F.mem k).mp hk
  unfold setAddHashed setAddHashedIn
  refine wpAny_holding (wpAny_bind (wpAny_setState_of ho hd hf ?_))
  dsimp only
  rw [byScan_of rfl hb0 F.el]
  simp only [↓reduceIte]
  unfold setAddByScan
  refine wpAny_bind (wpAny_bind (wpAny_rule (wpAny_bind (wpAny_setScan_of (knd := strKind P w) (k := k) (is_str k u) ho hd hf F.el ?_))))
  cases hfi : List.findIdx? (fun e => (strKind P w).is k e.2) D.1.toList with
  | none =>
    have z := List.findIdx?_eq_none_iff.mp hfi e he
    rw [hi] at z
    cases z
  | some j => exact wpAny_pure (wpAny_pure q)
theorem add_held {k : Str} {u : Tok} {Q : Bool → Shared → Prop} (x : Held P w s.heap a l) (hb : l.length + 1 < scanBound)
    (q : ∀ h' b, Heap.SameBut a s.heap h' → Held P w h' a (if k ∈ l then l else k :: l) → Q b { s with heap := h' }) : wpAny (model P w) A (setAddHashed a (.str k u) (hashStr w k)) Q E s := by
  obtain ⟨n, b, D, e, F, r, t⟩ := x
  by_cases hk : k ∈ l
  · rw [if_pos hk] at q
    exact add_old e F b hk (q s.heap false (Heap.SameBut.refl a s.heap) ⟨n, b, D, e, F, r, t⟩)
  · rw [if_neg hk] at q
    have z := add_ris (D := D) (hh := hashStr w k) (v := .str k u) r
    refine add_x e F hk hb (q _ true only_a ⟨List.nodup_cons.mpr ⟨hk, n⟩, hb, _, get_upd _ e rfl, add_ok u F, z.1, t.imp id fun y => z.2.trans y⟩)
/-- all of a walk's texts into the set -/
theorem update_loop {I : Addr} {fp wr : List Addr} {G : Array GenState → Array GenState → Prop} {n : Nat} {Pv : Nat → Value → Prop} {St : Nat → Shared → Prop} {R : Result → Shared → Prop} {xs : List Str}
    (W : WalksS P w A.in1 I fp wr G n Pv St) (hSf : a ∉ fp) (hn : n = xs.length) (hb : xs.length + 1 < scanBound) (hval : ∀ i v, Pv i v → ∃ k t, xs[i]? = some k ∧ v = .str k t) :
    ∀ (m i : Nat) (s : Shared) (l : List Str), n - i = m → i ≤ n → St i s → Held P w s.heap a l → l.length ≤ i → (∀ k, k ∈ l ↔ k ∈ xs.take i) →
      (∀ s' l', Moved (a :: wr) G s s' → Held P w s'.heap a l' → l'.length ≤ n → (∀ k, k ∈ l' ↔ k ∈ xs) → R (.ok (.ret .none)) s') →
      codeAny (model P w) A (.builtin "set.update.loop" ⟨[.ref a, .ref I], []⟩) R s := by
  have hw : a ∉ wr := fun h => hSf (W.sub _ h)
  intro m
  induction m with
  | zero =>
    intro i s l hm hi hst hS hl hmem hR
    have hin : i = n := by omega
    refine codeAny_builtin PyProof.Rows.F.entry_set_update_loop ?_
    rw [Around.under_plainId PyProof.Rows.F.plain_set_update_loop _]
    show wpAny _ A.in1 (pyNext (.ref I) >>= _) _ _ s
    rw [hin] at hst
    refine wpAny_bind (W.done s _ _ hst fun s' mv => ?_)
    show wpAny _ A.in1 (ret Value.none) _ _ s'
    refine wpAny_pure (hR s' l (mv.mono fun b z => List.mem_cons_of_mem _ z) (hS.keep fun o e => mv.heap a o hw e) (by omega) fun k => ?_)
    rw [hmem k, hin, hn, List.take_length]
  | succ m ih =>
    intro i s l hm hi hst hS hl hmem hR
    have hlt : i < n := by omega
    refine codeAny_builtin PyProof.Rows.F.entry_set_update_loop ?_
    rw [Around.under_plainId PyProof.Rows.F.plain_set_update_loop _]
    show wpAny _ A.in1 (pyNext (.ref I) >>= _) _ _ s
    refine wpAny_bind (W.item i s _ _ hlt hst fun v s' hP hst' mv => ?_)
    obtain ⟨z, t, hz, rfl⟩ := hval i v hP
    show wpAny _ A.in1 (holding [Value.str z t] (setAdd a (.str z t)) >>= _) _ _ s'
    refine wpAny_bind (wpAny_holding ?_)
    unfold setAdd
    refine wpAny_holding (wpAny_bind ((strKind P w).pyHash (k := z) (is_str _ _) ?_))
    refine add_held (s := { s' with toks := s'.toks + 1 }) (hS.keep fun o e => mv.heap a o hw e) (by omega) fun h2 b hsb hS2 => ?_
    refine wpAny_pure ⟨plainId_quiet PyProof.Rows.F.plain_set_update_loop _, ih (i + 1) _ _ (by omega) hlt (W.frame _ s' _ _ hst' (Nat.le_succ _) fun c hc o e => ?_) hS2 ?_ (fun k => ?_) fun s3 l3 mv3 hS3 hl3 hm3 => ?_⟩
    · rw [hsb.2 c (fun y : c = a => hSf (y ▸ hc))]; exact e
    · split
      · omega
      · rw [List.length_cons]; omega
    · rw [List.take_add_one, hz]
      split
      · rename_i hin
        constructor
        · intro y; exact List.mem_append_left _ ((hmem k).mp y)
        · intro y
          rcases List.mem_append.mp y with y | y
          · exact (hmem k).mpr y
          · have : k = z := by simpa using y
            rw [this]; exact hin
      · rw [List.mem_cons, hmem k, List.mem_append]
        constructor
        · rintro (y | y)
          · right; simp [y]
          · left; exact y
        · rintro (y | y)
          · right; exact y
          · left; simpa using y
    · refine hR s3 l3 (Moved.trans W.gtrans ((mv.mono fun c y => List.mem_cons_of_mem _ y).then_heap (Nat.le_succ _) fun c o hc e => ?_) mv3) hS3 hl3 hm3
      rw [hsb.2 c (fun y : c = a => hc (by rw [y]; exact List.mem_cons_self))]; exact e

set_option maxHeartbeats 3200000 in
theorem set_list {c : Addr} {items : Array Value} {xs : List Str} {Q : Value → Shared → Prop} (hh : A.handled = none) (hc : s.heap.IsList c items) (hi : StrsAre items.toList xs) (hb : xs.length + 1 < scanBound)
    (q : ∀ (h' : Heap) (tk : Nat) (l : List Str), Held P w h' s.heap.objs.size l → l.length ≤ xs.length → (∀ k, k ∈ l ↔ k ∈ xs) → (∀ b o, s.heap.get? b = some o → h'.get? b = some o) → Q (.ref s.heap.objs.size) { s with heap := h', toks := tk }) :
    wpAny (model P w) A (call (.type "set") [.ref c]) Q E s := by
  have hsz : items.size = xs.length := by rw [← StrsAre.len_eq hi, Array.length_toList]
  obtain ⟨mc, tl, hmro⟩ := PySem.F.called_set.mro
  have hmade := PySem.F.called_set.made
  have hsub := PySem.F.called_set.sub
  refine wpAny_call (codeAny_of_tree ?_)
  show wpAny _ _ (callAny (.type "set") _) _ _ _
  refine wpAny_pure ⟨Code.quiet_builtin _ (by decide +kernel), codeAny_builtin PySem.F.entry_type_call ?_⟩
  rw [Around.under_plain (weight_type_call_type "set" [.ref c] []) rfl]
  have h1 := PySem.F.called_set.notType
  have h2 := PySem.F.called_set.canCreate
  have hct := PySem.F.typeCall_set_1 (.ref c)
  repeat (any_goals (first | assumption | wp_step))
  refine codeAny_mono (code_set_led1 (.ref c) (E := E) (Q₁ := fun v s1 => v = .ref s.heap.objs.size ∧ s1 = { s with heap := s.heap.push { cls := .type "set", dict := none, data := .set #[] 0 (.fresh 0 0 (!w.params.followText "set-order")) } }) ⟨rfl, rfl⟩) fun r s1 hr => ?_
  cases r with
  | error e => exact hr
  | ok fl =>
    cases fl with
    | ret v =>
      obtain ⟨rfl, rfl⟩ := hr
      have hS : (s.heap.push { cls := .type "set", dict := none, data := .set #[] 0 (.fresh 0 0 (!w.params.followText "set-order")) }).get? s.heap.objs.size = some { cls := .type "set", dict := none, data := .set #[] 0 (.fresh 0 0 (!w.params.followText "set-order")) } := Heap.get?_push_size _ rfl
      have hT : Shared.TypeIs { s with heap := s.heap.push { cls := .type "set", dict := none, data := .set #[] 0 (.fresh 0 0 (!w.params.followText "set-order")) } } (.ref s.heap.objs.size) "set" := ⟨_, hS, rfl⟩
      have hli := PySem.F.called_set.init.lookup
      have hbi := PySem.F.called_set.init.bind (.ref s.heap.objs.size)
      repeat (any_goals (first | assumption | wp_step))
      refine codeAny_mono (codeAny_call_builtin (R := wants (fun r s2 => r = .none ∧ ∃ h' tk l, s2 = { s with heap := h', toks := tk } ∧ Held P w h' s.heap.objs.size l ∧ l.length ≤ xs.length ∧ (∀ k, k ∈ l ↔ k ∈ xs) ∧
          (∀ b o, s.heap.get? b = some o → h'.get? b = some o)) E) PySem.F.called_set.init.plain PySem.F.entry_set_init (check_set_init_1 hT ?_)) fun r2 s2 hr2 => ?_
      · obtain ⟨ol, hol, hcl, nl, hdl⟩ := hc
        obtain ⟨ocls, odict, odata, oslots⟩ := ol
        simp only at hcl hdl
        subst hcl; subst hdl
        generalize hH : s.heap.push { cls := .type "set", dict := none, data := .set #[] 0 (.fresh 0 0 (!w.params.followText "set-order")) } = H at hS hT
        have hzH : H.objs.size = s.heap.objs.size + 1 := by rw [← hH]; exact Heap.size_push ..
        have up : ∀ b o, s.heap.get? b = some o → H.get? b = some o := fun b o e => by rw [← hH]; exact Heap.get?_push_of_some _ e
        have hol' := up _ _ hol
        have hsls := PySem.F.sub_list_set
        have hslf := PySem.F.sub_list_frozenset
        have hne : (Value.type "list" == Value.type "dict") = false := by decide
        have hl1 : H.IsList c items := ⟨_, hol', rfl, nl, rfl⟩
        unfold Builtin.«set.__init__» noKeywords Builtin.Frozenset.updateFrom
        generalize hPI : pyIter = PI
        wp_walk
        subst hPI
        refine wpAny_pyIter_list hl1 ?_
        refine wpAny_bind (wpAny_runValue ?_)
        have hlS : c < s.heap.objs.size := Heap.lt_size hol
        have hh3 : A.in1.in1.in1.handled = none := by simp [hh]
        have hSf : s.heap.objs.size ∉ [H.objs.size, c] := by
          rw [hzH]; simp only [List.mem_cons, List.mem_singleton, List.not_mem_nil, or_false, not_or]
          exact ⟨Nat.ne_of_lt (Nat.lt_succ_self _), Nat.ne_of_gt hlS⟩
        have hval : ∀ (i : Nat) (v : Value), items[i]? = some v → ∃ k t, xs[i]? = some k ∧ v = .str k t := fun i v hv => by
          have hlt : i < xs.length := by rw [← hsz]; exact (Array.getElem?_eq_some_iff.mp hv).1
          obtain ⟨t, e⟩ := SS.strs_at hi i v (by rw [Array.getElem?_toList]; exact hv)
          refine ⟨xs[i], t, List.getElem?_eq_getElem hlt, ?_⟩
          rw [e, List.getD_eq_getElem?_getD, List.getElem?_eq_getElem hlt]
          rfl
        refine update_loop ((Walks.list hh3 _ c (by rw [hzH]; exact Nat.ne_of_lt (Nat.lt_succ_of_lt hlS)) items).toS) hSf hsz hb hval (items.size - 0) 0 _ [] (by omega) (Nat.zero_le _)
          ⟨⟨_, Heap.get?_push_size _ rfl, rfl, rfl⟩, (hl1.push _)⟩ (held_new (Heap.get?_push_of_some _ hS)) (Nat.le_refl 0) (by simp) ?_
        intro s3 l3 mv hS3 hl3 hm3
        obtain ⟨h3, g3, d3, tk3, os3⟩ := s3
        have eg : g3 = s.gens := mv.gens
        have ed : d3 = s.drawn := mv.drawn
        have eo : os3 = s.os := mv.os
        subst eg; subst ed; subst eo
        show wpAny _ _ _ _ _ _
        refine wpAny_pure ?_
        show wpAny _ _ (ret Value.none) _ _ _
        refine wpAny_pure ⟨rfl, h3, tk3, l3, rfl, hS3, by omega, hm3, fun b o e => ?_⟩
        have hb0 : b < s.heap.objs.size := Heap.lt_size e
        exact mv.heap b o (by simp only [List.mem_cons, List.mem_singleton, List.not_mem_nil, or_false, not_or]; exact ⟨Nat.ne_of_lt hb0, by rw [hzH]; exact Nat.ne_of_lt (Nat.lt_succ_of_lt hb0)⟩) (Heap.get?_push_of_some _ (up _ _ e))
      · cases r2 with
        | error e => exact hr2
        | ok fl2 =>
          cases fl2 with
          | ret r =>
            obtain ⟨rfl, h', tk, l', rfl, hS', hl', hm', hk'⟩ := hr2
            repeat (any_goals (first | assumption | wp_step))
            exact q _ _ _ hS' hl' hm' hk'
          | _ => exact hr2.elim
    | _ => exact hr.elim

set_option maxHeartbeats 3200000 in
theorem set_tuple {c : Addr} {items : Array Value} {xs : List Str} {Q : Value → Shared → Prop} (hh : A.handled = none) (hc : s.heap.IsTuple c items) (hi : StrsAre items.toList xs) (hb : xs.length + 1 < scanBound)
    (q : ∀ (h' : Heap) (tk : Nat) (l : List Str), Held P w h' s.heap.objs.size l → l.length ≤ xs.length → (∀ k, k ∈ l ↔ k ∈ xs) → (∀ b o, s.heap.get? b = some o → h'.get? b = some o) → Q (.ref s.heap.objs.size) { s with heap := h', toks := tk }) :
    wpAny (model P w) A (call (.type "set") [.ref c]) Q E s := by
  have hsz : items.size = xs.length := by rw [← StrsAre.len_eq hi, Array.length_toList]
  obtain ⟨mc, tl, hmro⟩ := PySem.F.called_set.mro
  have hmade := PySem.F.called_set.made
  have hsub := PySem.F.called_set.sub
  refine wpAny_call (codeAny_of_tree ?_)
  show wpAny _ _ (callAny (.type "set") _) _ _ _
  refine wpAny_pure ⟨Code.quiet_builtin _ (by decide +kernel), codeAny_builtin PySem.F.entry_type_call ?_⟩
  rw [Around.under_plain (weight_type_call_type "set" [.ref c] []) rfl]
  have h1 := PySem.F.called_set.notType
  have h2 := PySem.F.called_set.canCreate
  have hct := PySem.F.typeCall_set_1 (.ref c)
  repeat (any_goals (first | assumption | wp_step))
  refine codeAny_mono (code_set_led1 (.ref c) (E := E) (Q₁ := fun v s1 => v = .ref s.heap.objs.size ∧ s1 = { s with heap := s.heap.push { cls := .type "set", dict := none, data := .set #[] 0 (.fresh 0 0 (!w.params.followText "set-order")) } }) ⟨rfl, rfl⟩) fun r s1 hr => ?_
  cases r with
  | error e => exact hr
  | ok fl =>
    cases fl with
    | ret v =>
      obtain ⟨rfl, rfl⟩ := hr
      have hS : (s.heap.push { cls := .type "set", dict := none, data := .set #[] 0 (.fresh 0 0 (!w.params.followText "set-order")) }).get? s.heap.objs.size = some { cls := .type "set", dict := none, data := .set #[] 0 (.fresh 0 0 (!w.params.followText "set-order")) } := Heap.get?_push_size _ rfl
      have hT : Shared.TypeIs { s with heap := s.heap.push { cls := .type "set", dict := none, data := .set #[] 0 (.fresh 0 0 (!w.params.followText "set-order")) } } (.ref s.heap.objs.size) "set" := ⟨_, hS, rfl⟩
      have hli := PySem.F.called_set.init.lookup
      have hbi := PySem.F.called_set.init.bind (.ref s.heap.objs.size)
      repeat (any_goals (first | assumption | wp_step))
      refine codeAny_mono (codeAny_call_builtin (R := wants (fun r s2 => r = .none ∧ ∃ h' tk l, s2 = { s with heap := h', toks := tk } ∧ Held P w h' s.heap.objs.size l ∧ l.length ≤ xs.length ∧ (∀ k, k ∈ l ↔ k ∈ xs) ∧
          (∀ b o, s.heap.get? b = some o → h'.get? b = some o)) E) PySem.F.called_set.init.plain PySem.F.entry_set_init (check_set_init_1 hT ?_)) fun r2 s2 hr2 => ?_
      · obtain ⟨ol, hol, hcl, nl, hdl⟩ := hc
        obtain ⟨ocls, odict, odata, oslots⟩ := ol
        simp only at hcl hdl
        subst hcl; subst hdl
        generalize hH : s.heap.push { cls := .type "set", dict := none, data := .set #[] 0 (.fresh 0 0 (!w.params.followText "set-order")) } = H at hS hT
        have hzH : H.objs.size = s.heap.objs.size + 1 := by rw [← hH]; exact Heap.size_push ..
        have up : ∀ b o, s.heap.get? b = some o → H.get? b = some o := fun b o e => by rw [← hH]; exact Heap.get?_push_of_some _ e
        have hol' := up _ _ hol
        have hsls := PySem.F.sub_tuple_set
        have hslf := PySem.F.sub_tuple_frozenset
        have hne : (Value.type "tuple" == Value.type "dict") = false := by decide
        have hl1 : H.IsTuple c items := ⟨_, hol', rfl, nl, rfl⟩
        unfold Builtin.«set.__init__» noKeywords Builtin.Frozenset.updateFrom
        generalize hPI : pyIter = PI
        wp_walk
        subst hPI
        refine wpAny_pyIter_tuple hl1 ?_
        refine wpAny_bind (wpAny_runValue ?_)
        have hlS : c < s.heap.objs.size := Heap.lt_size hol
        have hh3 : A.in1.in1.in1.handled = none := by simp [hh]
        have hSf : s.heap.objs.size ∉ [H.objs.size, c] := by
          rw [hzH]; simp only [List.mem_cons, List.mem_singleton, List.not_mem_nil, or_false, not_or]
          exact ⟨Nat.ne_of_lt (Nat.lt_succ_self _), Nat.ne_of_gt hlS⟩
        have hval : ∀ (i : Nat) (v : Value), items[i]? = some v → ∃ k t, xs[i]? = some k ∧ v = .str k t := fun i v hv => by
          have hlt : i < xs.length := by rw [← hsz]; exact (Array.getElem?_eq_some_iff.mp hv).1
          obtain ⟨t, e⟩ := SS.strs_at hi i v (by rw [Array.getElem?_toList]; exact hv)
          refine ⟨xs[i], t, List.getElem?_eq_getElem hlt, ?_⟩
          rw [e, List.getD_eq_getElem?_getD, List.getElem?_eq_getElem hlt]
          rfl
        refine update_loop ((Walks.tuple hh3 _ c (by rw [hzH]; exact Nat.ne_of_lt (Nat.lt_succ_of_lt hlS)) items).toS) hSf hsz hb hval (items.size - 0) 0 _ [] (by omega) (Nat.zero_le _)
          ⟨⟨_, Heap.get?_push_size _ rfl, rfl, rfl⟩, (hl1.push _)⟩ (held_new (Heap.get?_push_of_some _ hS)) (Nat.le_refl 0) (by simp) ?_
        intro s3 l3 mv hS3 hl3 hm3
        obtain ⟨h3, g3, d3, tk3, os3⟩ := s3
        have eg : g3 = s.gens := mv.gens
        have ed : d3 = s.drawn := mv.drawn
        have eo : os3 = s.os := mv.os
        subst eg; subst ed; subst eo
        show wpAny _ _ _ _ _ _
        refine wpAny_pure ?_
        show wpAny _ _ (ret Value.none) _ _ _
        refine wpAny_pure ⟨rfl, h3, tk3, l3, rfl, hS3, by omega, hm3, fun b o e => ?_⟩
        have hb0 : b < s.heap.objs.size := Heap.lt_size e
        exact mv.heap b o (by simp only [List.mem_cons, List.mem_singleton, List.not_mem_nil, or_false, not_or]; exact ⟨Nat.ne_of_lt hb0, by rw [hzH]; exact Nat.ne_of_lt (Nat.lt_succ_of_lt hb0)⟩) (Heap.get?_push_of_some _ (up _ _ e))
      · cases r2 with
        | error e => exact hr2
        | ok fl2 =>
          cases fl2 with
          | ret r =>
            obtain ⟨rfl, h', tk, l', rfl, hS', hl', hm', hk'⟩ := hr2
            repeat (any_goals (first | assumption | wp_step))
            exact q _ _ _ hS' hl' hm' hk'
          | _ => exact hr2.elim
    | _ => exact hr.elim
end
end TStr

namespace TStr
open PySem PySem.Spec PyProof.Rows PySem.Froz L2
theorem le_of {x y : Str} : TL.strLe x y = true ↔ x.cps.toList ≤ y.cps.toList := by
  unfold TL.strLe
  rw [Bool.not_eq_true', decide_eq_false_iff_not]
  exact Iff.rfl
theorem le_trans' {x y z : Str} (h : TL.strLe x y = true) (k : TL.strLe y z = true) : TL.strLe x z = true := le_of.mpr (List.le_trans (le_of.mp h) (le_of.mp k))
theorem le_anti {x y : Str} (h : TL.strLe x y = true) (k : TL.strLe y x = true) : x = y := by
  have e := List.le_antisymm (le_of.mp h) (le_of.mp k)
  obtain ⟨a⟩ := x
  obtain ⟨b⟩ := y
  have : a = b := Array.ext' e
  rw [this]
theorem le_total' (x y : Str) : TL.strLe x y = true ∨ TL.strLe y x = true := (List.le_total x.cps.toList y.cps.toList).imp le_of.mpr le_of.mpr
theorem insS_perm (x : Str) : ∀ l : List Str, (TL.insS x l).Perm (x :: l)
  | [] => .refl _
  | y :: r => by
    unfold TL.insS
    split
    · exact .refl _
    · exact ((insS_perm x r).cons y).trans (.swap x y r)
theorem sortS_perm : ∀ l : List Str, (TL.sortS l).Perm l
  | [] => .refl _
  | x :: r => (insS_perm x _).trans ((sortS_perm r).cons x)
theorem insS_sorted (x : Str) : ∀ l : List Str, l.Pairwise (fun a b => TL.strLe a b = true) → (TL.insS x l).Pairwise (fun a b => TL.strLe a b = true)
  | [], _ => by simp [TL.insS]
  | y :: r, h => by
    have h' := List.pairwise_cons.mp h
    unfold TL.insS
    split
    · rename_i q
      refine List.pairwise_cons.mpr ⟨fun z hz => ?_, h⟩
      rcases List.mem_cons.mp hz with rfl | hz
      · exact q
      · exact le_trans' q (h'.1 z hz)
    · rename_i q
      have q2 : TL.strLe y x = true := (le_total' x y).resolve_left q
      refine List.pairwise_cons.mpr ⟨fun z hz => ?_, insS_sorted x r h'.2⟩
      rcases List.mem_cons.mp ((insS_perm x r).mem_iff.mp hz) with rfl | hz
      · exact q2
      · exact h'.1 z hz
theorem sortS_sorted : ∀ l : List Str, (TL.sortS l).Pairwise (fun a b => TL.strLe a b = true)
  | [] => List.Pairwise.nil
  | x :: r => insS_sorted x _ (sortS_sorted r)
theorem dedS_mem {k : Str} : ∀ l : List Str, k ∈ TL.dedS l ↔ k ∈ l
  | [] => Iff.rfl
  | x :: r => by
    unfold TL.dedS
    split
    · rename_i h
      rw [dedS_mem r, List.mem_cons]
      constructor
      · exact .inr
      · rintro (rfl | q)
        · exact h
        · exact q
    · rw [List.mem_cons, List.mem_cons, dedS_mem r]
theorem dedS_nodup : ∀ l : List Str, (TL.dedS l).Nodup
  | [] => List.nodup_nil
  | x :: r => by
    unfold TL.dedS
    split
    · exact dedS_nodup r
    · rename_i h
      exact List.nodup_cons.mpr ⟨fun q => h ((dedS_mem r).mp q), dedS_nodup r⟩
/-- a list without doubles within a list as short is that list in another order -/
theorem perm_of_sub {α : Type} [BEq α] [LawfulBEq α] : ∀ {l m : List α}, l.Nodup → (∀ x ∈ l, x ∈ m) → m.length ≤ l.length → m.Perm l
  | [], m, _, _, h => by
    have : m = [] := List.length_eq_zero_iff.mp (Nat.le_zero.mp h)
    rw [this]
  | x :: r, m, n, h, hl => by
    obtain ⟨n1, n2⟩ := List.nodup_cons.mp n
    have hx := h x List.mem_cons_self
    have p := List.perm_cons_erase hx
    have l1 := p.length_eq
    rw [List.length_cons] at l1 hl
    exact p.trans ((perm_of_sub n2 (fun y hy => (List.mem_erase_of_ne (fun (e : y = x) => n1 (e ▸ hy))).mpr (h y (List.mem_cons_of_mem _ hy))) (by omega)).cons x)
theorem perm_of_sub_le {α : Type} [BEq α] [LawfulBEq α] : ∀ {l m : List α}, l.Nodup → (∀ x ∈ l, x ∈ m) → l.length ≤ m.length
  | [], m, _, _ => Nat.zero_le _
  | x :: r, m, n, h => by
    obtain ⟨n1, n2⟩ := List.nodup_cons.mp n
    have l1 := (List.perm_cons_erase (h x List.mem_cons_self)).length_eq
    have ih := perm_of_sub_le (m := m.erase x) n2 fun y hy => (List.mem_erase_of_ne (fun (e : y = x) => n1 (e ▸ hy))).mpr (h y (List.mem_cons_of_mem _ hy))
    rw [List.length_cons] at l1 ⊢
    omega
theorem rising_pair : ∀ {l : List Str} {p : Str}, risingS p l = true → (p :: l).Pairwise (fun a b => TL.strLe a b = true)
  | [], p, _ => by simp
  | x :: r, p, h => by
    have h : (!ltCps x.cps.toList p.cps.toList && risingS x r) = true := h
    rw [Bool.and_eq_true, ltCps_eq] at h
    have ih := rising_pair h.2
    have q : TL.strLe p x = true := h.1
    refine List.pairwise_cons.mpr ⟨fun z hz => ?_, ih⟩
    rcases List.mem_cons.mp hz with rfl | hz
    · exact q
    · exact le_trans' q ((List.pairwise_cons.mp ih).1 z hz)
theorem sortedS_pair : ∀ {l : List Str}, sortedS l = true → l.Pairwise (fun a b => TL.strLe a b = true)
  | [], _ => List.Pairwise.nil
  | x :: r, h => rising_pair h
/-- what is sorted is sortS -/
theorem sorted_eq {l ys : List Str} (p : ys.Perm l) (h : sortedS ys = true) : ys = TL.sortS l :=
  List.Perm.eq_of_pairwise (fun a b _ _ => le_anti) (sortedS_pair h) (sortS_sorted l) (p.trans (sortS_perm l).symm)
theorem sortS_of_perm {l m : List Str} (p : l.Perm m) : TL.sortS l = TL.sortS m :=
  List.Perm.eq_of_pairwise (fun a b _ _ => le_anti) (sortS_sorted l) (sortS_sorted m) ((sortS_perm l).trans (p.trans (sortS_perm m).symm))
section
variable {P : Program} {w : World} {A : Around} {E : Value → Shared → Prop} {s : Shared} {h h' : Heap} {a : Addr} {l : List Str}
theorem is_str_eq {k : Str} {v : Value} (h : (strKind P w).is k v = true) : ∃ t, v = .str k t := by
  have h : Value.isStrOf k v = true := h
  cases v <;> first | (simp [Value.isStrOf] at h; done) | skip
  rename_i x t _
  have e : x = k := by simpa [Value.isStrOf] using h
  exact ⟨_, by rw [e]⟩
def txt (v : Value) : Str := match v with
  | .str k _ => k
  | _ => Str.empty
theorem strs_of : ∀ {vs : List Value}, (∀ v ∈ vs, ∃ k t, v = Value.str k t) → StrsAre vs (vs.map txt)
  | [], _ => .nil
  | v :: vs, h => by
    obtain ⟨k, t, rfl⟩ := h v List.mem_cons_self
    exact .cons k t (strs_of fun u hu => h u (List.mem_cons_of_mem _ hu))
theorem sorted_held {Q : Value → Shared → Prop} (x : Held P w s.heap a l) (hh : A.handled = none) (h64 : l.length < 64)
    (q : ∀ s' p (out : Array Value) (c : Nat), (∀ b o, s.heap.get? b = some o → s'.heap.get? b = some o) → s'.gens = s.gens → s'.os = s.os → s.heap.objs.size ≤ p →
      s'.heap.get? p = some (seqObj "list" out c) → StrsAre out.toList (TL.sortS l) → Q (.ref p) s') : wpAny (model P w) A (call (.builtin "sorted") [.ref a]) Q E s := by
  obtain ⟨n, b, D, e, F, r, t⟩ := x
  have hb : D.1.size < scanBound := by rw [F.sz]; exact b
  refine Calls.call_function_entry kind_sorted plain_sorted entry_sorted (args_sorted1 _) ?_
  unfold Builtin.«sorted»
  refine wpAny_bind (m := checkCount "sorted" 1 1 _) (wpAny_pure ?_)
  refine wpAny_bind (collect_set (A := A.in1) hh ⟨_, e, rfl, rfl⟩ F.fit hb r t fun s1 vs k1 hz g1 o1 pm => ?_)
  have hst : ∀ v ∈ vs, ∃ k u, v = Value.str k u := fun v hv => by
    obtain ⟨y, hy, rfl⟩ := List.mem_map.mp (pm.mem_iff.mp hv)
    obtain ⟨⟨k, hk, _⟩, _⟩ := F.el y hy
    obtain ⟨u, eu⟩ := is_str_eq hk
    exact ⟨k, u, eu⟩
  have hl : vs.length = l.length := by rw [pm.length_eq, List.length_map, Array.length_toList, F.sz]
  have S := strs_of hst
  have pk : (vs.map txt).Perm l := by
    refine perm_of_sub n (fun k hk => ?_) (by rw [List.length_map]; exact Nat.le_of_eq hl)
    obtain ⟨y, hy, z⟩ := (F.mem k).mp hk
    obtain ⟨u, eu⟩ := is_str_eq z
    refine List.mem_map.mpr ⟨y.2, pm.mem_iff.mpr (List.mem_map.mpr ⟨y, hy, rfl⟩), ?_⟩
    rw [eu]
    rfl
  have h2 : vs.length < 64 := by rw [hl]; exact h64
  refine wpAny_bind (wpAny_newList ?_ (by rw [sizeLine_eq]; omega))
  have hoL : (s1.heap.push (seqObj "list" vs.toArray 0)).get? s1.heap.objs.size = some (seqObj "list" vs.toArray 0) := Heap.get?_push_size _ rfl
  refine wpAny_bind (wpAny_holding (wpAny_call_entry slot_list_sort ⟨_, hoL, rfl⟩ entry_list_sort (list_sort_treeK strKind_oneLt hoL S.keysOf (fun v1 v2 rest e => keyKind_strs (by rw [← e]; exact S)) h2 fun st' hp hs => ⟨_, rfl, ?_⟩) (args_list_sort _)))
  obtain ⟨ss, q1, q2, q3⟩ := sorted_out_str S hp hs
  have e2 : ss = TL.sortS l := sorted_eq (q2.trans pk) q3
  rw [e2] at q1
  obtain ⟨c, hc⟩ := sortedHeap_at (vs := vs) (out := (arrOf st').map (·.2)) hoL
  refine wpAny_pure ⟨_, rfl, q _ s1.heap.objs.size _ c (fun b u e => ?_) g1 o1 hz hc q1⟩
  have y := k1 b u e
  have hlt := Heap.lt_size y
  show (sortedHeap (s1.heap.push (seqObj "list" vs.toArray 0)) s1.heap.objs.size vs _).get? b = some u
  rw [sortedHeap_old (Nat.ne_of_lt hlt) (by rw [size_push']; exact Nat.lt_succ_of_lt hlt)]
  exact Heap.get?_push_of_some _ y
end
def SetS (P : Program) (w : World) (a : Addr) (l : List Str) : HO := .ext fun h => Held P w h a l
section
variable {X : Cx}
theorem setS_ok {P : Program} {w : World} {H : Hp} {h : Heap} {a : Addr} {l : List Str} (x : Held P w h a l) : ObjOk P w H h a (SetS P w a l) := by
  refine ⟨x, ?_, fun h1 h2 y k => y.keep k⟩
  obtain ⟨_, _, D, e, _⟩ := x
  exact ⟨_, e⟩
/-- set(texts) -/
def rSet (X : Cx) : List V → Hp → VK → Prop := fun vs H Q => ∃ (c : Addr) (xs : List Str), vs = [.ref c] ∧ (SqL X.K H c (xs.map V.str) ∨ SqT X.K H c (xs.map V.str)) ∧ xs.length < 64 ∧
  ∀ p l, H p = none → l.Nodup → l.length ≤ xs.length → (∀ k, k ∈ l ↔ k ∈ xs) → Q (.ref p) (upd H p (SetS X.prog X.w p l))
theorem cr_setS (hc : X.calm = true) : CallR X (.type "set") (rSet X) := by
  intro pins s σ H vs us Q I r h
  obtain ⟨c, xs, rfl, hs, h64, q⟩ := h
  rw [Vals.ref1 r]
  have hb : xs.length + 1 < scanBound := by unfold scanBound; omega
  have fin : ∀ (h' : Heap) (tk : Nat) (l : List Str), Held X.prog X.w h' s.heap.objs.size l → l.length ≤ xs.length → (∀ k, k ∈ l ↔ k ∈ xs) → (∀ b o, s.heap.get? b = some o → h'.get? b = some o) →
      EP X pins σ Q (.ref s.heap.objs.size) { s with heap := h', toks := tk } := fun h' tk l a b c d =>
    ⟨.ref _, _, I.laid (a := s.heap.objs.size) (o := SetS X.prog X.w s.heap.objs.size l) d (Nat.le_refl _) (setS_ok a), rfl, q _ l (I.hok.fresh (Nat.le_refl _)) a.1 b c⟩
  rcases hs with hs | hs
  · obtain ⟨its, rv, hl, _⟩ := I.list hs
    exact set_list (I.ok.hd hc) hl.isList rv.strs hb fin
  · obtain ⟨its, rv, hl, _⟩ := I.tuple hs
    exact set_tuple (I.ok.hd hc) hl rv.strs hb fin
/-- sorted(set) -/
def rSort (X : Cx) : List V → Hp → VK → Prop := fun vs H Q => ∃ (a : Addr) (l : List Str), vs = [.ref a] ∧ H a = some (SetS X.prog X.w a l) ∧ l.length < 64 ∧ ∀ p, H p = none → Q (.ref p) (upd H p (.lst ((TL.sortS l).map V.str)))
theorem cr_sortS (hc : X.calm = true) : CallR X (.builtin "sorted") (rSort X) := by
  intro pins s σ H vs us Q I r h
  obtain ⟨a, l, rfl, ha, h64, q⟩ := h
  rw [Vals.ref1 r]
  have R : Held X.prog X.w s.heap a l := (I.hok a _ ha).1
  refine sorted_held R (I.ok.hd hc) h64 fun s' p out c k g o hp hg hi => ?_
  have hlen : ((TL.sortS l).map V.str).length ≤ sizeLine := by rw [List.length_map, (sortS_perm l).length_eq, sizeLine_eq]; omega
  have hn : H p = none := I.hok.fresh hp
  have J : Inv X pins σ (upd H p (.lst ((TL.sortS l).map V.str))) { s with heap := s'.heap, gens := s'.gens, drawn := s'.drawn, toks := s'.toks } :=
    I.call (ch := []) (Un.laid k hp hn) (I.hok.laid k hp ⟨hlen, out.toList, c, vals_of_strs hi, hg⟩) (by rw [g]; exact I.bare) (fun _ z => nomatch z)
  have e : s' = { s with heap := s'.heap, gens := s'.gens, drawn := s'.drawn, toks := s'.toks } := by
    cases s'
    cases s
    cases o
    rfl
  rw [e]
  exact ⟨.ref p, _, J, rfl, q p hn⟩
end
end TStr

namespace TL
open PySem L2
/-- a call of one value by what it gives -/
def rC (K : KW) (g : D → Option D) : List V → Hp → VK → Prop := fun xs H Q => ∃ (ω : Wd) (a d : D), (∀ a, ω.wr a ≠ none → H a ≠ none) ∧ Reps K ω H [a] xs ∧ g a = some d ∧ ∀ H' v, Same H H' → Rep K ω H' d v → Q v H'
def rC2 (K : KW) (g : D → D → Option D) : List V → Hp → VK → Prop := fun xs H Q => ∃ (ω : Wd) (a b d : D), (∀ a, ω.wr a ≠ none → H a ≠ none) ∧ Reps K ω H [a, b] xs ∧ g a b = some d ∧ ∀ H' v, Same H H' → Rep K ω H' d v → Q v H'
/-- a method of a value with one argument -/
def rM (K : KW) (g : D → D → Option D) : V → List V → Hp → VK → Prop := fun x xs H Q => ∃ (ω : Wd) (a b d : D), (∀ a, ω.wr a ≠ none → H a ≠ none) ∧ Rep K ω H a x ∧ Reps K ω H [b] xs ∧ g a b = some d ∧ ∀ H' v, Same H H' → Rep K ω H' d v → Q v H'
section
variable {X : Cx} {K : KW} {ω : Wd} {H : Hp}
theorem callr_imp {f : Value} {r r' : List V → Hp → VK → Prop} (h : CallR X f r) (i : ∀ xs H Q, r' xs H Q → r xs H Q) : CallR X f r' := fun pins s σ H xs us Q I rx q => h pins s σ H xs us Q I rx (i xs H Q q)
theorem mtr_imp {id : String} {r r' : V → List V → Hp → VK → Prop} (h : MtR X id r) (i : ∀ x xs H Q, r' x xs H Q → r x xs H Q) : MtR X id r' := fun pins s σ H x xs v us Q I rx rs q => h pins s σ H x xs v us Q I rx rs (i x xs H Q q)
theorem sq_fls {a : Addr} {vs : List V} (q : (H a = some (.lst vs) ∧ ω.wr a = none) ∨ (∃ o, H a = some (.frz o (.lst vs))) ∨ ∃ (o : Obj) (its : Array Value) (n : Nat), K.K.lookup a = some o ∧ o.cls = .type "list" ∧ o.dict = none ∧ o.data = .seq its n ∧ its.size ≤ sizeLine ∧ Vals vs its.toList) : SqL K H a vs := by
  rcases q with ⟨q, _⟩ | ⟨o, q⟩ | q
  · exact .inl (.inl q)
  · exact .inl (.inr ⟨o, q⟩)
  · exact .inr q
theorem reps_ints : ∀ {ds : List D} {ns : List Int} {vs : List V}, intsOf ds = some ns → Reps K ω H ds vs → vs = ns.map V.int
  | [], ns, vs, e, h => by cases e; exact h
  | d :: ds, ns, vs, e, h => by
    obtain ⟨v, r, rfl, h1, h2⟩ := h
    cases d <;> first | (simp [intsOf] at e; done) | skip
    rename_i i
    simp only [intsOf, Option.map_eq_some_iff] at e
    obtain ⟨ms, e1, rfl⟩ := e
    rw [reps_ints e1 h2, show v = .int i from h1]
    rfl
theorem reps_bls : ∀ {ds : List D} {ns : List Bool} {vs : List V}, blsOf ds = some ns → Reps K ω H ds vs → vs = ns.map V.bl
  | [], ns, vs, e, h => by cases e; exact h
  | d :: ds, ns, vs, e, h => by
    obtain ⟨v, r, rfl, h1, h2⟩ := h
    cases d <;> first | (simp [blsOf] at e; done) | skip
    rename_i i
    simp only [blsOf, Option.map_eq_some_iff] at e
    obtain ⟨ms, e1, rfl⟩ := e
    rw [reps_bls e1 h2, show v = .bl i from h1]
    rfl
theorem reps_strs : ∀ {ds : List D} {ns : List Str} {vs : List V}, strsOf ds = some ns → Reps K ω H ds vs → vs = ns.map V.str
  | [], ns, vs, e, h => by cases e; exact h
  | d :: ds, ns, vs, e, h => by
    obtain ⟨v, r, rfl, h1, h2⟩ := h
    cases d <;> first | (simp [strsOf] at e; done) | skip
    rename_i i
    simp only [strsOf, Option.map_eq_some_iff] at e
    obtain ⟨ms, e1, rfl⟩ := e
    rw [reps_strs e1 h2, show v = .str i from h1.1]
    rfl
theorem reps_strs_le : ∀ {ds : List D} {ns : List Str} {vs : List V}, strsOf ds = some ns → Reps K ω H ds vs → ∀ x ∈ ns, x.length ≤ sizeLine
  | [], ns, vs, e, h => by cases e; simp
  | d :: ds, ns, vs, e, h => by
    obtain ⟨v, r, rfl, h1, h2⟩ := h
    cases d <;> first | (simp [strsOf] at e; done) | skip
    rename_i i
    simp only [strsOf, Option.map_eq_some_iff] at e
    obtain ⟨ms, e1, rfl⟩ := e
    intro x hx
    rcases List.mem_cons.mp hx with rfl | hx
    · exact h1.2
    · exact reps_strs_le e1 h2 x hx
theorem reps_of_strs : ∀ {ns : List Str}, (∀ x ∈ ns, x.length ≤ sizeLine) → Reps K ω H (ns.map D.str) (ns.map V.str)
  | [], _ => rfl
  | x :: ns, h => ⟨.str x, _, rfl, ⟨rfl, h x List.mem_cons_self⟩, reps_of_strs fun y hy => h y (List.mem_cons_of_mem _ hy)⟩

theorem cr_len : CallR X (.builtin "len") (rC X.kw (o1 .len)) := by
  refine callr_imp (call_len_seq.or call_len_str) ?_
  rintro xs H Q ⟨ω, a, d, tr, ra0, e, q⟩
  obtain ⟨v, rfl, ra⟩ := ra0.one
  clear ra0
  cases a with
  | tup ds =>
    cases e
    obtain ⟨_, a1, vs, rfl, s1, r1⟩ := ra
    refine .inl ⟨a1, vs, rfl, .inr s1, ?_⟩
    rw [r1.length]
    exact q H _ same_refl rfl
  | lst ds =>
    cases e
    obtain ⟨_, a1, vs, rfl, s1, w1, r1⟩ := ra
    refine .inl ⟨a1, vs, rfl, .inl (SqL.of s1), ?_⟩
    rw [r1.length]
    exact q H _ same_refl rfl
  | fls ds =>
    cases e
    obtain ⟨_, a1, vs, rfl, s1, r1⟩ := ra
    refine .inl ⟨a1, vs, rfl, .inl (sq_fls (K := X.kw) s1), ?_⟩
    rw [r1.length]
    exact q H _ same_refl rfl
  | str x =>
    cases e
    obtain ⟨rfl, l1⟩ := ra
    exact .inr ⟨x, rfl, l1, q H _ same_refl rfl⟩
  | _ => cases e
theorem cr_tuple : CallR X (.type "tuple") (rC X.kw (o1 .tuple)) := by
  refine callr_imp call_tuple_of ?_
  rintro xs H Q ⟨ω, a, d, tr, ra0, e, q⟩
  obtain ⟨v, rfl, ra⟩ := ra0.one
  clear ra0
  cases a with
  | tup ds =>
    cases e
    obtain ⟨l1, a1, vs, rfl, s1, r1⟩ := ra
    exact ⟨a1, vs, rfl, .inr ⟨s1, q H _ same_refl ⟨l1, a1, vs, rfl, s1, r1⟩⟩⟩
  | lst ds =>
    cases e
    obtain ⟨l1, a1, vs, rfl, s1, w1, r1⟩ := ra
    exact ⟨a1, vs, rfl, .inl ⟨SqL.of s1, fun p hp => q _ _ (same_new hp _) (rep_new_tup hp r1 l1)⟩⟩
  | _ => cases e
theorem cr_list : CallR X (.type "list") (rC X.kw (o1 .list)) := by
  refine callr_imp call_list_of ?_
  rintro xs H Q ⟨ω, a, d, tr, ra0, e, q⟩
  obtain ⟨v, rfl, ra⟩ := ra0.one
  clear ra0
  cases a with
  | tup ds =>
    cases e
    obtain ⟨l1, a1, vs, rfl, s1, r1⟩ := ra
    exact ⟨a1, vs, rfl, .inr s1, fun p hp => q _ _ (same_new hp _) (rep_new_lst tr hp r1 l1)⟩
  | lst ds =>
    cases e
    obtain ⟨l1, a1, vs, rfl, s1, w1, r1⟩ := ra
    exact ⟨a1, vs, rfl, .inl (SqL.of s1), fun p hp => q _ _ (same_new hp _) (rep_new_lst tr hp r1 l1)⟩
  | _ => cases e
theorem cr_dsum (hc : X.calm = true) : CallR X (.builtin "sum") (rC X.kw (o1 .sum)) := by
  refine callr_imp (cr_sum hc) ?_
  rintro xs H Q ⟨ω, a, d, tr, ra0, e, q⟩
  obtain ⟨v, rfl, ra⟩ := ra0.one
  clear ra0
  cases a with
  | lst ds =>
    simp only [o1, Option.map_eq_some_iff] at e
    obtain ⟨ns, e1, rfl⟩ := e
    obtain ⟨l1, a1, vs, rfl, s1, w1, r1⟩ := ra
    have z := reps_ints e1 r1
    subst z
    exact ⟨a1, ns, rfl, SqL.of s1, q H _ same_refl rfl⟩
  | _ => cases e
theorem cr_dall (hc : X.calm = true) : CallR X (.builtin "all") (rC X.kw (o1 .all)) := by
  refine callr_imp (L2.cr_all hc) ?_
  rintro xs H Q ⟨ω, a, d, tr, ra0, e, q⟩
  obtain ⟨v, rfl, ra⟩ := ra0.one
  clear ra0
  cases a with
  | lst ds =>
    simp only [o1, Option.map_eq_some_iff] at e
    obtain ⟨ns, e1, rfl⟩ := e
    obtain ⟨l1, a1, vs, rfl, s1, w1, r1⟩ := ra
    have z := reps_bls e1 r1
    subst z
    exact ⟨a1, ns, rfl, SqL.of s1, q H _ same_refl rfl⟩
  | _ => cases e
theorem maxL_mem : ∀ {ns : List Int}, ns ≠ [] → maxL ns ∈ ns ∧ ∀ y ∈ ns, y ≤ maxL ns
  | [], h => absurd rfl h
  | [x], _ => by simp [maxL]
  | x :: y :: r, _ => by
    obtain ⟨h1, h2⟩ := maxL_mem (ns := y :: r) (by simp)
    show (if maxL (y :: r) > x then maxL (y :: r) else x) ∈ _ ∧ _
    show (if maxL (y :: r) > x then maxL (y :: r) else x) ∈ _ ∧ ∀ z ∈ x :: y :: r, z ≤ (if maxL (y :: r) > x then maxL (y :: r) else x)
    split
    · refine ⟨List.mem_cons_of_mem _ h1, fun z hz => ?_⟩
      rcases List.mem_cons.mp hz with rfl | hz
      · omega
      · exact h2 z hz
    · refine ⟨List.mem_cons_self, fun z hz => ?_⟩
      rcases List.mem_cons.mp hz with rfl | hz
      · exact Int.le_refl _
      · have := h2 z hz
        omega
theorem minL_mem : ∀ {ns : List Int}, ns ≠ [] → minL ns ∈ ns ∧ ∀ y ∈ ns, minL ns ≤ y
  | [], h => absurd rfl h
  | [x], _ => by simp [minL]
  | x :: y :: r, _ => by
    obtain ⟨h1, h2⟩ := minL_mem (ns := y :: r) (by simp)
    show (if minL (y :: r) < x then minL (y :: r) else x) ∈ _ ∧ ∀ z ∈ x :: y :: r, (if minL (y :: r) < x then minL (y :: r) else x) ≤ z
    split
    · refine ⟨List.mem_cons_of_mem _ h1, fun z hz => ?_⟩
      rcases List.mem_cons.mp hz with rfl | hz
      · omega
      · exact h2 z hz
    · refine ⟨List.mem_cons_self, fun z hz => ?_⟩
      rcases List.mem_cons.mp hz with rfl | hz
      · exact Int.le_refl _
      · have := h2 z hz
        omega
theorem cr_dmax (hc : X.calm = true) : CallR X (.builtin "max") (rC X.kw (o1 .max)) := by
  refine callr_imp (L2.cr_max hc) ?_
  rintro xs H Q ⟨ω, a, d, tr, ra0, e, q⟩
  obtain ⟨v, rfl, ra⟩ := ra0.one
  clear ra0
  cases a with
  | lst ds =>
    simp only [o1, Option.bind_eq_some_iff] at e
    obtain ⟨ns, e1, e⟩ := e
    split at e
    · cases e
    · rename_i hn
      cases e
      obtain ⟨l1, a1, vs, rfl, s1, w1, r1⟩ := ra
      have z := reps_ints e1 r1
      subst z
      refine ⟨a1, ns, rfl, SqL.of s1, List.length_pos_iff.mpr hn, fun m hm hy => ?_⟩
      obtain ⟨h1, h2⟩ := maxL_mem hn
      have : m = maxL ns := Int.le_antisymm (h2 m hm) (hy _ h1)
      rw [this]
      exact q H _ same_refl rfl
  | _ => cases e
theorem cr_dmin (hc : X.calm = true) : CallR X (.builtin "min") (rC X.kw (o1 .min)) := by
  refine callr_imp (L2.cr_min hc) ?_
  rintro xs H Q ⟨ω, a, d, tr, ra0, e, q⟩
  obtain ⟨v, rfl, ra⟩ := ra0.one
  clear ra0
  cases a with
  | lst ds =>
    simp only [o1, Option.bind_eq_some_iff] at e
    obtain ⟨ns, e1, e⟩ := e
    split at e
    · cases e
    · rename_i hn
      cases e
      obtain ⟨l1, a1, vs, rfl, s1, w1, r1⟩ := ra
      have z := reps_ints e1 r1
      subst z
      refine ⟨a1, ns, rfl, SqL.of s1, List.length_pos_iff.mpr hn, fun m hm hy => ?_⟩
      obtain ⟨h1, h2⟩ := minL_mem hn
      have : m = minL ns := Int.le_antisymm (hy _ h1) (h2 m hm)
      rw [this]
      exact q H _ same_refl rfl
  | _ => cases e
theorem cr_dint : CallR X (.type "int") (rC X.kw (o1 .int)) := by
  refine callr_imp call_int1 ?_
  rintro xs H Q ⟨ω, a, d, tr, ra0, e, q⟩
  obtain ⟨v, rfl, ra⟩ := ra0.one
  clear ra0
  cases a with
  | int i => cases e; cases ra; exact .inl ⟨i, rfl, q H _ same_refl rfl⟩
  | bl b => cases e; cases ra; exact .inr ⟨b, rfl, q H _ same_refl rfl⟩
  | _ => cases e
theorem cr_dstr : CallR X (.type "str") (rC X.kw (o1 .str)) := by
  refine callr_imp call_str_int ?_
  rintro xs H Q ⟨ω, a, d, tr, ra0, e, q⟩
  obtain ⟨v, rfl, ra⟩ := ra0.one
  clear ra0
  cases a with
  | int i =>
    simp only [o1] at e
    split at e
    · rename_i hc
      cases e
      cases ra
      exact ⟨i, rfl, hc.1, q H _ same_refl ⟨rfl, hc.2⟩⟩
    · cases e
  | _ => cases e
theorem cr_dmax2 (hc : X.calm = true) : CallR X (.builtin "max") (rC2 X.kw (o2 .max)) := by
  refine callr_imp (call_max2 hc) ?_
  rintro xs H Q ⟨ω, a, b, d, tr, r, e, q⟩
  obtain ⟨v, w, rfl, ra, rb⟩ := r.two
  unfold o2 at e
  split at e <;> try cases e
  all_goals try contradiction
  all_goals
    cases ra; cases rb
    exact ⟨_, _, rfl, q H _ same_refl rfl⟩
theorem cr_dmin2 (hc : X.calm = true) : CallR X (.builtin "min") (rC2 X.kw (o2 .min)) := by
  refine callr_imp (call_min2 hc) ?_
  rintro xs H Q ⟨ω, a, b, d, tr, r, e, q⟩
  obtain ⟨v, w, rfl, ra, rb⟩ := r.two
  unfold o2 at e
  split at e <;> try cases e
  all_goals try contradiction
  all_goals
    cases ra; cases rb
    exact ⟨_, _, rfl, q H _ same_refl rfl⟩
/-- the type of data -/
def tyD : D → Option String
  | .non => some "NoneType"
  | .bl _ => some "bool"
  | .int _ => some "int"
  | .str _ => some "str"
  | .tup _ => some "tuple"
  | .lst _ => some "list"
  | _ => none
theorem rep_ty {d : D} {v : V} {T : String} (h : Rep K ω H d v) (e : tyD d = some T) : TyX K H v (.type T) := by
  cases d <;> cases e
  · rw [show v = .non from h]; exact .base .non
  · rw [show v = .bl _ from h]; exact .base (.bl _)
  · rw [show v = .int _ from h]; exact .base (.int _)
  · rw [show v = .str _ from h.1]; exact .base (.str _)
  · obtain ⟨l1, a1, vs, rfl, s1, r1⟩ := h
    rcases s1 with (s1 | ⟨o, s1⟩) | ⟨o, its, n, s1, s2, _⟩
    · exact .base (.tup s1)
    · exact .fTuple s1
    · exact .kTuple s1 s2
  · obtain ⟨l1, a1, vs, rfl, s1, w1, r1⟩ := h
    exact .base (.lst s1)
def isO : String → Option O1
  | "str" => some .isStr
  | "int" => some .isInt
  | "bool" => some .isBool
  | "tuple" => some .isTuple
  | _ => none
theorem isO_ty {T : String} {o : O1} {a d : D} (h : isO T = some o) (e : o1 o a = some d) : ∃ T' b, tyD a = some T' ∧ kitB T' T = some b ∧ d = .bl b := by
  unfold isO at h
  split at h <;> cases h
  all_goals (cases a <;> cases e <;> exact ⟨_, _, rfl, (by decide +kernel), rfl⟩)
/-- isinstance(x, T) -/
theorem cr_isi {T : String} {o : O1} (h : isO T = some o) : CallR X (.builtin "isinstance") (fun xs H Q => ∃ v, xs = [v, .ty T] ∧ rC X.kw (o1 o) [v] H Q) := by
  refine callr_imp call_isi ?_
  rintro xs H Q ⟨v, rfl, ω, a, d, tr, ra0, e, q⟩
  obtain ⟨v', e', ra⟩ := ra0.one
  clear ra0
  cases e'
  obtain ⟨T', b, e1, e2, rfl⟩ := isO_ty h e
  exact ⟨v, .ty T, .type T', .type T, b, rfl, .ty T, rep_ty ra e1, kit_ty e2, q H _ same_refl rfl⟩
theorem mt_dJoin : MtR X "str.join" (rM X.kw (o2 .join)) := by
  refine mtr_imp mt_join ?_
  rintro x xs H Q ⟨ω, a, b, d, tr, ra, rb0, e, q⟩
  obtain ⟨v, rfl, rb⟩ := rb0.one
  clear rb0
  unfold o2 at e
  split at e <;> try cases e
  all_goals try contradiction
  rename_i s ds _
  simp only [Option.bind_eq_some_iff] at e
  obtain ⟨ys, e1, e⟩ := e
  split at e
  · rename_i hc
    cases e
    obtain ⟨rfl, _⟩ := ra
    obtain ⟨l1, a1, vs, rfl, s1, w1, r1⟩ := rb
    have z := reps_strs e1 r1
    subst z
    exact ⟨_, a1, ys, rfl, rfl, .inl (SqL.of s1), hc.1, q H _ same_refl ⟨rfl, hc.2⟩⟩
  · cases e
theorem mt_dSplit : MtR X "str.split" (rM X.kw (o2 .split)) := by
  refine mtr_imp mt_split ?_
  rintro x xs H Q ⟨ω, a, b, d, tr, ra, rb0, e, q⟩
  obtain ⟨v, rfl, rb⟩ := rb0.one
  clear rb0
  unfold o2 at e
  split at e <;> try cases e
  all_goals try contradiction
  split at e
  · rename_i hc
    cases e
    obtain ⟨rfl, _⟩ := ra
    obtain ⟨rfl, _⟩ := rb
    refine ⟨_, _, rfl, rfl, hc.1, hc.2.1, fun p hp => ?_⟩
    refine q _ _ (same_new hp _) (rep_new_lst tr hp (reps_of_strs fun x hx => ?_) (by rw [List.length_map]; exact hc.2.2.1))
    exact of_decide_eq_true (List.all_eq_true.mp hc.2.2.2 x hx)
  · cases e
theorem rep_strs {ns : List Str} (h : ∀ x ∈ ns, x.length ≤ sizeLine) : Reps K ω H (ns.map D.str) (ns.map V.str) := reps_of_strs h
theorem cr_dsorted : CallR X (.builtin "sorted") (rC X.kw (o1 .sorted)) := by
  refine callr_imp L2.cr_sortedS ?_
  rintro xs H Q ⟨ω, a, d, tr, ra0, e, q⟩
  obtain ⟨v, rfl, ra⟩ := ra0.one
  clear ra0
  cases a with
  | lst ds =>
    simp only [o1, Option.bind_eq_some_iff] at e
    obtain ⟨ns, e1, e⟩ := e
    split at e
    · rename_i hl
      cases e
      obtain ⟨l1, a1, vs, rfl, s1, w1, r1⟩ := ra
      have z := reps_strs e1 r1
      have le := reps_strs_le e1 r1
      subst z
      refine ⟨a1, ns, rfl, SqL.of s1, hl, fun ys p hp hs hn => ?_⟩
      have e2 := TStr.sorted_eq hp hs
      subst e2
      refine q _ _ (same_new hn _) (rep_new_lst tr hn (rep_strs fun x hx => le x (hp.mem_iff.mp hx)) ?_)
      rw [List.length_map, hp.length_eq, sizeLine_eq]
      omega
    · cases e
  | _ => cases e
/-- sorted(set(x)) -/
def rSrt (X : Cx) : V → Hp → VK → Prop := fun v H Q => TStr.rSet X [v] H fun u H1 => TStr.rSort X [u] H1 Q
theorem srt_of {d z : D} {v : V} {Q : VK} (tr : ∀ a, ω.wr a ≠ none → H a ≠ none) (r : Rep X.kw ω H d v) (e : o1 .sortedSet d = some z) (q : ∀ H' v', Same H H' → Rep X.kw ω H' z v' → Q v' H') : rSrt X v H Q := by
  have key : ∀ (c : Addr) (xs : List Str), v = .ref c → (SqL X.K H c (xs.map V.str) ∨ SqT X.K H c (xs.map V.str)) → xs.length < 64 → (∀ x ∈ xs, x.length ≤ sizeLine) → z = .lst ((sortS (dedS xs)).map .str) → rSrt X v H Q := by
    rintro c xs rfl hs h64 le rfl
    refine ⟨c, xs, rfl, hs, h64, fun p l hp nd ln mem => ⟨p, l, rfl, upd_same, Nat.lt_of_le_of_lt ln h64, fun p2 hp2 => ?_⟩⟩
    have pm : l.Perm (dedS xs) := by
      refine (TStr.perm_of_sub nd (fun x hx => (TStr.dedS_mem _).mpr ((mem x).mp hx)) ?_).symm
      have : (dedS xs).Nodup := TStr.dedS_nodup _
      exact (TStr.perm_of_sub_le this fun x hx => (mem x).mpr ((TStr.dedS_mem _).mp hx))
    rw [TStr.sortS_of_perm pm]
    have ne : p2 ≠ p := fun e => by rw [e, upd_same] at hp2; cases hp2
    have hn : H p2 = none := by rw [upd_ne ne] at hp2; exact hp2
    have s1 : Same H (upd H p (TStr.SetS X.prog X.w p l)) := same_new hp _
    have s2 : Same (upd H p (TStr.SetS X.prog X.w p l)) (upd (upd H p (TStr.SetS X.prog X.w p l)) p2 (.lst ((sortS (dedS xs)).map V.str))) := same_new hp2 _
    have tr2 : ∀ a, ω.wr a ≠ none → upd H p (TStr.SetS X.prog X.w p l) a ≠ none := fun a ha z => by
      have := tr a ha
      cases y : H a with
      | none => exact this y
      | some o => rw [s1 _ _ y] at z; cases z
    refine q _ _ (fun b u y => s2 b u (s1 b u y)) (rep_new_lst tr2 hp2 (rep_strs fun x hx => le x ?_) ?_)
    · exact (TStr.dedS_mem _).mp ((TStr.sortS_perm _).mem_iff.mp hx)
    · rw [List.length_map, (TStr.sortS_perm _).length_eq, ← pm.length_eq, sizeLine_eq]
      omega
  cases d with
  | lst ds =>
    simp only [o1, Option.bind_eq_some_iff] at e
    obtain ⟨ns, e1, e⟩ := e
    split at e
    · rename_i hl
      cases e
      obtain ⟨l1, a1, vs, rfl, s1, w1, r1⟩ := r
      have z := reps_strs e1 r1
      have le := reps_strs_le e1 r1
      subst z
      exact key a1 ns rfl (.inl (SqL.of s1)) hl le rfl
    · cases e
  | tup ds =>
    simp only [o1, Option.bind_eq_some_iff] at e
    obtain ⟨ns, e1, e⟩ := e
    split at e
    · rename_i hl
      cases e
      obtain ⟨l1, a1, vs, rfl, s1, r1⟩ := r
      have z := reps_strs e1 r1
      have le := reps_strs_le e1 r1
      subst z
      exact key a1 ns rfl (.inr s1) hl le rfl
    · cases e
  | _ => cases e
theorem pys_get : ∀ {ds : List D} {j : Nat}, (pys ds)[j]? = (ds[j]?).map D.py
  | [], j => by simp [pys]
  | d :: ds, 0 => by simp [pys]
  | d :: ds, j + 1 => by simp [pys, pys_get]
theorem mt_dIndex (hu : X.A.units + 65 < cLine) : MtR X "list.index" (rM X.kw (o2 .index)) := by
  refine mtr_imp (L2.mt_indexD hu) ?_
  rintro x xs H Q ⟨ω, a, b, d, tr, ra, rb0, e, q⟩
  obtain ⟨v, rfl, rb⟩ := rb0.one
  clear rb0
  unfold o2 at e
  split at e <;> try cases e
  all_goals try contradiction
  rename_i b _ _ _ ds _
  split at e
  · rename_i hc
    rw [Bool.and_eq_true] at hc
    obtain ⟨j, hj, rfl⟩ := Option.map_eq_some_iff.mp e
    obtain ⟨h1, h2, h3⟩ := List.findIdx?_eq_some_iff_getElem.mp hj
    have ra' := ra
    obtain ⟨l1, a1, vs, rfl, s1, w1, r1⟩ := ra
    refine ⟨a1, v, b.py, pys ds, j, ds[j].py, rfl, rfl, Rep.dp _ _ (.inl hc.2) ra', Rep.dp b v (.inl hc.1) rb, hc.2, hc.1, ?_, h2, fun m z hm hz => ?_, q H _ same_refl rfl⟩
    · rw [pys_get, List.getElem?_eq_getElem h1]
      rfl
    · have hml : m < ds.length := Nat.lt_trans hm h1
      rw [pys_get, List.getElem?_eq_getElem hml] at hz
      cases hz
      exact Bool.eq_false_iff.mpr (h3 m hm)
  · cases e
end
end TL

namespace TL
open PySem L2 PyProof.Rows

mutual
def deq : D → D → Bool
  | .non, .non => true
  | .bl a, .bl b => a == b
  | .int a, .int b => a == b
  | .str a, .str b => decide (a = b)
  | .tup a, .tup b => deqs a b
  | _, _ => false
def deqs : List D → List D → Bool
  | [], [] => true
  | a :: as, b :: bs => deq a b && deqs as bs
  | _, _ => false
end
mutual
theorem deq_eq : ∀ (a b : D), deq a b = true → a = b
  | .non, b, h => by cases b <;> first | rfl | (simp [deq] at h)
  | .bl x, b, h => by cases b <;> first | (simp [deq] at h; done) | (simp only [deq, beq_iff_eq] at h; rw [h])
  | .int x, b, h => by cases b <;> first | (simp [deq] at h; done) | (simp only [deq, beq_iff_eq] at h; rw [h])
  | .str x, b, h => by cases b <;> first | (simp [deq] at h; done) | (simp only [deq, decide_eq_true_eq] at h; rw [h])
  | .tup x, b, h => by cases b <;> first | (simp [deq] at h; done) | (simp only [deq] at h; rw [deqs_eq _ _ h])
  | .lst x, b, h => by simp [deq] at h
  | .fls x, b, h => by simp [deq] at h
  | .dic x, b, h => by simp [deq] at h
  | .ref x, b, h => by simp [deq] at h
  | .clo x y, b, h => by simp [deq] at h
  | .mlst x, b, h => by simp [deq] at h
  | .mset x, b, h => by simp [deq] at h
  | .mdic x, b, h => by simp [deq] at h
  | .ins x y, b, h => by simp [deq] at h
theorem deqs_eq : ∀ (a b : List D), deqs a b = true → a = b
  | [], b, h => by cases b <;> first | rfl | (simp [deqs] at h)
  | a :: as, b, h => by
    cases b with
    | nil => simp [deqs] at h
    | cons b bs =>
      simp only [deqs, Bool.and_eq_true] at h
      rw [deq_eq _ _ h.1, deqs_eq _ _ h.2]
end

structure GT where
  fns : List Str
  consts : List (Str × D)
  blt : List Str
/-- what a def promises: what its code gives -/
def spC (K : KW) (C : Cal) (cls : Nat → Value) (f : Nat) : Sp := fun vs H Q E => ∃ (ω : Wd) (st : Sto) (ds : List D) (dp : Nat), StoOk K ω st H ∧ Reps K ω H ds vs ∧ match C f ds st with
  | .ok d st' => ∀ ω' v H', Ext dp ω H ω' H' → StoOk K ω' st' H' → Rep K ω' H' d v → Q v H'
  | .exc c st' => ∀ ω' H', Ext dp ω H ω' H' → StoOk K ω' st' H' → E (cls c) none H'
  | .fail => False
structure Cok (X : Cx) (G : GT) (k : Nat) (C : Cal) (cls : Nat → Value) (N : List Str) (sc : Scope) (W : WX) : Prop where
  hN : X.N = N
  nd : N.Nodup
  hsc : X.env.scope = sc
  calm : X.calm = true
  room : Room k X.A
  tk : Takes X W
  fns : ∀ (i : Nat) (x : Str), G.fns[i]? = some x → ∃ (f : Addr) (fd : FuncData) (ps : List Str), FnOk X.prog X.w X.kw X.mg X.base (L2.CX X.prog X.w) k f fd ps (spC X.kw C cls i) ∧ X.mg x = some (.ref f) ∧ PySem.W.keepIn X.kw (.ref f) = true ∧ Binds X.kw fd ps []
  cst : ∀ (x : Str) (d : D), G.consts.lookup x = some d → ∃ u v, X.mg x = some u ∧ RelV v u ∧ ∀ ω H, Rep X.kw ω H d v
  blt : ∀ x ∈ G.blt, X.mg x = none

def notStar : Expr → Bool
  | .Starred .. => false
  | _ => true
def attrOk : Expr → Bool
  | .Call (.Name ..) [] [] _ => false
  | _ => true
def notSlice : Expr → Bool
  | .Slice .. => false
  | _ => true
def notSet : Expr → Bool
  | .Set .. => false
  | _ => true
def notComp : Expr → Bool
  | .ListComp .. | .SetComp .. | .DictComp .. => false
  | _ => true
def plainTest : Expr → Bool
  | .UnaryOp .Not _ _ | .BoolOp .. | .IfExp .. | .Compare .. => false
  | _ => true
theorem star_of {e : Expr} (h : notStar e = true) (es : List Expr) (env : PySem.Env) : starEach (e :: es) env = (false, eval e env) :: starEach es env := by
  cases e <;> first | rfl | (simp [notStar] at h)
theorem stars_of {env : PySem.Env} {pos : Pos} : ∀ {es : List Expr}, es.all notStar = true → (backTo pos (starEach es env)).any (·.1) = false
  | [], _ => rfl
  | e :: es, h => by
    rw [List.all_cons, Bool.and_eq_true] at h
    rw [star_of h.1]
    show (false || (backTo pos (starEach es env)).any (·.1)) = false
    rw [stars_of h.2]
    rfl
theorem attr_ok {o : Expr} (h : attrOk o = true) (m : Str) (env : PySem.Env) : attributeBase o m env (eval o env) = eval o env := by
  unfold attributeBase
  split
  · simp [attrOk] at h
  · rfl
theorem slice_ok {b : Expr} (h : notSlice b = true) : PlainIx b := by
  intro o i
  cases b <;> first | rfl | (simp [notSlice] at h)
theorem set_ok {op : CmpOp} {b : Expr} (h : notSet b = true) : behindInMarks op b = false := by
  cases b <;> first | rfl | (simp [notSet] at h)
theorem swap_ok {e : Expr} (h : notComp e = true) (t : Option Expr) (l : Nat) (env : PySem.Env) : swapsWith e t l env = pure false := by
  cases e <;> first | rfl | (simp [notComp] at h)
theorem fold_ok {e : Expr} (h : notSet e = true) (env : PySem.Env) (x : Value) : foldedSetIterable e env x = pure x := by
  cases e <;> first | rfl | (simp [notSet] at h)
theorem test_ok {e : Expr} (h : plainTest e = true) (env : PySem.Env) (whole : Sem Value) : isTrue e env whole = (do let v ← whole; standAt e.pos; holding [v] (truthy v)) := by
  cases e with
  | UnaryOp op a p => cases op <;> first | rfl | (simp [plainTest] at h)
  | _ => first | rfl | (simp [plainTest] at h)

def vis (sc : Scope) (x : Str) : Bool := match sc.names.lookup x with
  | some .local | some .cell | some .free => true
  | _ => false
def glb (sc : Scope) (x : Str) : Bool := match sc.names.lookup x with
  | some .globalImplicit => true
  | _ => false
def nameOk (x : Str) : Bool := !(x == ("__debug__" : Str)) && !(x == ("__classdict__" : Str)) && !decide (x = "__name__")
theorem vis_of {X : Cx} {sc : Scope} {x : Str} (e : X.env.scope = sc) (h : vis sc x = true) : Vis X.env.scope x := by
  rw [e]
  unfold vis at h
  unfold Vis
  split at h
  · rename_i q; exact .inl q
  · rename_i q; exact .inr (.inl q)
  · rename_i q; exact .inr (.inr q)
  · cases h
theorem glb_of {X : Cx} {sc : Scope} {x : Str} (e : X.env.scope = sc) (h : glb sc x = true) : Gl X x := by
  unfold glb at h
  unfold Gl Env.kindOf
  rw [e]
  split at h
  · rename_i q; exact q
  · cases h
structure NameOk (x : Str) : Prop where
  d : (x == ("__debug__" : Str)) = false
  c : (x == ("__classdict__" : Str)) = false
  n : x ≠ "__name__"
theorem nameOk_of {x : Str} (h : nameOk x = true) : NameOk x := by
  unfold nameOk at h
  simp only [Bool.and_eq_true, Bool.not_eq_true', decide_eq_false_iff_not] at h
  exact ⟨h.1.1, h.1.2, h.2⟩
def conOk : D → Const → Bool
  | .non, .none => true
  | .bl b, .bool c => b == c
  | .int i, .int j => i == j
  | .str x, .str y => decide (x = y) && decide (x.length ≤ sizeLine)
  | _, _ => false
/-- a dict display's keys: texts -/
def dicKeys : List Str → List (Option Expr) → Bool
  | [], [] => true
  | k :: ks, some (.Constant (.str x) _ _) :: es => decide (x = k) && decide (k.length ≤ sizeLine) && dicKeys ks es
  | _, _ => false
def binOf : O2 → Option Operator
  | .add => some .Add | .sub => some .Sub | .mul => some .Mult | .div => some .FloorDiv | .mod => some .Mod
  | _ => none
def cmpOf : O2 → Option CmpOp
  | .eq => some .Eq | .ne => some .NotEq | .lt => some .Lt | .le => some .LtE | .gt => some .Gt | .ge => some .GtE | .isIn => some .In | .notIn => some .NotIn | .isB => some .Is | .isNotB => some .IsNot
  | _ => none
def o1Call : O1 → Option Str
  | .len => some "len" | .tuple => some "tuple" | .list => some "list" | .sum => some "sum" | .all => some "all" | .int => some "int" | .str => some "str" | .sorted => some "sorted" | .max => some "max" | .min => some "min"
  | _ => none
def o2Call : O2 → Option Str
  | .max => some "max" | .min => some "min"
  | _ => none
def o2Meth : O2 → Option Str
  | .join => some "join" | .split => some "split"
  | _ => none
def o2LMeth : O2 → Option Str
  | .index => some "index"
  | _ => none
def isiOf : O1 → Option (String × Str)
  | .isStr => some ("str", "str") | .isInt => some ("int", "int") | .isBool => some ("bool", "bool") | .isTuple => some ("tuple", "tuple")
  | _ => none
def ikNames : IK → Option Str
  | .rng => some "range" | .enumT => some "enumerate" | .enumL => some "enumerate"
  | _ => none
/-- a name that may be stored to: a local one; in a def's own frame also one that others see -/
def lcl (df : Bool) (sc : Scope) (x : Str) : Bool := match sc.names.lookup x with
  | some .local => true
  | some .cell => df
  | _ => false
def tgOk (df : Bool) (N : List Str) (sc : Scope) (own : List Nat) : T → Expr → Bool
  | .nm i, .Name x _ => decide (N[i]? = some x) && decide (i ∈ own) && lcl df sc x
  | .tp is, .Tuple es _ _ => tgs is es
  | _, _ => false
where tgs : List Nat → List Expr → Bool
  | [], [] => true
  | i :: is, .Name x _ :: es => decide (N[i]? = some x) && decide (i ∈ own) && lcl df sc x && tgs is es
  | _, _ => false
def fre (G : GT) (sc : Scope) (x : Str) : Bool := glb sc x && decide (x ∈ G.blt) && nameOk x
/-- what a for walks: the expressions to be looked at -/
def itArgs (G : GT) (sc : Scope) : IK → T → Expr → Option (List Expr)
  | .rng, _, .Call (.Name y _) es [] _ => if decide (y = "range") && fre G sc y && (decide (es.length = 1) || decide (es.length = 2)) then some es else none
  | .enumT, .tp _, .Call (.Name y _) es [] _ => if decide (y = "enumerate") && fre G sc y && decide (es.length = 1) then some es else none
  | .enumL, .tp _, .Call (.Name y _) es [] _ => if decide (y = "enumerate") && fre G sc y && decide (es.length = 1) then some es else none
  | .tup, _, it => some [it]
  | .lst, _, it => some [it]
  | .fls, _, it => some [it]
  | .str, _, it => some [it]
  | _, _, _ => none
mutual
def chkE (N : List Str) (G : GT) : E → Scope → Expr → Bool
  | .var i, sc, e => match e with
    | .Name x _ => decide (N[i]? = some x) && vis sc x && nameOk x
    | _ => false
  | .con d, sc, e => match e with
    | .Constant c _ _ => conOk d c
    | .Name x _ => glb sc x && nameOk x && (match G.consts.lookup x with
      | some d' => deq d' d
      | none => false)
    | .UnaryOp .USub (.Constant (.int j) _ _) _ => (match d with | .int i => decide (i = -j) | _ => false)
    | _ => false
  | .tup ms, sc, e => match e with
    | .Tuple es _ _ => decide (es.length ≤ 1000) && chkEs N G ms sc es
    | _ => false
  | .lst ms, sc, e => match e with
    | .List es _ => decide (es.length ≤ 1000) && chkEs N G ms sc es
    | _ => false
  | .dic ks ms, sc, e => match e with
    | .Dict keys values _ => dicKeys ks keys && chkEs N G ms sc values && !ks.isEmpty && decide (ks.length ≤ 15) && decide (ks.length = ms.length) && decide ks.Nodup
    | _ => false
  | .o1 o m, sc, e => match e with
    | .Call (.Name x _) [a] [] _ => (match o1Call o with | some y => decide (x = y) | none => false) && fre G sc x && chkE N G m sc a && notStar a
    | .Call (.Name x _) [a, .Name y _] [] _ => decide (x = "isinstance") && fre G sc x && (match isiOf o with | some p => decide (y = p.2) | none => false) && fre G sc y && chkE N G m sc a && notStar a
    | .Compare a [.Is] [.Constant .none _ _] _ => (match o with | .isNone => true | _ => false) && chkE N G m sc a
    | .Compare a [.IsNot] [.Constant .none _ _] _ => (match o with | .notNone => true | _ => false) && chkE N G m sc a
    | .Subscript a (.Slice none none (some (.UnaryOp .USub (.Constant (.int j) _ _) _)) _) _ => (match o with | .rev => decide (j = 1) | _ => false) && chkE N G m sc a
    | _ => false
  | .o2 o m n, sc, e => match e with
    | .BinOp a op b _ => decide (binOf o = some op) && chkE N G m sc a && chkE N G n sc b
    | .Compare a [op] [b] _ => decide (cmpOf o = some op) && notSet b && chkE N G m sc a && chkE N G n sc b
    | .Subscript a b _ => (match o with | .ix => true | _ => false) && notSlice b && chkE N G m sc a && chkE N G n sc b
    | .Call (.Name x _) [a, b] [] _ => (match o2Call o with | some y => decide (x = y) | none => false) && fre G sc x && chkE N G m sc a && notStar a && chkE N G n sc b && notStar b
    | _ => false
  | .sm o m n, sc, e => match e with
    | .Call (.Attribute a x apos) [b] [] pos => (match o2Meth o with | some y => decide (x = y) | none => false) && attrOk a && (apos.endLine == pos.line) && chkE N G m sc a && chkE N G n sc b && notStar b
    | _ => false
  | .chain o o' m n k, sc, e => match e with
    | .Compare a [op, op'] [b, c] _ => decide (cmpOf o = some op) && decide (cmpOf o' = some op') && notSet b && notSet c && chkE N G m sc a && chkE N G n sc b && chkE N G k sc c
    | _ => false
  | .and ms, sc, e => match e with
    | .BoolOp .And es _ => chkEs N G ms sc es && !es.isEmpty
    | _ => false
  | .or ms, sc, e => match e with
    | .BoolOp .Or es _ => chkEs N G ms sc es && !es.isEmpty
    | _ => false
  | .not m, sc, e => match e with
    | .UnaryOp .Not a _ => chkE N G m sc a
    | _ => false
  | .ife m n k, sc, e => match e with
    | .IfExp c a b _ => chkE N G m sc c && chkE N G n sc a && chkE N G k sc b
    | _ => false
  | .call f ms, sc, e => match e with
    | .Call (.Name x _) es [] _ => decide (G.fns[f]? = some x) && glb sc x && nameOk x && !es.isEmpty && chkEs N G ms sc es
    | _ => false
  | .sl m lo hi, sc, e => match e with
    | .Subscript a (.Slice none none none _) _ => lo.isEmpty && hi.isEmpty && chkE N G m sc a
    | .Subscript a (.Slice (some l) none none _) _ => (decide (lo.length = 1)) && hi.isEmpty && chkE N G m sc a && chkEs N G lo sc [l]
    | .Subscript a (.Slice none (some h) none _) _ => lo.isEmpty && (decide (hi.length = 1)) && chkE N G m sc a && chkEs N G hi sc [h]
    | .Subscript a (.Slice (some l) (some h) none _) _ => (decide (lo.length = 1)) && (decide (hi.length = 1)) && chkE N G m sc a && chkEs N G lo sc [l] && chkEs N G hi sc [h]
    | _ => false
  | .dget m n k, sc, e => match e with
    | .Call (.Attribute a x apos) [b, f] [] pos => decide (x = "get") && attrOk a && (apos.endLine == pos.line) && chkE N G m sc a && chkE N G n sc b && notStar b && chkE N G k sc f && notStar f
    | _ => false
  | .lc elt tg ik ie cond own, sc, e => match e with
    | .ListComp x [⟨t, it, ifs, 0⟩] scope _ => blkC N sc scope (own.map fun (i : Nat) => ((N[i]?).getD ("" : Str), i)) && tgOk false N (relS scope sc) own tg t && notSet it && decide (cond.length = ifs.length) && decide (ifs.length ≤ 1) &&
        chkE N G elt (relS scope sc) x && chkEs N G cond (relS scope sc) ifs &&
        (match itArgs G sc ik tg it with
          | some es => chkEs N G ie sc es
          | none => false)
    | _ => false
  | .inOwn neg m i, sc, e => match e with
    | .Compare a [op] [.Name x _] _ => decide (op = if neg then .NotIn else .In) && chkE N G m sc a && decide (N[i]? = some x) && vis sc x && nameOk x
    | _ => false
  | .srt m, sc, e => match e with
    | .Call (.Name x _) [.Call (.Name y _) [a] [] _] [] _ => decide (x = "sorted") && fre G sc x && decide (y = "set") && fre G sc y && chkE N G m sc a && notStar a
    | _ => false
  | .minN m, sc, e => match e with
    | .Call (.Name x _) [a] [⟨some nm, .Constant .none _ _, _⟩] _ => decide (x = "min") && fre G sc x && decide (nm = "default") && chkE N G m sc a && notStar a
    | _ => false
  | .lm o m n, sc, e => match e with
    | .Call (.Attribute a x apos) [b] [] pos => (match o2LMeth o with | some y => decide (x = y) | none => false) && attrOk a && (apos.endLine == pos.line) && chkE N G m sc a && chkE N G n sc b && notStar b
    | _ => false
def chkEs (N : List Str) (G : GT) : List E → Scope → List Expr → Bool
  | [], _, es => es.isEmpty
  | m :: ms, sc, es => match es with
    | e :: es => chkE N G m sc e && notStar e && chkEs N G ms sc es
    | [] => false
end
end TL

namespace TL
open PySem L2 PyProof.Rows

/-- a reading by what is done -/
def tEf (K : KW) (dp : Nat) (W : WX) (cls : Nat → Value) (f : Env → Sto → R D) : TE := fun σ H Q => ∃ ω ρ st, Loc K ω dp ρ σ H ∧ StoOk K ω st H ∧
  Post K dp W cls σ ω H (f ρ st) fun d _ ω' H' => ∀ v, Rep K ω' H' d v → Q v H'
def tTf (K : KW) (dp : Nat) (W : WX) (cls : Nat → Value) (f : Env → Sto → R D) : TT := fun σ H Q => ∃ ω ρ st, Loc K ω dp ρ σ H ∧ StoOk K ω st H ∧
  Post K dp W cls σ ω H (f ρ st) fun d _ ω' H' => ∃ b, d = .bl b ∧ Q b H'
def SndE (N : List Str) (G : GT) (k : Nat) (C : Cal) (cls : Nat → Value) (dp : Nat) (m : E) : Prop := ∀ (X : Cx) (sc : Scope) (W : WX) (e : Expr), Cok X G k C cls N sc W → chkE N G m sc e = true → PE X e (tE X.kw C dp W cls m) ∧ PT X e (tT X.kw C dp W cls m)
def SndEs (N : List Str) (G : GT) (k : Nat) (C : Cal) (cls : Nat → Value) (dp : Nat) (ms : List E) : Prop := ∀ (X : Cx) (sc : Scope) (W : WX) (es : List Expr), Cok X G k C cls N sc W → chkEs N G ms sc es = true → PA X es (tEs X.kw C dp W cls ms) ∧ es.all notStar = true

section
variable {X : Cx} {N : List Str} {G : GT} {k : Nat} {C : Cal} {cls : Nat → Value} {dp : Nat} {sc : Scope} {W : WX} {e : Expr} {es : List Expr} {m a b : E} {ms : List E}
theorem pt_of {f : Env → Sto → R D} (h : PE X e (tEf X.kw dp W cls f)) (p : plainTest e = true) : PT X e (tTf X.kw dp W cls f) := by
  refine pt_imp (pt_val h (test_ok p X.env)) ?_
  rintro σ H Q ⟨ω, ρ, st, hl, hs, hp⟩
  refine ⟨ω, ρ, st, hl, hs, hp.mono ?_⟩
  rintro d st' ω' H' x s ⟨b, rfl, q⟩ v r
  exact ⟨b, r, q⟩
theorem both_of (h : PE X e (tE X.kw C dp W cls m)) (p : plainTest e = true) : PE X e (tE X.kw C dp W cls m) ∧ PT X e (tT X.kw C dp W cls m) := ⟨h, pt_of h p⟩
theorem units_of (c : Cok X G k C cls N sc W) : X.A.units + 65 < cLine := by have := c.room.un; omega

theorem snd_var (i : Nat) : SndE N G k C cls dp (.var i) := by
  intro X sc W e c h
  unfold chkE at h
  split at h
  · rename_i x pos
    simp only [Bool.and_eq_true, decide_eq_true_eq] at h
    have nm := nameOk_of h.2
    refine both_of (pe_imp (pe_var (X := X) (i := i) (by rw [c.hN]; exact h.1.1) (vis_of c.hsc h.1.2) nm.d nm.c) ?_) rfl
    rintro σ H Q ⟨ω, ρ, st, hl, hs, hp⟩
    unfold ev at hp
    split at hp
    · rename_i d hd
      split at hp
      · exact hp.elim
      · rename_i ho
        obtain ⟨v, e1, r⟩ := hl.at_ i d hd
        exact ⟨v, e1, hp ω H .refl hs v (r.rep (by simpa using ho))⟩
    · exact hp.elim
  · cases h
theorem snd_con (d : D) : SndE N G k C cls dp (.con d) := by
  intro X sc W e c h
  unfold chkE at h
  have fin : ∀ (v : V), (∀ ω H, Rep X.kw ω H d v) → PE X e (tC v) → PE X e (tE X.kw C dp W cls (.con d)) := fun v r h => pe_imp h (by
    rintro σ H Q ⟨ω, ρ, st, hl, hs, hp⟩
    unfold ev at hp
    exact hp ω H .refl hs v (r ω H))
  split at h
  · rename_i cc j pos
    cases d <;> cases cc <;> first | (simp [conOk] at h; done) | skip
    · exact both_of (fin .non (fun _ _ => rfl) pe_non) rfl
    · simp only [conOk, beq_iff_eq] at h
      subst h
      exact both_of (fin (.bl _) (fun _ _ => rfl) pe_bl) rfl
    · simp only [conOk, beq_iff_eq] at h
      subst h
      exact both_of (fin (.int _) (fun _ _ => rfl) pe_int) rfl
    · simp only [conOk, Bool.and_eq_true, decide_eq_true_eq] at h
      obtain ⟨h1, h2⟩ := h
      subst h1
      exact both_of (fin (.str _) (fun _ _ => ⟨rfl, h2⟩) pe_str) rfl
  · rename_i x pos
    simp only [Bool.and_eq_true] at h
    have nm := nameOk_of h.1.2
    cases q : G.consts.lookup x with
    | none => rw [q] at h; simp at h
    | some d' =>
      rw [q] at h
      have e1 := deq_eq _ _ h.2
      subst e1
      obtain ⟨u, v, hm, r, hr⟩ := c.cst x d' q
      exact both_of (fin v hr (pe_glob (glb_of c.hsc h.1.1) hm r nm.d)) rfl
  · rename_i j jj p1 p2
    cases d <;> first | (cases h; done) | skip
    simp only [decide_eq_true_eq] at h
    subst h
    refine both_of (pe_imp (pe_un un_neg pe_int) ?_) rfl
    rintro σ H Q ⟨ω, ρ, st, hl, hs, hp⟩
    unfold ev at hp
    exact ⟨j, rfl, hp ω H .refl hs _ rfl⟩
  · cases h

theorem snd_es : ∀ {ms : List E}, (∀ m ∈ ms, SndE N G k C cls dp m) → SndEs N G k C cls dp ms
  | [], _ => by
    intro X sc W es c h
    unfold chkEs at h
    have e : es = [] := by cases es <;> first | rfl | simp at h
    subst e
    refine ⟨pa_imp pa_nil ?_, rfl⟩
    rintro σ H Q ⟨ω, ρ, st, hl, hs, hp⟩
    unfold evs at hp
    exact hp ω H .refl hs [] rfl
  | m :: ms, hm => by
    intro X sc W es c h
    unfold chkEs at h
    cases es with
    | nil => cases h
    | cons e es =>
      simp only [Bool.and_eq_true] at h
      obtain ⟨h1, h2⟩ := snd_es (fun m h => hm m (List.mem_cons_of_mem _ h)) X sc W es c h.2
      refine ⟨pa_imp (pa_cons (hm m List.mem_cons_self X sc W e c h.1.1).1 h1 (star_of h.1.2 es X.env)) ?_, by rw [List.all_cons, h.1.2, h2]; rfl⟩
      rintro σ H Q ⟨ω, ρ, st, hl, hs, hp⟩
      unfold evs at hp
      refine ⟨ω, ρ, st, hl, hs, (Post.bind hp).mono fun d st1 ω1 H1 x1 s1 q1 v r1 => ⟨ω1, ρ, st1, hl.ext x1, s1, (Post.bind q1).mono fun ds st2 ω2 H2 x2 s2 q2 vs r2 => ?_⟩⟩
      exact q2 ω2 H2 .refl s2 (v :: vs) ⟨v, vs, rfl, r1.ext x2, r2⟩

theorem evs_length {C : Cal} : ∀ {ms : List E} {ρ : Env} {st st' : Sto} {ds : List D}, evs C ms ρ st = .ok ds st' → ds.length = ms.length
  | [], ρ, st, st', ds, h => by
    unfold evs at h
    cases h
    rfl
  | m :: ms, ρ, st, st', ds, h => by
    unfold evs at h
    cases q : ev C m ρ st with
    | ok d st1 =>
      rw [q] at h
      cases q2 : evs C ms ρ st1 with
      | ok ds2 st2 =>
        have h : (R.bind (evs C ms ρ st1) fun ds st => .ok (d :: ds) st) = .ok ds st' := h
        rw [q2] at h
        cases h
        rw [List.length_cons, List.length_cons, evs_length q2]
      | exc c st2 =>
        have h : (R.bind (evs C ms ρ st1) fun ds st => .ok (d :: ds) st) = .ok ds st' := h
        rw [q2] at h; cases h
      | fail =>
        have h : (R.bind (evs C ms ρ st1) fun ds st => .ok (d :: ds) st) = .ok ds st' := h
        rw [q2] at h; cases h
    | exc c st1 => rw [q] at h; cases h
    | fail => rw [q] at h; cases h
theorem chkEs_length : ∀ {ms : List E} {es : List Expr}, chkEs N G ms sc es = true → es.length = ms.length
  | [], es, h => by
    unfold chkEs at h
    cases es <;> first | rfl | simp at h
  | m :: ms, es, h => by
    unfold chkEs at h
    cases es with
    | nil => cases h
    | cons e es =>
      simp only [Bool.and_eq_true] at h
      rw [List.length_cons, List.length_cons, chkEs_length h.2]
/-- the length of what is told, too -/
theorem Post.len {ω : Wd} {H : Hp} {σ : L2.St} {K : KW} {ρ : Env} {st : Sto} {P : List D → Sto → Wd → Hp → Prop} (h : Post K dp W cls σ ω H (evs C ms ρ st) P) :
    Post K dp W cls σ ω H (evs C ms ρ st) fun ds st' ω' H' => ds.length = ms.length ∧ P ds st' ω' H' := by
  cases q : evs C ms ρ st with
  | ok ds st' =>
    rw [q] at h
    exact fun ω' H' x s => ⟨evs_length q, h ω' H' x s⟩
  | exc c st' => rw [q] at h; exact h
  | fail => rw [q] at h; exact h
theorem le_line {n : Nat} (h : n ≤ 1000) : n ≤ sizeLine := by rw [sizeLine_eq]; omega
theorem snd_tup (hm : ∀ m ∈ ms, SndE N G k C cls dp m) : SndE N G k C cls dp (.tup ms) := by
  intro X sc W e c h
  unfold chkE at h
  split at h
  · simp only [Bool.and_eq_true, decide_eq_true_eq] at h
    obtain ⟨h1, h2⟩ := snd_es hm X sc W _ c h.2
    have hl := chkEs_length h.2
    refine both_of (pe_imp (pe_tup h1) ?_) rfl
    rintro σ H Q ⟨ω, ρ, st, hl1, hs, hp⟩
    unfold ev at hp
    refine ⟨ω, ρ, st, hl1, hs, (Post.bind hp).len.mono fun ds st1 ω1 H1 x1 s1 ⟨ln, q1⟩ vs r1 => ⟨?_, fun p hp => ?_⟩⟩
    · rw [r1.length, ln, ← hl]
      exact le_line h.1
    · exact q1 ω1 (upd H1 p (.tup vs)) (.ofGrow s1 (same_new hp _)) (s1.grow (same_new hp _)) _ (rep_new_tup hp r1 (by rw [ln, ← hl]; exact le_line h.1))
  · cases h
theorem snd_lst (hm : ∀ m ∈ ms, SndE N G k C cls dp m) : SndE N G k C cls dp (.lst ms) := by
  intro X sc W e c h
  unfold chkE at h
  split at h
  · simp only [Bool.and_eq_true, decide_eq_true_eq] at h
    obtain ⟨h1, h2⟩ := snd_es hm X sc W _ c h.2
    have hl := chkEs_length h.2
    refine both_of (pe_imp (pe_lst h1) ?_) rfl
    rintro σ H Q ⟨ω, ρ, st, hl1, hs, hp⟩
    unfold ev at hp
    refine ⟨ω, ρ, st, hl1, hs, (Post.bind hp).len.mono fun ds st1 ω1 H1 x1 s1 ⟨ln, q1⟩ vs r1 => ⟨?_, fun p hp => ?_⟩⟩
    · rw [r1.length, ln, ← hl]
      exact le_line h.1
    · exact q1 ω1 (upd H1 p (.lst vs)) (.ofGrow s1 (same_new hp _)) (s1.grow (same_new hp _)) _ (rep_new_lst s1.trk hp r1 (by rw [ln, ← hl]; exact le_line h.1))
  · cases h

/-- an operator's reading -/
theorem rB_of {K : KW} {σ : L2.St} {ω : Wd} {H : Hp} {st : Sto} {g : D → D → Option D} {x y : D} {v w : V} {Q : VK} {P : D → Sto → Wd → Hp → Prop} (s : StoOk K ω st H) (rx : Rep K ω H x v) (ry : Rep K ω H y w)
    (h : Post K dp W cls σ ω H (R.lift st (g x y)) P) (i : ∀ d ω' H', Ext (dp + 1) ω H ω' H' → StoOk K ω' st H' → P d st ω' H' → ∀ v, Rep K ω' H' d v → Q v H') : rB K g v w H Q := by
  obtain ⟨d, e, q⟩ := Post.lift h
  exact ⟨ω, x, y, d, s.trk, rx, ry, e, fun H' v' gr r => i d ω H' (.ofGrow s gr) (s.grow gr) (q ω H' (.ofGrow s gr) (s.grow gr)) v' r⟩
theorem rC_of {K : KW} {σ : L2.St} {ω : Wd} {H : Hp} {st : Sto} {g : D → Option D} {x : D} {v : V} {Q : VK} {P : D → Sto → Wd → Hp → Prop} (s : StoOk K ω st H) (rx : Rep K ω H x v)
    (h : Post K dp W cls σ ω H (R.lift st (g x)) P) (i : ∀ d ω' H', Ext (dp + 1) ω H ω' H' → StoOk K ω' st H' → P d st ω' H' → ∀ v, Rep K ω' H' d v → Q v H') : rC K g [v] H Q := by
  obtain ⟨d, e, q⟩ := Post.lift h
  exact ⟨ω, x, d, s.trk, ⟨v, [], rfl, rx, rfl⟩, e, fun H' v' gr r => i d ω H' (.ofGrow s gr) (s.grow gr) (q ω H' (.ofGrow s gr) (s.grow gr)) v' r⟩

theorem o1_call {o : O1} {x : Str} (c : Cok X G k C cls N sc W) (h : o1Call o = some x) : (∃ id, bootBuiltins x = some (.builtin id) ∧ CallR X (.builtin id) (rC X.kw (o1 o))) ∨ ∃ T, bootBuiltins x = some (.type T) ∧ CallR X (.type T) (rC X.kw (o1 o)) := by
  cases o <;> cases h
  · exact .inl ⟨_, PySem.boot_len, cr_len⟩
  · exact .inr ⟨_, by decide +kernel, cr_tuple⟩
  · exact .inr ⟨_, by decide +kernel, cr_list⟩
  · exact .inl ⟨_, by decide +kernel, cr_dsum c.calm⟩
  · exact .inl ⟨_, by decide +kernel, cr_dall c.calm⟩
  · exact .inr ⟨_, by decide +kernel, cr_dint⟩
  · exact .inr ⟨_, by decide +kernel, cr_dstr⟩
  · exact .inl ⟨_, by decide +kernel, cr_dsorted⟩
  · exact .inl ⟨_, by decide +kernel, cr_dmax c.calm⟩
  · exact .inl ⟨_, by decide +kernel, cr_dmin c.calm⟩
structure Fre (X : Cx) (x : Str) : Prop where
  g : Gl X x
  m : X.mg x = none
  n : NameOk x
theorem fre_of {x : Str} (c : Cok X G k C cls N sc W) (h : fre G sc x = true) : Fre X x := by
  unfold fre at h
  simp only [Bool.and_eq_true, decide_eq_true_eq] at h
  exact ⟨glb_of c.hsc h.1.1, c.blt x h.1.2, nameOk_of h.2⟩
theorem isi_of {o : O1} {p : String × Str} (h : isiOf o = some p) : isO p.1 = some o ∧ bootBuiltins p.2 = some (.type p.1) := by
  cases o <;> cases h <;> exact ⟨rfl, by decide +kernel⟩
theorem boot_isinstance' : bootBuiltins "isinstance" = some (.builtin "isinstance") := by decide +kernel
theorem snd_o1 {o : O1} (hm : SndE N G k C cls dp m) : SndE N G k C cls dp (.o1 o m) := by
  intro X sc W e c h
  unfold chkE at h
  split at h
  · rename_i x p1 a p2
    simp only [Bool.and_eq_true] at h
    obtain ⟨⟨⟨h1, h2⟩, h3⟩, h4⟩ := h
    have F := fre_of c h2
    cases q : o1Call o with
    | none => rw [q] at h1; cases h1
    | some y =>
      rw [q] at h1
      have e1 : x = y := of_decide_eq_true h1
      subst e1
      have A : PA X [a] (tCons (tE X.kw C dp W cls m) tNil) := pa_cons (hm X sc W a c h3).1 pa_nil (star_of h4 [] X.env)
      have fin : ∀ σ H Q, tE X.kw C dp W cls (.o1 o m) σ H Q → tCB (rC X.kw (o1 o)) (tCons (tE X.kw C dp W cls m) tNil) σ H Q := by
        rintro σ H Q ⟨ω, ρ, st, hl, hs, hp⟩
        unfold ev at hp
        refine ⟨ω, ρ, st, hl, hs, (Post.bind hp).mono fun d st1 ω1 H1 x1 s1 q1 v r1 => ?_⟩
        exact rC_of s1 r1 q1 fun d ω' H' x' s' P => P
      rcases o1_call c q with ⟨id, hb, hc⟩ | ⟨T, hb, hc⟩
      · exact both_of (pe_imp (pe_callB hc F.g F.m hb A F.n.n F.n.d (star_of h4 [] X.env) rfl) fin) rfl
      · exact both_of (pe_imp (pe_callTy hc F.g F.m hb A F.n.n F.n.d (star_of h4 [] X.env) rfl) fin) rfl
  · rename_i x p1 a y p2 p3
    simp only [Bool.and_eq_true, decide_eq_true_eq] at h
    obtain ⟨⟨⟨⟨⟨h0, h1⟩, h2⟩, h3⟩, h4⟩, h5⟩ := h
    subst h0
    have F := fre_of c h1
    have F2 := fre_of c h3
    cases q : isiOf o with
    | none => rw [q] at h2; cases h2
    | some p =>
      rw [q] at h2
      have e1 : y = p.2 := of_decide_eq_true h2
      obtain ⟨i1, i2⟩ := isi_of q
      rw [← e1] at i2
      have B : PE X (.Name y p2) (tC (.ty p.1)) := pe_bltn F2.g F2.m i2 rfl F2.n.n F2.n.d
      have A : PA X [a, .Name y p2] (tCons (tE X.kw C dp W cls m) (tCons (tC (.ty p.1)) tNil)) := pa_cons (hm X sc W a c h4).1 (pa_cons B pa_nil rfl) (star_of h5 _ X.env)
      refine both_of (pe_imp (pe_callB (cr_isi i1) F.g F.m boot_isinstance' A F.n.n F.n.d (star_of h5 _ X.env) rfl) ?_) rfl
      rintro σ H Q ⟨ω, ρ, st, hl, hs, hp⟩
      unfold ev at hp
      refine ⟨ω, ρ, st, hl, hs, (Post.bind hp).mono fun d st1 ω1 H1 x1 s1 q1 v r1 => ?_⟩
      exact ⟨v, rfl, rC_of s1 r1 q1 fun d ω' H' x' s' P => P⟩
  · rename_i a j p1 p2
    simp only [Bool.and_eq_true] at h
    cases o <;> first | (simp at h; done) | skip
    have key : ∀ σ H Q, tE X.kw C dp W cls (.o1 .isNone m) σ H Q → tIsN (tE X.kw C dp W cls m) σ H Q := by
      rintro σ H Q ⟨ω, ρ, st, hl, hs, hp⟩
      unfold ev at hp
      refine ⟨ω, ρ, st, hl, hs, (Post.bind hp).mono fun d st1 ω1 H1 x1 s1 q1 v r1 => ?_⟩
      obtain ⟨d2, e2, q2⟩ := Post.lift q1
      have q3 := q2 ω1 H1 .refl s1
      cases d <;> first | (cases e2; done) | (cases e2; first | (cases r1; exact q3 _ rfl) | (obtain ⟨rfl, _⟩ := r1; exact q3 _ rfl) | (obtain ⟨_, a, vs, rfl, _⟩ := r1; exact q3 _ rfl) | (obtain ⟨a, _, rfl⟩ := r1; exact q3 _ rfl) | exact r1.elim)
    refine ⟨pe_imp (pe_cmp (pc_isN (hm X sc W a c h.2).1) (set_ok rfl)) key, pt_imp (pt_cmp (pc_isN (hm X sc W a c h.2).1) (set_ok rfl)) ?_⟩
    rintro σ H Q ⟨ω, ρ, st, hl, hs, hp⟩
    refine key σ H _ ⟨ω, ρ, st, hl, hs, hp.mono ?_⟩
    rintro d st' ω' H' x s ⟨b, rfl, q⟩ v r
    exact ⟨b, r, q⟩
  · rename_i a j p1 p2
    simp only [Bool.and_eq_true] at h
    cases o <;> first | (simp at h; done) | skip
    have key : ∀ σ H Q, tE X.kw C dp W cls (.o1 .notNone m) σ H Q → tNotN (tE X.kw C dp W cls m) σ H Q := by
      rintro σ H Q ⟨ω, ρ, st, hl, hs, hp⟩
      unfold ev at hp
      refine ⟨ω, ρ, st, hl, hs, (Post.bind hp).mono fun d st1 ω1 H1 x1 s1 q1 v r1 => ?_⟩
      obtain ⟨d2, e2, q2⟩ := Post.lift q1
      have q3 := q2 ω1 H1 .refl s1
      cases d <;> first | (cases e2; done) | (cases e2; first | (cases r1; exact q3 _ rfl) | (obtain ⟨rfl, _⟩ := r1; exact q3 _ rfl) | (obtain ⟨_, a, vs, rfl, _⟩ := r1; exact q3 _ rfl) | (obtain ⟨a, _, rfl⟩ := r1; exact q3 _ rfl) | exact r1.elim)
    refine ⟨pe_imp (pe_cmp (pc_notN (hm X sc W a c h.2).1) (set_ok rfl)) key, pt_imp (pt_cmp (pc_notN (hm X sc W a c h.2).1) (set_ok rfl)) ?_⟩
    rintro σ H Q ⟨ω, ρ, st, hl, hs, hp⟩
    refine key σ H _ ⟨ω, ρ, st, hl, hs, hp.mono ?_⟩
    rintro d st' ω' H' x s ⟨b, rfl, q⟩ v r
    exact ⟨b, r, q⟩
  · rename_i a j jj p1 p2 p3 p4
    simp only [Bool.and_eq_true] at h
    cases o <;> first | (simp at h; done) | skip
    simp only [decide_eq_true_eq] at h
    obtain ⟨rfl, h2⟩ := h
    refine both_of (pe_imp (pe_back (hm X sc W a c h2).1) ?_) rfl
    rintro σ H Q ⟨ω, ρ, st, hl, hs, hp⟩
    unfold ev at hp
    refine ⟨ω, ρ, st, hl, hs, (Post.bind hp).mono fun d st1 ω1 H1 x1 s1 q1 v r1 => ?_⟩
    obtain ⟨d2, e2, q2⟩ := Post.lift q1
    cases d <;> first | (cases e2; done) | skip
    cases e2
    obtain ⟨ln, a2, vs, rfl, sq, rs⟩ := r1
    refine ⟨a2, vs, rfl, sq, fun p hp => ?_⟩
    exact q2 ω1 _ (.ofGrow s1 (same_new hp _)) (s1.grow (same_new hp _)) _ (rep_new_tup hp rs.reverse (by rw [List.length_reverse]; exact ln))
  · cases h
/-- min(xs, default=None), whole numbers -/
theorem minOf_int : ∀ (ys : List Int) (y : Int), (PySem.W.minOf y ys = y ∨ PySem.W.minOf y ys ∈ ys) ∧ PySem.W.minOf y ys ≤ y ∧ ∀ z ∈ ys, PySem.W.minOf y ys ≤ z
  | [], y => ⟨.inl rfl, Int.le_refl _, fun _ h => nomatch h⟩
  | x :: ys, y => by
    have e : PySem.W.minOf y (x :: ys) = PySem.W.minOf (if decide (x < y) = true then x else y) ys := rfl
    obtain ⟨a, b, c⟩ := minOf_int ys (if decide (x < y) = true then x else y)
    rw [e]
    by_cases h : x < y
    · rw [if_pos (decide_eq_true h)] at a b c ⊢
      refine ⟨.inr (a.elim (fun a => by rw [a]; exact List.mem_cons_self ..) fun a => List.mem_cons_of_mem _ a), by omega, fun z hz => ?_⟩
      rcases List.mem_cons.mp hz with rfl | hz
      · exact b
      · exact c z hz
    · rw [if_neg (by simpa using h)] at a b c ⊢
      refine ⟨a.imp id (List.mem_cons_of_mem _), b, fun z hz => ?_⟩
      rcases List.mem_cons.mp hz with rfl | hz
      · omega
      · exact c z hz
def rMinD (K : PySem.W.Frag) : List V → List V → Hp → VK → Prop := fun vs zs H Q => ∃ a ns, vs = [V.ref a] ∧ zs = [V.non] ∧ SqL K H a (ns.map V.int) ∧ (ns = [] → Q .non H) ∧ (∀ m ∈ ns, (∀ y ∈ ns, m ≤ y) → Q (.int m) H)
theorem cr_minD {X : Cx} (hc : X.calm = true) (hu : X.A.units + 65 < cLine) : CallRK X (.builtin "min") [Str.ofString "default"] (rMinD X.K) := by
  intro pins s σ H vs zs us ws Q I r rz h
  obtain ⟨a, ns, rfl, rfl, hs, q0, q⟩ := h
  obtain rfl := Vals.ref1 r
  obtain ⟨w1, rfl, e1⟩ := vals1 rz
  obtain rfl : w1 = Value.none := e1
  obtain ⟨its, rv, hl, _⟩ := I.list hs
  have ha : PySem.W.HoldAll (α := Int) s.heap its.toArray.toList ns := PySem.W.HoldAll.of_ints (vs := its) rv.ints
  refine PySem.W.min_list_datum_default (α := Int) (xs := ns) (I.ok.hd hc) hl.isList ha (by show X.A.units + 1 + 0 < cLine; omega) (fun e h' tk hk => ⟨.non, H, I.kept hk, rfl, q0 e⟩) fun y ys i v h' tk e hi hm hk => ?_
  obtain ⟨t, rfl⟩ := PySem.W.int_of_holds hm
  obtain ⟨m1, m2, m3⟩ := minOf_int ys y
  refine ⟨.int _, H, I.kept hk, ⟨t, rfl⟩, q _ ?_ fun z hz => ?_⟩
  · rw [e]
    rcases m1 with m1 | m1
    · rw [m1]; exact List.mem_cons_self ..
    · exact List.mem_cons_of_mem _ m1
  · rw [e] at hz
    rcases List.mem_cons.mp hz with rfl | hz
    · exact m2
    · exact m3 z hz
theorem boot_sorted' : bootBuiltins "sorted" = some (.builtin "sorted") := by decide +kernel
theorem boot_set' : bootBuiltins "set" = some (.type "set") := by decide +kernel
theorem boot_min5 : bootBuiltins "min" = some (.builtin "min") := PyProof.Rows.boot_min
theorem snd_minN (hm : SndE N G k C cls dp m) : SndE N G k C cls dp (.minN m) := by
  intro X sc W e c h
  unfold chkE at h
  split at h
  · rename_i x p1 a nm j p2 p3 p4
    simp only [Bool.and_eq_true, decide_eq_true_eq] at h
    obtain ⟨⟨⟨⟨rfl, h1⟩, rfl⟩, h3⟩, h4⟩ := h
    have F := fre_of c h1
    have A : PA X [a] (tCons (tE X.kw C dp W cls m) tNil) := pa_cons (hm X sc W a c h3).1 pa_nil (star_of h4 [] X.env)
    have Kw : PK X [⟨some (Str.ofString "default"), .Constant .none j p2, p3⟩] (tCons (tC .non) tNil) := pk_cons pe_non pk_nil
    refine both_of (pe_imp (pe_callBK (cr_minD (X := X) c.calm (units_of c)) F.g F.m boot_min5 A Kw F.n.n F.n.d (by rw [star_of h4 [] X.env]; rfl) (by rw [star_of h4 [] X.env]; rfl)) ?_) rfl
    rintro σ H Q ⟨ω, ρ, st, hl, hs, hp⟩
    unfold ev at hp
    refine ⟨ω, ρ, st, hl, hs, (Post.bind hp).mono fun d st1 ω1 H1 x1 s1 q1 v r1 => ?_⟩
    obtain ⟨z, e, q⟩ := Post.lift q1
    cases d <;> first | (cases e; done) | skip
    rename_i ds
    cases e1 : intsOf ds with
    | none => simp [o1, e1] at e
    | some ns =>
      simp only [o1, e1, Option.map] at e
      obtain ⟨l1, a1, vs, rfl, s1', w1, r1⟩ := r1
      have z' := reps_ints e1 r1
      subst z'
      refine ⟨a1, ns, rfl, rfl, SqL.of s1', fun hn => ?_, fun m hm hy => ?_⟩
      · rw [if_pos hn] at e
        cases e
        exact q ω1 H1 .refl s1 _ rfl
      · have hn : ns ≠ [] := List.ne_nil_of_mem hm
        rw [if_neg hn] at e
        cases e
        obtain ⟨h1, h2⟩ := TL.minL_mem hn
        have : m = minL ns := Int.le_antisymm (hy _ h1) (h2 m hm)
        rw [this]
        exact q ω1 H1 .refl s1 _ rfl
  · cases h
theorem snd_srt (hm : SndE N G k C cls dp m) : SndE N G k C cls dp (.srt m) := by
  intro X sc W e c h
  unfold chkE at h
  split at h
  · rename_i x p1 y p2 a p3 p4
    simp only [Bool.and_eq_true, decide_eq_true_eq] at h
    obtain ⟨⟨⟨⟨⟨rfl, h1⟩, rfl⟩, h2⟩, h3⟩, h4⟩ := h
    have F := fre_of c h1
    have F2 := fre_of c h2
    have A : PA X [a] (tCons (tE X.kw C dp W cls m) tNil) := pa_cons (hm X sc W a c h3).1 pa_nil (star_of h4 [] X.env)
    have B := pe_callTy (TStr.cr_setS (X := X) c.calm) F2.g F2.m boot_set' A F2.n.n F2.n.d (star_of h4 [] X.env) rfl (pos := p3) (p := p2)
    refine both_of (pe_imp (pe_callB (TStr.cr_sortS (X := X) c.calm) F.g F.m boot_sorted' (pa_cons B pa_nil rfl) F.n.n F.n.d rfl rfl) ?_) rfl
    rintro σ H Q ⟨ω, ρ, st, hl, hs, hp⟩
    unfold ev at hp
    refine ⟨ω, ρ, st, hl, hs, (Post.bind hp).mono fun d st1 ω1 H1 x1 s1 q1 v r1 => ?_⟩
    obtain ⟨z, e, q⟩ := Post.lift q1
    exact srt_of (X := X) s1.trk r1 e fun H' v' gr r => q ω1 H' (.ofGrow s1 gr) (s1.grow gr) v' r
  · cases h
end
end TL

namespace TL
open PySem L2 PyProof.Rows

mutual
theorem nk_depth : ∀ d : D, hsb d = true → (nk d).depth = d.py.depth
  | .non, _ => rfl
  | .int _, _ => rfl
  | .str _, _ => rfl
  | .tup ds, h => by
    simp only [hsb] at h
    simp only [nk, NestedKey.depth, D.py, PyData.depth]
    rw [nks_depth ds h]
  | .bl _, h => by cases h
  | .lst _, h => by cases h
  | .fls _, h => by cases h
  | .dic _, h => by cases h
  | .ref _, h => by cases h
  | .clo _ _, h => by cases h
  | .mlst _, h => by cases h
  | .mset _, h => by cases h
  | .mdic _, h => by cases h
  | .ins _ _, h => by cases h
theorem nks_depth : ∀ ds : List D, hsbs ds = true → NestedKey.depthAll (nks ds) = PyData.depthAll (pys ds)
  | [], _ => rfl
  | d :: ds, h => by
    simp only [hsbs, Bool.and_eq_true] at h
    simp only [nks, NestedKey.depthAll, pys, PyData.depthAll]
    rw [nk_depth d h.1, nks_depth ds h.2]
end
mutual
theorem nk_eqv : ∀ a b : D, hsb a = true → hsb b = true → PyData.eqv a.py b.py = NestedKey.beq (nk a) (nk b)
  | .non, b, _, h => by cases b <;> first | (cases h; done) | rfl
  | .int _, b, _, h => by cases b <;> first | (cases h; done) | (simp only [D.py, nk, PyData.eqv, NestedKey.beq]; apply Bool.eq_iff_iff.mpr; simp) | (simp [D.py, nk, PyData.eqv, NestedKey.beq])
  | .str _, b, _, h => by cases b <;> first | (cases h; done) | (simp only [D.py, nk, PyData.eqv, NestedKey.beq]; apply Bool.eq_iff_iff.mpr; simp) | (simp [D.py, nk, PyData.eqv, NestedKey.beq])
  | .tup as, b, h1, h => by
    cases b <;> first | (cases h; done) | (simp [D.py, nk, PyData.eqv, NestedKey.beq]; done) | skip
    rename_i bs
    simp only [hsb] at h1 h
    simp only [D.py, nk, PyData.eqv, NestedKey.beq]
    exact nks_eqv as bs h1 h
  | .bl _, _, h, _ => by cases h
  | .lst _, _, h, _ => by cases h
  | .fls _, _, h, _ => by cases h
  | .dic _, _, h, _ => by cases h
  | .ref _, _, h, _ => by cases h
  | .clo _ _, _, h, _ => by cases h
  | .mlst _, _, h, _ => by cases h
  | .mset _, _, h, _ => by cases h
  | .mdic _, _, h, _ => by cases h
  | .ins _ _, _, h, _ => by cases h
theorem nks_eqv : ∀ as bs : List D, hsbs as = true → hsbs bs = true → PyData.eqvAll (pys as) (pys bs) = NestedKey.beqAll (nks as) (nks bs)
  | [], [], _, _ => rfl
  | [], _ :: _, _, _ => rfl
  | _ :: _, [], _, _ => rfl
  | a :: as, b :: bs, h1, h2 => by
    simp only [hsbs, Bool.and_eq_true] at h1 h2
    simp only [pys, nks, PyData.eqvAll, NestedKey.beqAll]
    rw [nk_eqv a b h1.1 h2.1, nks_eqv as bs h1.2 h2.2]
end
theorem isKey_tup {d : D} (h : isKey d = true) : ∃ ds, d = .tup ds := by
  unfold isKey at h
  cases d <;> first | exact ⟨_, rfl⟩ | (simp at h)
theorem isKey_hsb {d : D} (h : isKey d = true) : hsb d = true ∧ (nk d).depth ≤ 8 := by
  unfold isKey at h
  simp only [Bool.and_eq_true, decide_eq_true_eq] at h
  exact ⟨h.1.2, by rw [nk_depth d h.1.2]; exact h.2⟩
section
variable {X : Cx} {pins : List (Addr × Obj)} {σ : L2.St} {H : Hp} {s : Shared} {ω : Wd}
mutual
theorem nested_of (I : Inv X pins σ H s) : ∀ (d : D) (v : V) (u : Value), hsb d = true → Rep X.kw ω H d v → RelV v u → NestedIs s.heap (nk d) u
  | .non, v, u, _, r, ru => by rw [show v = .non from r] at ru; cases (show u = Value.none from ru); exact .none
  | .int i, v, u, _, r, ru => by
    rw [show v = .int i from r] at ru
    obtain ⟨t, rfl⟩ := (show ∃ t, u = Value.int i t from ru)
    exact .int _ _
  | .str x, v, u, _, r, ru => by
    rw [show v = .str x from r.1] at ru
    obtain ⟨t, rfl⟩ := (show ∃ t, u = Value.str x t from ru)
    exact .text _ _
  | .tup ds, v, u, h, r, ru => by
    obtain ⟨_, a, vs, rfl, q, rs⟩ := r
    cases (show u = Value.ref a from ru)
    obtain ⟨its, rv, ⟨o, e1, e2, n, e3⟩, _⟩ := I.tuple q
    exact .tup e1 e2 e3 (nesteds_of I ds vs _ h rs (by simpa using rv))
  | .bl _, _, _, h, _, _ => by cases h
  | .lst _, _, _, h, _, _ => by cases h
  | .fls _, _, _, h, _, _ => by cases h
  | .dic _, _, _, h, _, _ => by cases h
  | .ref _, _, _, h, _, _ => by cases h
  | .clo _ _, _, _, h, _, _ => by cases h
  | .mlst _, _, _, h, _, _ => by cases h
  | .mset _, _, _, h, _, _ => by cases h
  | .mdic _, _, _, h, _, _ => by cases h
  | .ins _ _, _, _, h, _, _ => by cases h
theorem nesteds_of (I : Inv X pins σ H s) : ∀ (ds : List D) (vs : List V) (us : List Value), hsbs ds = true → Reps X.kw ω H ds vs → Vals vs us → NestedAll s.heap (nks ds) us
  | [], vs, us, _, r, ru => by
    rw [show vs = [] from r] at ru
    cases ru
    exact .nil
  | d :: ds, vs, us, h, r, ru => by
    obtain ⟨v, r', rfl, r1, r2⟩ := r
    simp only [hsbs, Bool.and_eq_true] at h
    cases ru with
    | cons p q => exact .cons (nested_of I d v _ h.1 r1 p) (nesteds_of I ds r' _ h.2 r2 q)
end
theorem key_is (I : Inv X pins σ H s) {d : D} {b : Addr} (h : isKey d = true) (r : Rep X.kw ω H d (.ref b)) : (nestedKind X.prog X.w).is s.heap (nk d) b :=
  ⟨nested_of I d (.ref b) (.ref b) (isKey_hsb h).1 r rfl, (isKey_hsb h).2⟩
/-- the dict, as the library tells it -/
def full (xs : List (NestedKey × Addr)) : List (NestedKey × Addr × Value) := xs.map fun x => (x.1, x.2, .bool true)
theorem full_entry {xs : List (NestedKey × Addr)} : (full xs).map (entryOfKey (nestedKind X.prog X.w)) = xs.map (fun x => (⟨x.1.hash X.w, .ref x.2, .bool true⟩ : DictEntry)) := by
  unfold full
  rw [List.map_map]
  rfl
theorem full_keys {xs : List (NestedKey × Addr)} : (full xs).map (·.1) = xs.map (·.1) := by
  unfold full
  rw [List.map_map]
  rfl
theorem keysR_is (I : Inv X pins σ H s) : ∀ {ds : List D} {xs : List (NestedKey × Addr)}, KeysR X.kw ω H ds xs → ∀ x ∈ full xs, (nestedKind X.prog X.w).is s.heap x.1 x.2.1
  | [], xs, h, x, hx => by
    rw [show xs = [] from h] at hx
    cases hx
  | d :: ds, xs, h, x, hx => by
    obtain ⟨b, r, rfl, i, h1, h2⟩ := h
    rcases List.mem_cons.mp (show x ∈ (nk d, b, Value.bool true) :: full r from hx) with rfl | hx
    · exact key_is I i h1
    · exact keysR_is I h2 x hx
theorem mset_dict (I : Inv X pins σ H s) {a : Addr} {ds : List D} {xs : List (NestedKey × Addr)} (e : H a = some (msetO X.w a xs)) (h : KeysR X.kw ω H ds xs) : (a == sysModules) = false ∧ s.heap.DictOfH (nestedKind X.prog X.w) a (full xs) := by
  obtain ⟨⟨hm, o, es, ep, h1, h2, h3, h4, h5⟩, _⟩ := (show ObjOk X.prog X.w H s.heap a (msetO X.w a xs) from I.hok a _ e)
  exact ⟨hm, o, es, ep, h1, h2, h3, by rw [full_entry]; exact h4, keysR_is I h, by rw [full_keys]; exact h5⟩
theorem keysR_len : ∀ {ds : List D} {xs : List (NestedKey × Addr)}, KeysR X.kw ω H ds xs → xs.length = ds.length
  | [], xs, h => by rw [show xs = [] from h]; rfl
  | d :: ds, xs, h => by
    obtain ⟨b, r, rfl, i, h1, h2⟩ := h
    rw [List.length_cons, List.length_cons, keysR_len h2]
theorem atKey_any {x : D} (hx : isKey x = true) : ∀ {ds : List D} {xs : List (NestedKey × Addr)}, KeysR X.kw ω H ds xs → (atKey (full xs) (nk x)).isSome = ds.any fun y => y.eqv x
  | [], xs, h => by rw [show xs = [] from h]; rfl
  | d :: ds, xs, h => by
    obtain ⟨b, r, rfl, i, h1, h2⟩ := h
    have ih := atKey_any hx h2
    have e : d.eqv x = NestedKey.beq (nk d) (nk x) := nk_eqv d x (isKey_hsb i).1 (isKey_hsb hx).1
    rw [List.any_cons, e, ← ih, ← NestedKey.decide_eq]
    show (atKey ((nk d, b, Value.bool true) :: full r) (nk x)).isSome = _
    unfold atKey
    rw [List.find?_cons]
    by_cases q : nk d = nk x
    · simp [q]
    · simp [q]
theorem mset_ok {P : Program} {w : World} {H' : Hp} {h' : Heap} {a : Addr} {xs : List (NestedKey × Addr)} (hm : (a == sysModules) = false) (d : h'.DictOfH (nestedKind P w) a (full xs)) : ObjOk P w H' h' a (msetO w a xs) := by
  obtain ⟨o, es, ep, h1, h2, h3, h4, _, h5⟩ := d
  refine ⟨⟨hm, o, es, ep, h1, h2, h3, ?_, ?_⟩, ⟨o, h1⟩, ?_⟩
  · rw [h4]
    unfold full
    rw [List.map_map]
    rfl
  · have : (full xs).map (·.1) = xs.map (·.1) := by
      unfold full
      rw [List.map_map]
      rfl
    rw [← this]
    exact h5
  · rintro h1 h2 ⟨z, o, es, ep, q1, q2⟩ k
    exact ⟨z, o, es, ep, k _ q1, q2⟩
/-- x in d -/
def rMset (K : KW) (neg : Bool) : R2 := fun x y H Q => ∃ (ω : Wd) (d : D) (ds : List D) (a b : Addr) (xs : List (NestedKey × Addr)), x = .ref b ∧ y = .ref a ∧ Rep K ω H d (.ref b) ∧ isKey d = true ∧ H a = some (msetO K.w a xs) ∧ KeysR K ω H ds xs ∧
  Q (.bl (if neg then !(ds.any fun y => y.eqv d) else ds.any fun y => y.eqv d)) H
theorem room_mset {A : Around} (hu : A.units + 65 < cLine) : (nestedKind X.prog X.w).room A.in1 := by
  show A.units + 1 + 8 < cLine
  omega
theorem op_inMset (hu : X.A.units + 65 < cLine) : OpR X (compareOp .In) (rMset X.kw false) := by
  intro pins s σ H x y v u Q I rx ry h
  obtain ⟨ω, d, ds, a, b, xs, rfl, rfl, rd, ik, ha, kr, q⟩ := h
  cases rx
  cases ry
  obtain ⟨hm, dd⟩ := mset_dict I ha kr
  refine wpAny_in_heap (room_mset hu) (key_is I ik rd) hm dd ?_
  rw [atKey_any ik kr]
  exact ⟨.bl _, H, I.tok _, rfl, q⟩
theorem op_notInMset (hu : X.A.units + 65 < cLine) : OpR X (compareOp .NotIn) (rMset X.kw true) := by
  intro pins s σ H x y v u Q I rx ry h
  obtain ⟨ω, d, ds, a, b, xs, rfl, rfl, rd, ik, ha, kr, q⟩ := h
  cases rx
  cases ry
  obtain ⟨hm, dd⟩ := mset_dict I ha kr
  refine wpAny_notIn_heap (room_mset hu) (key_is I ik rd) hm dd ?_
  rw [atKey_any ik kr]
  exact ⟨.bl _, H, I.tok _, rfl, q⟩
/-- d[x] = True -/
def tSetM (K : KW) : TSet := fun o i v H Q => ∃ (ω : Wd) (d : D) (ds : List D) (a b : Addr) (xs : List (NestedKey × Addr)), o = .ref a ∧ i = .ref b ∧ v = .bl true ∧ Rep K ω H d (.ref b) ∧ isKey d = true ∧ H a = some (msetO K.w a xs) ∧ KeysR K ω H ds xs ∧ ds.length < sizeLine ∧
  Q (upd H a (msetO K.w a (if (ds.any fun y => y.eqv d) = true then xs else xs ++ [(nk d, b)])))
theorem put_same {xs : List (NestedKey × Addr)} {k : NestedKey} : (full xs).map (putAt k (.bool true)) = full xs := by
  unfold full
  rw [List.map_map]
  refine List.map_congr_left fun x _ => ?_
  show putAt k (Value.bool true) (x.1, x.2, Value.bool true) = _
  unfold putAt
  split <;> rfl
theorem pset_mset (hu : X.A.units + 65 < cLine) : PSet X (tSetM X.kw) := by
  intro pins s σ H o i v ov iv u Q I ro ri rv h
  obtain ⟨ω, d, ds, a, b, xs, rfl, rfl, rfl, rd, ik, ha, kr, hl, q⟩ := h
  cases ro
  cases ri
  cases rv
  obtain ⟨hm, dd⟩ := mset_dict I ha kr
  have hz : (full xs).length ≤ sizeLine := by
    unfold full
    rw [List.length_map, keysR_len kr]
    exact Nat.le_of_lt hl
  have e : storedH (full xs) (nk d) b (.bool true) = full (if (ds.any fun y => y.eqv d) = true then xs else xs ++ [(nk d, b)]) := by
    unfold storedH
    rw [atKey_any ik kr]
    split
    · exact put_same
    · unfold full
      rw [List.map_append]
      rfl
  refine wpAny_setItem_heap (hsz := hz) (room_mset hu) (key_is I ik rd) dd fun h' dd' hs => ⟨_, ?_, q⟩
  rw [e] at dd'
  have he : ∃ q, h'.get? a = some q := let ⟨q, _, _, hq, _⟩ := dd'; ⟨q, hq⟩
  exact d_write I (by rw [ha]; exact True.intro) hs he (mset_ok hm dd')
theorem mset_empty {P : Program} {w : World} {H : Hp} (h : Heap) (hb : sysModules < h.objs.size) : ObjOk P w H (h.push { cls := .type "dict", data := .dict #[] }) h.objs.size (msetO w h.objs.size []) :=
  mset_ok (by
    rw [beq_eq_false_iff_ne]
    intro e
    rw [e] at hb
    exact Nat.lt_irrefl _ hb) (.new h)
/-- {k: True} -/
def tDispM (K : KW) (tk : TE) : TE := fun σ H Q => ∀ p, H p = none → tk σ (upd H p (msetO K.w p [])) fun x H1 => ∃ (ω : Wd) (d : D) (b : Addr), x = .ref b ∧ Rep K ω H1 d (.ref b) ∧ isKey d = true ∧ H1 p = some (msetO K.w p []) ∧ Q (.ref p) (upd H1 p (msetO K.w p [(nk d, b)]))
theorem pe_dispM {pos p2 : Pos} {j : Nat} {kx : Expr} {tk : TE} (hu : X.A.units + 65 < cLine) (hk : PE X kx tk) : PE X (.Dict [some kx] [.Constant (.bool true) j p2] pos) (tDispM X.kw tk) := by
  refine ⟨fun pins s σ H Q I q => ?_⟩
  have hn := I.hok.fresh (Nat.le_refl s.heap.objs.size)
  have I1 := I.laid (a := s.heap.objs.size) (o := msetO X.w s.heap.objs.size []) (h' := s.heap.push { cls := .type "dict", data := .dict #[] }) (t' := s.toks) (fun _ _ q => Heap.get?_push_of_some _ q) (Nat.le_refl _) (mset_empty s.heap I.big)
  have hshape := zip_pairTrees [some kx] [.Constant (.bool true) j p2] X.env pos rfl rfl
  rw [arm_eval_Dict, hshape, dictDisplay_pairs (pairTrees [some kx] [.Constant (.bool true) j p2] X.env pos) (by simp [pairTrees]) (by simp [pairTrees])]
  refine wpAny_bind (wpAny_standAt (wpAny_bind (wpAny_subDictH (knd := nestedKind X.prog X.w) (Q := fun d s' => wpAny (model X.prog X.w) X.A (pure (Value.ref d)) (EP X pins σ Q) X.xe s') (by show X.A.units + 8 < cLine; omega) (by simp [pairTrees]) ?_)))
  refine pairTrees_cons_walk (thn (hk.run pins _ σ _ _ I1 (q _ hn)) fun v s1 ⟨x, H1, I2, rx, q1⟩ => Constant_bool (pairTrees_nil_walk ?_))
  obtain ⟨ω, d, b, rfl, rd, ik, hp, q2⟩ := q1
  cases rx
  obtain ⟨hm, dd⟩ := mset_dict (ω := ω) (ds := []) I2 hp rfl
  refine ⟨[(nk d, b, .bool true)], ⟨rfl, rfl, key_is I2 ik rd, trivial⟩, dd, fun h' tk dd' hs => wpAny_pure ⟨.ref s.heap.objs.size, _, ?_, rfl, q2⟩⟩
  have he : ∃ q, h'.get? s.heap.objs.size = some q := let ⟨q, _, _, hq, _⟩ := dd'; ⟨q, hq⟩
  exact d_write I2 (by rw [hp]; exact True.intro) hs he (mset_ok hm dd')
end
end TL

namespace TL
open PySem L2 PyProof.Rows
section
variable {X : Cx} {N : List Str} {G : GT} {k : Nat} {C : Cal} {cls : Nat → Value} {dp : Nat} {sc : Scope} {W : WX} {e : Expr} {es : List Expr} {m n l a b : E} {ms : List E}
theorem op_bin {o : O2} {op : Operator} (h : binOf o = some op) : OpR X (binaryOp op) (rB X.kw (o2 o)) := by
  cases o <;> cases h
  · exact op_dAdd
  · exact op_dSub
  · exact op_dMul
  · exact op_dDiv
  · exact op_dMod
theorem op_cmp {o : O2} {op : CmpOp} (c : Cok X G k C cls N sc W) (h : cmpOf o = some op) : OpR X (compareOp op) (rB X.kw (o2 o)) := by
  have u := units_of c
  cases o <;> cases h
  · exact op_dEq (by omega)
  · exact op_dNe (by omega)
  · exact op_dLt
  · exact op_dLe
  · exact op_dGt
  · exact op_dGe
  · exact op_dIn u
  · exact op_dNotIn u
  · exact op_dIsB
  · exact op_dIsNotB
theorem op_ix (hu : X.A.units + 65 < cLine) : IxR X (rB X.kw (o2 .ix)) := op_dIx hu
/-- two expressions, an operation of their values -/
theorem tOp_of {o : O2} {σ : L2.St} {H : Hp} {Q : VK} (h : tE X.kw C dp W cls (.o2 o m n) σ H Q) : tOp (rB X.kw (o2 o)) (tE X.kw C dp W cls m) (tE X.kw C dp W cls n) σ H Q := by
  obtain ⟨ω, ρ, st, hl, hs, hp⟩ := h
  unfold ev at hp
  refine ⟨ω, ρ, st, hl, hs, (Post.bind hp).mono fun x st1 ω1 H1 x1 s1 q1 v r1 => ⟨ω1, ρ, st1, hl.ext x1, s1, (Post.bind q1).mono fun y st2 ω2 H2 x2 s2 q2 w r2 => ?_⟩⟩
  exact rB_of s2 (r1.ext x2) r2 q2 fun d ω' H' x' s' P => P
theorem tTest_of {t : TE} {σ : L2.St} {H : Hp} {Q : Bool → Hp → Prop} (h : tT X.kw C dp W cls m σ H Q) (i : ∀ σ H Q, tE X.kw C dp W cls m σ H Q → t σ H Q) : t σ H fun x H' => ∃ k, x = .bl k ∧ Q k H' := by
  refine i σ H _ ?_
  obtain ⟨ω, ρ, st, hl, hs, hp⟩ := h
  refine ⟨ω, ρ, st, hl, hs, hp.mono ?_⟩
  rintro d st' ω' H' x s ⟨b, rfl, q⟩ v r
  exact ⟨b, r, q⟩
theorem boot_max' : bootBuiltins "max" = some (.builtin "max") := PyProof.Rows.boot_max
theorem boot_min' : bootBuiltins "min" = some (.builtin "min") := PyProof.Rows.boot_min
theorem snd_o2 {o : O2} (hm : SndE N G k C cls dp m) (hn : SndE N G k C cls dp n) : SndE N G k C cls dp (.o2 o m n) := by
  intro X sc W e c h
  unfold chkE at h
  split at h
  · simp only [Bool.and_eq_true, decide_eq_true_eq] at h
    exact both_of (pe_imp (pe_op (op_bin h.1.1) (hm X sc W _ c h.1.2).1 (hn X sc W _ c h.2).1) fun σ H Q q => tOp_of q) rfl
  · simp only [Bool.and_eq_true, decide_eq_true_eq] at h
    have A := (hm X sc W _ c h.1.2).1
    have B := (hn X sc W _ c h.2).1
    exact ⟨pe_imp (pe_cmpR (op_cmp c h.1.1.1) A B (set_ok h.1.1.2)) fun σ H Q q => tOp_of q, pt_imp (pt_cmpR (op_cmp c h.1.1.1) A B (set_ok h.1.1.2)) fun σ H Q q => tTest_of q fun σ H Q => tOp_of⟩
  · simp only [Bool.and_eq_true, decide_eq_true_eq] at h
    obtain ⟨⟨⟨h1, h2⟩, h3⟩, h4⟩ := h
    cases o <;> first | (simp at h1; done) | skip
    exact both_of (pe_imp (pe_ix (op_ix (units_of c)) (hm X sc W _ c h3).1 (hn X sc W _ c h4).1 (slice_ok h2)) fun σ H Q q => tOp_of q) rfl
  · rename_i x p1 a b p2
    simp only [Bool.and_eq_true, decide_eq_true_eq] at h
    obtain ⟨⟨⟨⟨⟨h1, h2⟩, h3⟩, h4⟩, h5⟩, h6⟩ := h
    have F := fre_of c h2
    have P : PA X [a, b] (tCons (tE X.kw C dp W cls m) (tCons (tE X.kw C dp W cls n) tNil)) := pa_cons (hm X sc W _ c h3).1 (pa_cons (hn X sc W _ c h5).1 pa_nil (star_of h6 [] X.env)) (star_of h4 _ X.env)
    have sb : (backTo p2 (starEach [b] X.env)).any (·.1) = false := stars_of (by rw [List.all_cons, h6]; rfl)
    have fin : ∀ σ H Q, tE X.kw C dp W cls (.o2 o m n) σ H Q → tCB (rC2 X.kw (o2 o)) (tCons (tE X.kw C dp W cls m) (tCons (tE X.kw C dp W cls n) tNil)) σ H Q := by
      rintro σ H Q ⟨ω, ρ, st, hl, hs, hp⟩
      unfold ev at hp
      refine ⟨ω, ρ, st, hl, hs, (Post.bind hp).mono fun x st1 ω1 H1 x1 s1 q1 v r1 => ⟨ω1, ρ, st1, hl.ext x1, s1, (Post.bind q1).mono fun y st2 ω2 H2 x2 s2 q2 w r2 => ?_⟩⟩
      obtain ⟨d, e, q⟩ := Post.lift q2
      exact ⟨ω2, x, y, d, s2.trk, ⟨v, _, rfl, r1.ext x2, w, _, rfl, r2, rfl⟩, e, fun H' v' gr r => q ω2 H' (.ofGrow s2 gr) (s2.grow gr) v' r⟩
    cases o <;> first | (simp [o2Call] at h1; done) | skip
    · simp only [o2Call, decide_eq_true_eq] at h1
      subst h1
      exact both_of (pe_imp (pe_callB (cr_dmax2 c.calm) F.g F.m boot_max' P F.n.n F.n.d (star_of h4 _ X.env) sb) fin) rfl
    · simp only [o2Call, decide_eq_true_eq] at h1
      subst h1
      exact both_of (pe_imp (pe_callB (cr_dmin2 c.calm) F.g F.m boot_min' P F.n.n F.n.d (star_of h4 _ X.env) sb) fin) rfl
  · cases h
theorem snd_sm {o : O2} (hm : SndE N G k C cls dp m) (hn : SndE N G k C cls dp n) : SndE N G k C cls dp (.sm o m n) := by
  intro X sc W e c h
  unfold chkE at h
  split at h
  · rename_i a x apos b pos
    simp only [Bool.and_eq_true] at h
    obtain ⟨⟨⟨⟨⟨h1, h2⟩, h3⟩, h4⟩, h5⟩, h6⟩ := h
    have P : PA X [b] (tCons (tE X.kw C dp W cls n) tNil) := pa_cons (hn X sc W _ c h5).1 pa_nil (star_of h6 [] X.env)
    have few : ((backTo pos (starEach [b] X.env)).all (fun x => !x.1) && (backToKw pos (keywordEach [] X.env)).all (fun x => x.1.isSome)
      && decide (([b] : List Expr).length + ([] : List Keyword).length + (if ([] : List Keyword).isEmpty then 0 else 1) < 30)) = true := by
      rw [star_of h6 [] X.env]; rfl
    have fin : ∀ σ H Q, tE X.kw C dp W cls (.sm o m n) σ H Q → tBM X.kw "str" (rM X.kw (o2 o)) (tE X.kw C dp W cls m) (tCons (tE X.kw C dp W cls n) tNil) σ H Q := by
      rintro σ H Q ⟨ω, ρ, st, hl, hs, hp⟩
      unfold ev at hp
      refine ⟨ω, ρ, st, hl, hs, (Post.bind hp).mono fun x st1 ω1 H1 x1 s1 q1 v r1 => ?_⟩
      cases x <;> first | exact q1.elim | skip
      rename_i z
      have ev' : v = .str z := r1.1
      refine ⟨by rw [ev']; exact rfl, ω1, ρ, st1, hl.ext x1, s1, (Post.bind q1).mono fun y st2 ω2 H2 x2 s2 q2 w r2 => ?_⟩
      obtain ⟨d, e, q⟩ := Post.lift q2
      exact ⟨ω2, _, y, d, s2.trk, r1.ext x2, ⟨w, _, rfl, r2, rfl⟩, e, fun H' v' gr r => q ω2 H' (.ofGrow s2 gr) (s2.grow gr) v' r⟩
    cases o <;> first | (simp [o2Meth] at h1; done) | skip
    · simp only [o2Meth, decide_eq_true_eq] at h1
      subst h1
      exact both_of (pe_imp (pe_bm PySem.F.plainAttrs_str PySem.F.slot_str_join PySem.F.type_str_join mt_dJoin (hm X sc W _ c h4).1 P (attr_ok h2 _ _) few h3 (star_of h6 [] X.env) rfl) fin) rfl
    · simp only [o2Meth, decide_eq_true_eq] at h1
      subst h1
      exact both_of (pe_imp (pe_bm PySem.F.plainAttrs_str PySem.F.slot_str_split PySem.F.type_str_split mt_dSplit (hm X sc W _ c h4).1 P (attr_ok h2 _ _) few h3 (star_of h6 [] X.env) rfl) fin) rfl
  · cases h
theorem snd_lm {o : O2} (hm : SndE N G k C cls dp m) (hn : SndE N G k C cls dp n) : SndE N G k C cls dp (.lm o m n) := by
  intro X sc W e c h
  unfold chkE at h
  split at h
  · rename_i a x apos b pos
    simp only [Bool.and_eq_true] at h
    obtain ⟨⟨⟨⟨⟨h1, h2⟩, h3⟩, h4⟩, h5⟩, h6⟩ := h
    have P : PA X [b] (tCons (tE X.kw C dp W cls n) tNil) := pa_cons (hn X sc W _ c h5).1 pa_nil (star_of h6 [] X.env)
    have few : ((backTo pos (starEach [b] X.env)).all (fun x => !x.1) && (backToKw pos (keywordEach [] X.env)).all (fun x => x.1.isSome)
      && decide (([b] : List Expr).length + ([] : List Keyword).length + (if ([] : List Keyword).isEmpty then 0 else 1) < 30)) = true := by
      rw [star_of h6 [] X.env]; rfl
    have fin : ∀ σ H Q, tE X.kw C dp W cls (.lm o m n) σ H Q → tBM X.kw "list" (rM X.kw (o2 o)) (tE X.kw C dp W cls m) (tCons (tE X.kw C dp W cls n) tNil) σ H Q := by
      rintro σ H Q ⟨ω, ρ, st, hl, hs, hp⟩
      unfold ev at hp
      refine ⟨ω, ρ, st, hl, hs, (Post.bind hp).mono fun x st1 ω1 H1 x1 s1 q1 v r1 => ?_⟩
      cases x <;> first | exact q1.elim | skip
      rename_i z
      have r1' := r1
      obtain ⟨_, ad, vs, rfl, sq, wr, rs⟩ := r1'
      refine ⟨.inl ⟨rfl, _, SqL.of sq⟩, ω1, ρ, st1, hl.ext x1, s1, (Post.bind q1).mono fun y st2 ω2 H2 x2 s2 q2 w r2 => ?_⟩
      obtain ⟨d, e, q⟩ := Post.lift q2
      exact ⟨ω2, _, y, d, s2.trk, r1.ext x2, ⟨w, _, rfl, r2, rfl⟩, e, fun H' v' gr r => q ω2 H' (.ofGrow s2 gr) (s2.grow gr) v' r⟩
    have u := units_of c
    cases o <;> first | (simp [o2LMeth] at h1; done) | skip
    · simp only [o2LMeth, decide_eq_true_eq] at h1
      subst h1
      exact both_of (pe_imp (pe_bm PySem.F.plainAttrs_list PySem.F.slot_list_index PySem.F.type_list_index (mt_dIndex u) (hm X sc W _ c h4).1 P (attr_ok h2 _ _) few h3 (star_of h6 [] X.env) rfl) fin) rfl
  · cases h
theorem snd_chain {o o' : O2} (hm : SndE N G k C cls dp m) (hn : SndE N G k C cls dp n) (hl : SndE N G k C cls dp l) : SndE N G k C cls dp (.chain o o' m n l) := by
  intro X sc W e c h
  unfold chkE at h
  split at h
  · rename_i a op op' b c' pos
    simp only [Bool.and_eq_true, decide_eq_true_eq] at h
    obtain ⟨⟨⟨⟨⟨⟨h1, h2⟩, h3⟩, h4⟩, h5⟩, h6⟩, h7⟩ := h
    have A := (hm X sc W _ c h5).1
    have B := (hn X sc W _ c h6).1
    have D := (hl X sc W _ c h7).1
    have lm : lastMarks [op, op'] [b, c'] = false := set_ok h4
    have key : ∀ σ H Q, tE X.kw C dp W cls (.chain o o' m n l) σ H Q → tChain (rB X.kw (o2 o)) (rB X.kw (o2 o')) (tE X.kw C dp W cls m) (tE X.kw C dp W cls n) (tE X.kw C dp W cls l) σ H Q := by
      rintro σ H Q ⟨ω, ρ, st, hl, hs, hp⟩
      unfold ev at hp
      refine ⟨ω, ρ, st, hl, hs, (Post.bind hp).mono fun x st1 ω1 H1 x1 s1 q1 v r1 => ⟨ω1, ρ, st1, hl.ext x1, s1, (Post.bind q1).mono fun y st2 ω2 H2 x2 s2 q2 w r2 => ?_⟩⟩
      unfold R.bool at q2
      refine rB_of s2 (r1.ext x2) r2 (Post.bind q2) ?_
      intro d ω3 H3 x3 s3 q3 z rz
      cases d <;> first | exact q3.elim | skip
      rename_i kk
      refine ⟨kk, rz, ?_⟩
      cases kk with
      | true =>
        rw [if_pos rfl]
        refine ⟨ω3, ρ, st2, (hl.ext x1).ext (x2.trans x3), s3, (Post.bind q3).mono fun u st4 ω4 H4 x4 s4 q4 t r4 => ?_⟩
        exact rB_of s4 (r2.ext (x3.trans x4)) r4 q4 fun d ω' H' x' s' P => P
      | false =>
        rw [if_neg Bool.false_ne_true]
        exact q3 ω3 H3 .refl s3 _ rfl
    exact ⟨pe_imp (pe_chain (op_cmp c h1) (op_cmp c h2) A B D lm) key, pt_imp (pt_chain (op_cmp c h1) (op_cmp c h2) A B D lm) fun σ H Q q => tTest_of q key⟩
  · cases h

theorem Post.bool {σ : L2.St} {ω : Wd} {H : Hp} {K : KW} {r : R D} {f : Bool → Sto → R D} {P : D → Sto → Wd → Hp → Prop} (h : Post K dp W cls σ ω H (r.bool f) P) :
    Post K dp W cls σ ω H r fun d st1 ω1 H1 => ∃ b, d = .bl b ∧ Post K dp W cls σ ω1 H1 (f b st1) P := by
  unfold R.bool at h
  refine (Post.bind h).mono ?_
  intro d st1 ω1 H1 x s q
  cases d <;> first | exact q.elim | skip
  exact ⟨_, rfl, q⟩
theorem pw_of {f : Env → Sto → R D} {pos : Pos} {op : BoolOp} (h : PT X e (tTf X.kw dp W cls f)) (hw : ∀ {t : TT}, PT X e t → PW X (.BoolOp op [e] pos) t) : PW X (.BoolOp op [e] pos) (tTf X.kw dp W cls f) := hw h
theorem snd_and (hm : ∀ m ∈ ms, SndE N G k C cls dp m) : ∀ (es : List Expr) (pos : Pos), Cok X G k C cls N sc W → chkEs N G ms sc es = true → es ≠ [] →
    PE X (.BoolOp .And es pos) (tEf X.kw dp W cls fun ρ st => evAnd C ms ρ st) ∧ PW X (.BoolOp .And es pos) (tTf X.kw dp W cls fun ρ st => evAnd C ms ρ st) := by
  induction ms with
  | nil =>
    intro es pos c h n
    unfold chkEs at h
    exact absurd (List.isEmpty_iff.mp h) n
  | cons m ms ih =>
    intro es pos c h n
    unfold chkEs at h
    cases es with
    | nil => cases h
    | cons e es =>
      simp only [Bool.and_eq_true] at h
      obtain ⟨A, B⟩ := hm m List.mem_cons_self X sc W e c h.1.1
      cases ms with
      | nil =>
        have h2 := h.2
        unfold chkEs at h2
        have e1 := List.isEmpty_iff.mp h2
        subst e1
        refine ⟨pe_imp (pe_one A) ?_, ?_⟩
        · rintro σ H Q ⟨ω, ρ, st, hl, hs, hp⟩
          unfold evAnd at hp
          exact ⟨ω, ρ, st, hl, hs, hp⟩
        · refine ⟨fun whole pins s σ H Q I q => (pw_and1 B).run whole pins s σ H Q I ?_⟩
          obtain ⟨ω, ρ, st, hl, hs, hp⟩ := q
          unfold evAnd at hp
          exact ⟨ω, ρ, st, hl, hs, hp⟩
      | cons m2 ms =>
        cases es with
        | nil =>
          have h2 := h.2
          unfold chkEs at h2
          cases h2
        | cons e2 es =>
          obtain ⟨A2, B2⟩ := ih (fun m h => hm m (List.mem_cons_of_mem _ h)) (e2 :: es) pos c h.2 (by simp)
          refine ⟨pe_imp (pe_and A A2) ?_, ?_⟩
          · rintro σ H Q ⟨ω, ρ, st, hl, hs, hp⟩
            unfold evAnd at hp
            refine ⟨ω, ρ, st, hl, hs, (Post.bool hp).mono ?_⟩
            rintro d st1 ω1 H1 x1 s1 ⟨b, rfl, q1⟩ v r
            refine ⟨b, r, ?_⟩
            cases b with
            | true => exact ⟨ω1, ρ, st1, hl.ext x1, s1, q1⟩
            | false => exact q1 ω1 H1 .refl s1 _ rfl
          · refine ⟨fun whole pins s σ H Q I q => (pw_and B B2).run whole pins s σ H Q I ?_⟩
            obtain ⟨ω, ρ, st, hl, hs, hp⟩ := q
            unfold evAnd at hp
            refine ⟨ω, ρ, st, hl, hs, (Post.bool hp).mono ?_⟩
            rintro d st1 ω1 H1 x1 s1 ⟨b, rfl, q1⟩
            refine ⟨b, rfl, ?_⟩
            cases b with
            | true => exact ⟨ω1, ρ, st1, hl.ext x1, s1, q1⟩
            | false =>
              obtain ⟨b', e', q'⟩ := q1 ω1 H1 .refl s1
              cases e'
              exact q'
theorem snd_or (hm : ∀ m ∈ ms, SndE N G k C cls dp m) : ∀ (es : List Expr) (pos : Pos), Cok X G k C cls N sc W → chkEs N G ms sc es = true → es ≠ [] →
    PE X (.BoolOp .Or es pos) (tEf X.kw dp W cls fun ρ st => evOr C ms ρ st) ∧ PW X (.BoolOp .Or es pos) (tTf X.kw dp W cls fun ρ st => evOr C ms ρ st) := by
  induction ms with
  | nil =>
    intro es pos c h n
    unfold chkEs at h
    exact absurd (List.isEmpty_iff.mp h) n
  | cons m ms ih =>
    intro es pos c h n
    unfold chkEs at h
    cases es with
    | nil => cases h
    | cons e es =>
      simp only [Bool.and_eq_true] at h
      obtain ⟨A, B⟩ := hm m List.mem_cons_self X sc W e c h.1.1
      cases ms with
      | nil =>
        have h2 := h.2
        unfold chkEs at h2
        have e1 := List.isEmpty_iff.mp h2
        subst e1
        refine ⟨pe_imp (pe_one A) ?_, ?_⟩
        · rintro σ H Q ⟨ω, ρ, st, hl, hs, hp⟩
          unfold evOr at hp
          exact ⟨ω, ρ, st, hl, hs, hp⟩
        · refine ⟨fun whole pins s σ H Q I q => (pw_or1 B).run whole pins s σ H Q I ?_⟩
          obtain ⟨ω, ρ, st, hl, hs, hp⟩ := q
          unfold evOr at hp
          exact ⟨ω, ρ, st, hl, hs, hp⟩
      | cons m2 ms =>
        cases es with
        | nil =>
          have h2 := h.2
          unfold chkEs at h2
          cases h2
        | cons e2 es =>
          obtain ⟨A2, B2⟩ := ih (fun m h => hm m (List.mem_cons_of_mem _ h)) (e2 :: es) pos c h.2 (by simp)
          refine ⟨pe_imp (pe_or A A2) ?_, ?_⟩
          · rintro σ H Q ⟨ω, ρ, st, hl, hs, hp⟩
            unfold evOr at hp
            refine ⟨ω, ρ, st, hl, hs, (Post.bool hp).mono ?_⟩
            rintro d st1 ω1 H1 x1 s1 ⟨b, rfl, q1⟩ v r
            refine ⟨b, r, ?_⟩
            cases b with
            | false => exact ⟨ω1, ρ, st1, hl.ext x1, s1, q1⟩
            | true => exact q1 ω1 H1 .refl s1 _ rfl
          · refine ⟨fun whole pins s σ H Q I q => (pw_or B B2).run whole pins s σ H Q I ?_⟩
            obtain ⟨ω, ρ, st, hl, hs, hp⟩ := q
            unfold evOr at hp
            refine ⟨ω, ρ, st, hl, hs, (Post.bool hp).mono ?_⟩
            rintro d st1 ω1 H1 x1 s1 ⟨b, rfl, q1⟩
            refine ⟨b, rfl, ?_⟩
            cases b with
            | false => exact ⟨ω1, ρ, st1, hl.ext x1, s1, q1⟩
            | true =>
              obtain ⟨b', e', q'⟩ := q1 ω1 H1 .refl s1
              cases e'
              exact q'
theorem snd_andE (hm : ∀ m ∈ ms, SndE N G k C cls dp m) : SndE N G k C cls dp (.and ms) := by
  intro X sc W e c h
  unfold chkE at h
  split at h
  · simp only [Bool.and_eq_true] at h
    obtain ⟨A, B⟩ := snd_and hm _ _ c h.1 (fun z => by rw [z] at h; simp at h)
    refine ⟨pe_imp A ?_, pt_imp B.pt ?_⟩
    · rintro σ H Q ⟨ω, ρ, st, hl, hs, hp⟩
      unfold ev at hp
      exact ⟨ω, ρ, st, hl, hs, hp⟩
    · rintro σ H Q ⟨ω, ρ, st, hl, hs, hp⟩
      unfold ev at hp
      exact ⟨ω, ρ, st, hl, hs, hp⟩
  · cases h
theorem snd_orE (hm : ∀ m ∈ ms, SndE N G k C cls dp m) : SndE N G k C cls dp (.or ms) := by
  intro X sc W e c h
  unfold chkE at h
  split at h
  · simp only [Bool.and_eq_true] at h
    obtain ⟨A, B⟩ := snd_or hm _ _ c h.1 (fun z => by rw [z] at h; simp at h)
    refine ⟨pe_imp A ?_, pt_imp B.pt ?_⟩
    · rintro σ H Q ⟨ω, ρ, st, hl, hs, hp⟩
      unfold ev at hp
      exact ⟨ω, ρ, st, hl, hs, hp⟩
    · rintro σ H Q ⟨ω, ρ, st, hl, hs, hp⟩
      unfold ev at hp
      exact ⟨ω, ρ, st, hl, hs, hp⟩
  · cases h
theorem snd_not (hm : SndE N G k C cls dp m) : SndE N G k C cls dp (.not m) := by
  intro X sc W e c h
  unfold chkE at h
  split at h
  · obtain ⟨A, B⟩ := hm X sc W _ c h
    refine ⟨pe_imp (pe_not A) ?_, pt_imp (pt_not B) ?_⟩
    · rintro σ H Q ⟨ω, ρ, st, hl, hs, hp⟩
      unfold ev at hp
      refine ⟨ω, ρ, st, hl, hs, (Post.bool hp).mono ?_⟩
      rintro d st1 ω1 H1 x1 s1 ⟨b, rfl, q1⟩ v r
      exact ⟨b, r, q1 ω1 H1 .refl s1 _ rfl⟩
    · rintro σ H Q ⟨ω, ρ, st, hl, hs, hp⟩
      unfold ev at hp
      refine ⟨ω, ρ, st, hl, hs, (Post.bool hp).mono ?_⟩
      rintro d st1 ω1 H1 x1 s1 ⟨b, rfl, q1⟩
      obtain ⟨b', e', q'⟩ := q1 ω1 H1 .refl s1
      cases e'
      exact ⟨b, rfl, q'⟩
  · cases h
theorem isTrue_ife {f : Expr} {pos : Pos} {tc ta tb : TT} {a b : Expr} (hc : PT X f tc) (ha : PT X a ta) (hb : PT X b tb) : PT X (.IfExp f a b pos) (fun σ H Q => tc σ H fun d H1 => if d = true then ta σ H1 Q else tb σ H1 Q) := by
  refine ⟨fun pins s σ H Q I h => ?_⟩
  show wpAny _ _ (do if ← isTrue f X.env (eval f X.env) then isTrue a X.env (eval a X.env) else isTrue b X.env (eval b X.env)) _ _ _
  refine wpAny_bind (thn (hc.run pins s σ H _ I h) fun d s1 ⟨H1, I1, q1⟩ => ?_)
  cases d with
  | true =>
    rw [if_pos rfl]
    exact ha.run pins s1 σ H1 Q I1 q1
  | false =>
    rw [if_neg Bool.false_ne_true]
    exact hb.run pins s1 σ H1 Q I1 q1
theorem snd_ife (hm : SndE N G k C cls dp m) (hn : SndE N G k C cls dp n) (hl : SndE N G k C cls dp l) : SndE N G k C cls dp (.ife m n l) := by
  intro X sc W e c h
  unfold chkE at h
  split at h
  · simp only [Bool.and_eq_true] at h
    obtain ⟨A, B⟩ := hm X sc W _ c h.1.1
    obtain ⟨A1, B1⟩ := hn X sc W _ c h.1.2
    obtain ⟨A2, B2⟩ := hl X sc W _ c h.2
    refine ⟨pe_imp (pe_ifExp B A1 A2) ?_, pt_imp (isTrue_ife B B1 B2) ?_⟩
    · rintro σ H Q ⟨ω, ρ, st, hl, hs, hp⟩
      unfold ev at hp
      refine ⟨ω, ρ, st, hl, hs, (Post.bool hp).mono ?_⟩
      rintro d st1 ω1 H1 x1 s1 ⟨b, rfl, q1⟩
      refine ⟨b, rfl, ?_⟩
      cases b with
      | true => exact ⟨ω1, ρ, st1, hl.ext x1, s1, q1⟩
      | false => exact ⟨ω1, ρ, st1, hl.ext x1, s1, q1⟩
    · rintro σ H Q ⟨ω, ρ, st, hl, hs, hp⟩
      unfold ev at hp
      refine ⟨ω, ρ, st, hl, hs, (Post.bool hp).mono ?_⟩
      rintro d st1 ω1 H1 x1 s1 ⟨b, rfl, q1⟩
      refine ⟨b, rfl, ?_⟩
      cases b with
      | true => exact ⟨ω1, ρ, st1, hl.ext x1, s1, q1⟩
      | false => exact ⟨ω1, ρ, st1, hl.ext x1, s1, q1⟩
  · cases h

theorem snd_call {f : Nat} (hm : ∀ m ∈ ms, SndE N G k C cls dp m) : SndE N G k C cls dp (.call f ms) := by
  intro X sc W e c h
  unfold chkE at h
  split at h
  · rename_i x p es pos
    simp only [Bool.and_eq_true, decide_eq_true_eq] at h
    obtain ⟨⟨⟨⟨h1, h2⟩, h3⟩, h4⟩, h5⟩ := h
    obtain ⟨A, B⟩ := snd_es hm X sc W es c h5
    obtain ⟨fa, fd, ps, F, hmg, kp, hb⟩ := c.fns f x h1
    have nm := nameOk_of h3
    cases es with
    | nil => simp at h4
    | cons e es =>
      rw [List.all_cons, Bool.and_eq_true] at B
      refine both_of (pe_imp (pe_callS F c.room (glb_of c.hsc h2) hmg kp hb (fun σ => passAt c.tk σ) A nm.d (star_of B.1 es X.env) (stars_of B.2)) ?_) rfl
      rintro σ H Q ⟨ω, ρ, st, hl, hs, hp⟩
      unfold ev at hp
      refine ⟨ω, ρ, st, hl, hs, (Post.bind hp).mono fun ds st1 ω1 H1 x1 s1 q1 vs r1 => ?_⟩
      refine ⟨ω1, st1, ds, dp + 1, s1, r1, ?_⟩
      revert q1
      cases C f ds st1 with
      | ok d st2 => exact fun q1 ω2 v H2 x2 s2 r2 => q1 ω2 H2 x2 s2 v r2
      | exc cc st2 => exact fun q1 ω2 H2 x2 s2 => q1 ω2 H2 x2 s2
      | fail => exact fun q1 => q1
  · cases h
end
end TL

namespace TL
open PySem L2 PyProof.Rows
section
variable {X : Cx} {N : List Str} {G : GT} {k : Nat} {C : Cal} {cls : Nat → Value} {dp : Nat} {sc : Scope} {W : WX} {e : Expr} {es : List Expr} {m n l a b : E} {ms : List E}
theorem cut_reps {K : KW} {ω : Wd} {H : Hp} {ds : List D} {vs : List V} (r : Reps K ω H ds vs) (lo hi : Option Int) : Reps K ω H (cutD ds lo hi) (cutV vs lo hi) := by
  unfold cutD cutV
  rw [r.length]
  exact Reps.take _ (Reps.drop _ r)
theorem cutD_le {α : Type} (xs : List α) (lo hi : Option Int) : (cutD xs lo hi).length ≤ xs.length := by
  unfold cutD
  rw [List.length_take, List.length_drop]
  omega
theorem cutD_whole {α : Type} {xs : List α} {lo hi : Option Int} (h : HT.sIx xs.length 0 lo = 0 ∧ HT.sIx xs.length xs.length hi = xs.length) : cutD xs lo hi = xs := by
  unfold cutD
  rw [h.1, h.2]
  simp
theorem sl_dCut : SlR X (fun x lo hi H Q => ∃ (ω : Wd) (a d : D), (∀ a, ω.wr a ≠ none → H a ≠ none) ∧ Rep X.kw ω H a x ∧ dCut a lo hi = some d ∧ ∀ H' v, Same H H' → Rep X.kw ω H' d v → Q v H') := by
  have h := (sl_tupA (X := X)).or ((sl_list (X := X)).or (sl_str (X := X)))
  intro pins s σ H x v vl vu lo hi sl Q I rx hs pl pu q0
  refine h pins s σ H x v vl vu lo hi sl Q I rx hs pl pu ?_
  obtain ⟨ω, a, d, tr, ra, e, q⟩ := q0
  unfold dCut at e
  split at e
  · cases e
    obtain ⟨l1, a1, vs, rfl, s1, r1⟩ := ra
    refine .inl ⟨a1, vs, rfl, s1, fun w => ?_, fun w p hp => ?_⟩
    · rw [r1.length] at w
      rw [cutD_whole w] at q
      exact q H _ same_refl ⟨l1, a1, vs, rfl, s1, r1⟩
    · exact q _ _ (same_new hp _) (rep_new_tup hp (cut_reps r1 _ _) (Nat.le_trans (cutD_le _ _ _) l1))
  · cases e
    obtain ⟨l1, a1, vs, rfl, s1, w1, r1⟩ := ra
    refine .inr (.inl ⟨a1, vs, rfl, SqL.of s1, fun p hp => ?_⟩)
    exact q _ _ (same_new hp _) (rep_new_lst tr hp (cut_reps r1 _ _) (Nat.le_trans (cutD_le _ _ _) l1))
  · cases e
    obtain ⟨rfl, l1⟩ := ra
    refine .inr (.inr ⟨_, rfl, l1, q H _ same_refl ⟨?_, ?_⟩⟩)
    · unfold cutS cutD
      rw [Array.length_toList]
      rfl
    · show (List.toArray (cutD _ lo hi)).size ≤ sizeLine
      rw [List.size_toArray]
      refine Nat.le_trans (cutD_le _ _ _) ?_
      rw [Array.length_toList]
      exact l1
  · cases e
/-- a part of a slice -/
def tPartE (K : KW) (C : Cal) (dp : Nat) (W : WX) (cls : Nat → Value) (ms : List E) : TO := fun σ H Q => ∃ ω ρ st, Loc K ω dp ρ σ H ∧ StoOk K ω st H ∧
  Post K dp W cls σ ω H ((evs C ms ρ st).bind fun l st => R.lift st (optI l)) fun o _ ω' H' => Q o H'
theorem po_imp {o : Option Expr} {t t' : TO} (h : PO X o t) (i : ∀ σ H Q, t' σ H Q → t σ H Q) : PO X o t' := ⟨fun pins s σ H Q I q => h.run pins s σ H Q I (i σ H Q q)⟩
theorem po_nil' : PO X none (tPartE X.kw C dp W cls []) := po_imp po_none (by
  rintro σ H Q ⟨ω, ρ, st, hl, hs, hp⟩
  unfold evs at hp
  exact hp ω H .refl hs)
theorem po_one' (h : PE X e (tE X.kw C dp W cls m)) : PO X (some e) (tPartE X.kw C dp W cls [m]) := po_imp (po_some h) (by
  rintro σ H Q ⟨ω, ρ, st, hl, hs, hp⟩
  unfold evs at hp
  refine ⟨ω, ρ, st, hl, hs, (Post.bind (Post.bind hp)).mono fun d st1 ω1 H1 x1 s1 q1 v r1 => ?_⟩
  unfold evs at q1
  have q1 : ∀ ω' H', Ext (dp + 1) ω1 H1 ω' H' → StoOk X.kw ω' st1 H' → Post X.kw dp W cls σ ω' H' (R.lift st1 (optI [d])) _ := q1
  obtain ⟨o, eo, q2⟩ := Post.lift (q1 ω1 H1 .refl s1)
  unfold optI at eo
  split at eo
  · rename_i z; cases z
  · rename_i z; cases z; cases eo
    exact ⟨_, r1, q2 ω1 H1 .refl s1⟩
  · cases eo)
theorem bind_assoc' {α β γ : Type} (r : R α) (f : α → Sto → R β) (g : β → Sto → R γ) : (r.bind f).bind g = r.bind fun a st => (f a st).bind g := by cases r <;> rfl
theorem snd_sl_core {lo hi : List E} {p2 pos : Pos} {el eh : Option Expr} {x : Expr} (A : PE X x (tE X.kw C dp W cls m)) (L : PO X el (tPartE X.kw C dp W cls lo)) (U : PO X eh (tPartE X.kw C dp W cls hi)) :
    PE X (.Subscript x (.Slice el eh none p2) pos) (tE X.kw C dp W cls (.sl m lo hi)) := by
  refine pe_imp (pe_slice sl_dCut A L U) ?_
  rintro σ H Q ⟨ω, ρ, st, hl, hs, hp⟩
  unfold ev at hp
  refine ⟨ω, ρ, st, hl, hs, (Post.bind hp).mono fun d st1 ω1 H1 x1 s1 q1 v r1 => ⟨ω1, ρ, st1, hl.ext x1, s1, ?_⟩⟩
  rw [← bind_assoc'] at q1
  refine (Post.bind q1).mono fun l st2 ω2 H2 x2 s2 q2 => ⟨ω2, ρ, st2, (hl.ext x1).ext x2, s2, ?_⟩
  rw [← bind_assoc'] at q2
  refine (Post.bind q2).mono fun u st3 ω3 H3 x3 s3 q3 => ?_
  obtain ⟨z, ez, q⟩ := Post.lift q3
  exact ⟨ω3, d, z, s3.trk, r1.ext (x2.trans x3), ez, fun H' v' gr r => q ω3 H' (.ofGrow s3 gr) (s3.grow gr) v' r⟩
theorem snd_sl {lo hi : List E} (hm : SndE N G k C cls dp m) (hlo : ∀ m ∈ lo, SndE N G k C cls dp m) (hhi : ∀ m ∈ hi, SndE N G k C cls dp m) : SndE N G k C cls dp (.sl m lo hi) := by
  intro X sc W e c h
  unfold chkE at h
  have one : ∀ {ms : List E} {x : Expr}, (∀ m ∈ ms, SndE N G k C cls dp m) → ms.length = 1 → chkEs N G ms sc [x] = true → PO X (some x) (tPartE X.kw C dp W cls ms) := by
    intro ms x hms l1 hc
    match ms, l1 with
    | [m], _ =>
      unfold chkEs at hc
      simp only [Bool.and_eq_true] at hc
      exact po_one' (hms m List.mem_cons_self X sc W x c hc.1.1).1
  have nil : ∀ {ms : List E}, ms.isEmpty = true → PO X none (tPartE X.kw C dp W cls ms) := by
    intro ms h0
    rw [List.isEmpty_iff.mp h0]
    exact po_nil'
  split at h
  · simp only [Bool.and_eq_true] at h
    exact both_of (snd_sl_core (hm X sc W _ c h.2).1 (nil h.1.1) (nil h.1.2)) rfl
  · simp only [Bool.and_eq_true, decide_eq_true_eq] at h
    exact both_of (snd_sl_core (hm X sc W _ c h.1.2).1 (one hlo h.1.1.1 h.2) (nil h.1.1.2)) rfl
  · simp only [Bool.and_eq_true, decide_eq_true_eq] at h
    exact both_of (snd_sl_core (hm X sc W _ c h.1.2).1 (nil h.1.1.1) (one hhi h.1.1.2 h.2)) rfl
  · simp only [Bool.and_eq_true, decide_eq_true_eq] at h
    exact both_of (snd_sl_core (hm X sc W _ c h.1.1.2).1 (one hlo h.1.1.1.1 h.1.2) (one hhi h.1.1.1.2 h.2)) rfl
  · cases h

structure Feeds (K : KW) (J : It) (ds : List D) (ω : Wd) (H : Hp) : Prop where
  len : ds.length ≤ sizeLine
  go : ∀ ω' H', Kept ω H ω' H' → ∀ i, i < ds.length → J.go i H'
  yld : ∀ ω' H', Kept ω H ω' H' → ∀ (i : Nat) (x : V) (H2 : Hp) (d : D), ds[i]? = some d → J.yld i H' x H2 → Same H' H2 ∧ Rep K ω' H2 d x
  stop : ∀ ω' H', Kept ω H ω' H' → J.stop ds.length H'
def tI (K : KW) (C : Cal) (dp : Nat) (W : WX) (cls : Nat → Value) (ik : IK) (ie : List E) : TI := fun σ H R => ∃ ω ρ st, Loc K ω dp ρ σ H ∧ StoOk K ω st H ∧
  Post K dp W cls σ ω H (evs C ie ρ st) fun ds _ ω' H' => ∃ xs, items ik ds = some xs ∧ ∀ J, Feeds K J xs ω' H' → R J H'
theorem pi_imp {tg it : Expr} {t t' : TI} (h : PI X tg it t) (i : ∀ σ H Q, t' σ H Q → t σ H Q) : PI X tg it t' := ⟨fun pins s σ H Q I q => h.run pins s σ H Q I (i σ H Q q)⟩
theorem feeds_tup {K : KW} {ω : Wd} {H : Hp} {a : Addr} {vs : List V} {ds : List D} (s : SqT K H a vs) (r : Reps K ω H ds vs) (l : ds.length ≤ sizeLine) : Feeds K (Itt K a) ds ω H where
  len := l
  go := fun ω' H' x i hi => by
    obtain ⟨v, e, _⟩ := r.get (List.getElem?_eq_getElem hi)
    exact ⟨vs, v, x.sqT s, e⟩
  yld := fun ω' H' x i v H2 d e y => by
    obtain ⟨rfl, y⟩ := y
    obtain ⟨v', e', r'⟩ := r.get e
    have := y vs (x.sqT s)
    rw [e'] at this
    cases this
    exact ⟨same_refl, Rep.kept x d _ r'⟩
  stop := fun ω' H' x => ⟨vs, x.sqT s, Nat.le_of_eq r.length⟩
theorem feeds_lst {K : KW} {ω : Wd} {H : Hp} {a : Addr} {vs : List V} {ds : List D} (s : ∀ ω' H', Kept ω H ω' H' → SqL K H' a vs) (r : Reps K ω H ds vs) (l : ds.length ≤ sizeLine) : Feeds K (Itl K a) ds ω H where
  len := l
  go := fun ω' H' x i hi => by
    obtain ⟨v, e, _⟩ := r.get (List.getElem?_eq_getElem hi)
    exact ⟨vs, v, s ω' H' x, e⟩
  yld := fun ω' H' x i v H2 d e y => by
    obtain ⟨rfl, y⟩ := y
    obtain ⟨v', e', r'⟩ := r.get e
    have := y vs (s ω' H2 x)
    rw [e'] at this
    cases this
    exact ⟨same_refl, Rep.kept x d _ r'⟩
  stop := fun ω' H' x => ⟨vs, s ω' H' x, Nat.le_of_eq r.length⟩
theorem feeds_str {K : KW} {ω : Wd} {H : Hp} {z : Str} (l : z.length ≤ sizeLine) : Feeds K (Its z) (z.cps.toList.map sign) ω H where
  len := by rw [List.length_map, Array.length_toList]; exact l
  go := fun ω' H' x i hi => by
    rw [List.length_map, Array.length_toList] at hi
    exact hi
  yld := fun ω' H' x i v H2 d e y => by
    obtain ⟨rfl, c, e1, rfl⟩ := y
    rw [List.getElem?_map, Array.getElem?_toList, e1] at e
    cases e
    exact ⟨same_refl, rfl, by show 1 ≤ sizeLine; rw [sizeLine_eq]; decide⟩
  stop := fun ω' H' x => by
    rw [List.length_map, Array.length_toList]
    exact Nat.le_refl _
theorem feeds_rng {K : KW} {ω : Wd} {H : Hp} {lo : Int} {n : Nat} (l : n ≤ sizeLine) : Feeds K (Itr lo n) ((List.range n).map fun (i : Nat) => D.int (lo + (i : Int))) ω H where
  len := by rw [List.length_map, List.length_range]; exact l
  go := fun ω' H' x i hi => by
    rw [List.length_map, List.length_range] at hi
    exact hi
  yld := fun ω' H' x i v H2 d e y => by
    obtain ⟨rfl, rfl⟩ := y
    rw [List.getElem?_map] at e
    cases q : (List.range n)[i]? with
    | none => rw [q] at e; cases e
    | some j =>
      rw [q] at e
      cases e
      have : j = i := by
        obtain ⟨h1, h2⟩ := List.getElem?_eq_some_iff.mp q
        rw [List.getElem_range] at h2
        exact h2.symm
      subst this
      exact ⟨same_refl, rfl⟩
  stop := fun ω' H' x => by
    rw [List.length_map, List.length_range]
    exact Nat.le_refl _
theorem feeds_enumL {K : KW} {ω : Wd} {H : Hp} {a : Addr} {vs : List V} {ds : List D} (s : ∀ ω' H', Kept ω H ω' H' → SqL K H' a vs) (r : Reps K ω H ds vs) (l : ds.length ≤ sizeLine) :
    Feeds K (Ite K a) (ds.zipIdx.map fun p => D.tup [.int (p.2 : Nat), p.1]) ω H where
  len := by rw [List.length_map, List.length_zipIdx]; exact l
  go := fun ω' H' x i hi => by
    rw [List.length_map, List.length_zipIdx] at hi
    obtain ⟨v, e, _⟩ := r.get (List.getElem?_eq_getElem hi)
    exact ⟨vs, v, s ω' H' x, e⟩
  yld := fun ω' H' x i v H2 d e y => by
    obtain ⟨T, z, rfl, hT, rfl, y⟩ := y
    rw [List.getElem?_map, List.getElem?_zipIdx] at e
    cases q : ds[i]? with
    | none => rw [q] at e; cases e
    | some d' =>
      rw [q] at e
      cases e
      obtain ⟨v', e', r'⟩ := r.get q
      have := y vs (s ω' H' x)
      rw [e'] at this
      cases this
      refine ⟨same_new hT _, rep_new_tup hT ⟨_, _, rfl, by show V.int _ = V.int _; rw [Nat.zero_add], _, _, rfl, Rep.kept x _ _ r', rfl⟩ (by show 2 ≤ sizeLine; rw [sizeLine_eq]; decide)⟩
  stop := fun ω' H' x => ⟨vs, s ω' H' x, by rw [List.length_map, List.length_zipIdx]; exact Nat.le_of_eq r.length⟩
end
end TL

namespace TL
open PySem L2 PyProof.Rows
section
variable {X : Cx} {N : List Str} {G : GT} {k : Nat} {C : Cal} {cls : Nat → Value} {dp : Nat} {sc : Scope} {W : WX} {e : Expr} {es : List Expr} {m n l a b : E} {ms : List E}
theorem feeds_enumT {K : KW} {ω : Wd} {H : Hp} {a : Addr} {vs : List V} {ds : List D} (s : SqT K H a vs) (r : Reps K ω H ds vs) (l : ds.length ≤ sizeLine) :
    Feeds K (IteT K a) (ds.zipIdx.map fun p => D.tup [.int (p.2 : Nat), p.1]) ω H where
  len := by rw [List.length_map, List.length_zipIdx]; exact l
  go := fun ω' H' x i hi => by
    rw [List.length_map, List.length_zipIdx] at hi
    obtain ⟨v, e, _⟩ := r.get (List.getElem?_eq_getElem hi)
    exact ⟨vs, v, x.sqT s, e⟩
  yld := fun ω' H' x i v H2 d e y => by
    obtain ⟨T, z, rfl, hT, rfl, y⟩ := y
    rw [List.getElem?_map, List.getElem?_zipIdx] at e
    cases q : ds[i]? with
    | none => rw [q] at e; cases e
    | some d' =>
      rw [q] at e
      cases e
      obtain ⟨v', e', r'⟩ := r.get q
      have := y vs (x.sqT s)
      rw [e'] at this
      cases this
      refine ⟨same_new hT _, rep_new_tup hT ⟨_, _, rfl, by show V.int _ = V.int _; rw [Nat.zero_add], _, _, rfl, Rep.kept x _ _ r', rfl⟩ (by show 2 ≤ sizeLine; rw [sizeLine_eq]; decide)⟩
  stop := fun ω' H' x => ⟨vs, x.sqT s, by rw [List.length_map, List.length_zipIdx]; exact Nat.le_of_eq r.length⟩
theorem ie_one {it : Expr} {ie : List E} (h : chkEs N G ie sc [it] = true) : ∃ m, ie = [m] ∧ chkE N G m sc it = true := by
  have l := chkEs_length h
  match ie, l with
  | [m], _ =>
    unfold chkEs at h
    simp only [Bool.and_eq_true] at h
    exact ⟨m, rfl, h.1.1⟩
/-- one expression, walked -/
theorem post_one {σ : L2.St} {ω : Wd} {H : Hp} {K : KW} {ρ : Env} {st : Sto} {P : List D → Sto → Wd → Hp → Prop} (h : Post K dp W cls σ ω H (evs C [m] ρ st) P) :
    Post K dp W cls σ ω H (ev C m ρ st) fun d st' ω' H' => P [d] st' ω' H' := by
  unfold evs at h
  refine (Post.bind h).mono fun d st1 ω1 H1 x1 s1 q1 => ?_
  unfold evs at q1
  have q1 : ∀ ω' H', Ext (dp + 1) ω1 H1 ω' H' → StoOk K ω' st1 H' → P [d] st1 ω' H' := q1
  exact q1 ω1 H1 .refl s1
theorem snd_it {ik : IK} {tg : T} {t it : Expr} {ie : List E} {own : List Nat} (hm : ∀ m ∈ ie, SndE N G k C cls dp m) (c : Cok X G k C cls N sc W) (h : itArgs G sc ik tg it = some es) (h2 : chkEs N G ie sc es = true)
    (h3 : ∀ is, tg = .tp is → ∃ es kk p, t = .Tuple es kk p) : PI X t it (tI X.kw C dp W cls ik ie) := by
  unfold itArgs at h
  have seqs : ∀ {t' : TI}, (∀ m, ie = [m] → PE X it (tE X.kw C dp W cls m) → PI X t it t') → es = [it] → PI X t it t' := by
    intro t' f e1
    subst e1
    obtain ⟨m, rfl, hc⟩ := ie_one h2
    exact f m rfl (hm m List.mem_cons_self X sc W it c hc).1
  split at h
  · rename_i y p es' pos
    split at h
    · rename_i hc
      cases h
      simp only [Bool.and_eq_true, Bool.or_eq_true, decide_eq_true_eq] at hc
      obtain ⟨⟨rfl, hf⟩, hl⟩ := hc
      have F := fre_of c hf
      obtain ⟨A, B⟩ := snd_es hm X sc W es c h2
      rcases hl with hl | hl
      · match es, hl with
        | [a], _ =>
          rw [List.all_cons, Bool.and_eq_true] at B
          refine pi_imp (pi_range1 F.g F.m A (star_of B.1 [] X.env)) ?_
          rintro σ H R ⟨ω, ρ, st, hl, hs, hp⟩
          refine ⟨ω, ρ, st, hl, hs, hp.len.mono ?_⟩
          rintro ds st' ω' H' x s ⟨ln, xs, e1, q⟩ vs r
          have l2 := chkEs_length h2
          unfold items at e1
          split at e1 <;> try cases e1
          all_goals try contradiction
          · split at e1
            · rename_i hb
              cases e1
              obtain ⟨v, rfl, rv⟩ := r.one
              cases rv
              refine ⟨_, rfl, hb.1, ?_, q _ (feeds_rng ?_)⟩
              · have := hb.2
                rw [sizeLine_eq] at this
                omega
              · have := hb.2
                omega
            · cases e1
          · exact absurd (ln.trans l2.symm) (by simp)
      · match es, hl with
        | [a, b], _ =>
          rw [List.all_cons, List.all_cons, Bool.and_eq_true, Bool.and_eq_true] at B
          refine pi_imp (pi_range2 F.g F.m A (by rw [star_of B.1, star_of B.2.1]; rfl) (star_of B.2.1 [] X.env)) ?_
          rintro σ H R ⟨ω, ρ, st, hl, hs, hp⟩
          refine ⟨ω, ρ, st, hl, hs, hp.len.mono ?_⟩
          rintro ds st' ω' H' x s ⟨ln, xs, e1, q⟩ vs r
          have l2 := chkEs_length h2
          unfold items at e1
          split at e1 <;> try cases e1
          all_goals try contradiction
          · exact absurd (ln.trans l2.symm) (by simp)
          · split at e1
            · rename_i hb
              cases e1
              obtain ⟨v, w, rfl, rv, rw'⟩ := r.two
              cases rv; cases rw'
              refine ⟨_, _, rfl, ⟨hb.1, hb.2.1, hb.2.2.1, hb.2.2.2.1⟩, q _ (feeds_rng ?_)⟩
              have := hb.2.2.2.2
              omega
            · cases e1
    · cases h
  · rename_i is y p es' pos
    split at h
    · rename_i hc
      cases h
      simp only [Bool.and_eq_true, decide_eq_true_eq] at hc
      obtain ⟨⟨rfl, hf⟩, hl⟩ := hc
      have F := fre_of c hf
      obtain ⟨A, B⟩ := snd_es hm X sc W es c h2
      obtain ⟨elts, kk, tp, rfl⟩ := h3 is rfl
      match es, hl with
      | [a], _ =>
        rw [List.all_cons, Bool.and_eq_true] at B
        refine pi_imp (pi_enumT F.g F.m A (star_of B.1 [] X.env)) ?_
        rintro σ H R ⟨ω, ρ, st, hl, hs, hp⟩
        refine ⟨ω, ρ, st, hl, hs, hp.mono ?_⟩
        rintro ds st' ω' H' x s ⟨xs, e1, q⟩ vs r
        unfold items at e1
        split at e1 <;> try cases e1
        all_goals try contradiction
        obtain ⟨v, rfl, l1, a1, ws, rfl, s1, r1⟩ := r.one
        exact ⟨a1, ws, rfl, s1, q _ (feeds_enumT s1 r1 l1)⟩
    · cases h
  · rename_i is y p es' pos
    split at h
    · rename_i hc
      cases h
      simp only [Bool.and_eq_true, decide_eq_true_eq] at hc
      obtain ⟨⟨rfl, hf⟩, hl⟩ := hc
      have F := fre_of c hf
      obtain ⟨A, B⟩ := snd_es hm X sc W es c h2
      obtain ⟨elts, kk, tp, rfl⟩ := h3 is rfl
      match es, hl with
      | [a], _ =>
        rw [List.all_cons, Bool.and_eq_true] at B
        refine pi_imp (pi_enum F.g F.m A (star_of B.1 [] X.env)) ?_
        rintro σ H R ⟨ω, ρ, st, hl, hs, hp⟩
        refine ⟨ω, ρ, st, hl, hs, hp.mono ?_⟩
        rintro ds st' ω' H' x s ⟨xs, e1, q⟩ vs r
        unfold items at e1
        split at e1 <;> try cases e1
        all_goals try contradiction
        obtain ⟨v, rfl, l1, a1, ws, rfl, s1, w1, r1⟩ := r.one
        exact ⟨a1, ws, rfl, SqL.of s1, q _ (feeds_enumL (fun ω2 H2 x => SqL.of (x.lst _ _ s1 w1).1) r1 l1)⟩
    · cases h
  · cases h
    refine seqs (fun m em A => ?_) rfl
    subst em
    refine pi_imp (pi_tup A) ?_
    rintro σ H R ⟨ω, ρ, st, hl, hs, hp⟩
    refine ⟨ω, ρ, st, hl, hs, (post_one hp).mono ?_⟩
    rintro d st' ω' H' x s ⟨xs, e1, q⟩ v r
    cases d <;> first | (simp [items] at e1; done) | skip
    simp only [items, Option.some.injEq] at e1
    subst e1
    obtain ⟨l1, a1, ws, rfl, s1, r1⟩ := r
    exact ⟨a1, rfl, ⟨ws, s1⟩, q _ (feeds_tup s1 r1 l1)⟩
  · cases h
    refine seqs (fun m em A => ?_) rfl
    subst em
    refine pi_imp (pi_list A) ?_
    rintro σ H R ⟨ω, ρ, st, hl, hs, hp⟩
    refine ⟨ω, ρ, st, hl, hs, (post_one hp).mono ?_⟩
    rintro d st' ω' H' x s ⟨xs, e1, q⟩ v r
    cases d <;> first | (simp [items] at e1; done) | skip
    simp only [items, Option.some.injEq] at e1
    subst e1
    obtain ⟨l1, a1, ws, rfl, s1, w1, r1⟩ := r
    exact ⟨a1, rfl, ⟨ws, SqL.of s1⟩, q _ (feeds_lst (fun ω2 H2 x => SqL.of (x.lst _ _ s1 w1).1) r1 l1)⟩
  · cases h
    refine seqs (fun m em A => ?_) rfl
    subst em
    refine pi_imp (pi_list A) ?_
    rintro σ H R ⟨ω, ρ, st, hl, hs, hp⟩
    refine ⟨ω, ρ, st, hl, hs, (post_one hp).mono ?_⟩
    rintro d st' ω' H' x s ⟨xs, e1, q⟩ v r
    cases d <;> first | (simp [items] at e1; done) | skip
    simp only [items, Option.some.injEq] at e1
    subst e1
    obtain ⟨l1, a1, ws, rfl, s1, r1⟩ := r
    refine ⟨a1, rfl, ⟨ws, sq_fls s1⟩, q _ (feeds_lst (fun ω2 H2 x => sq_fls (ω := ω2) ?_) r1 l1)⟩
    rcases s1 with ⟨s1, w1⟩ | ⟨o, s1⟩ | s1
    · exact .inl (x.lst _ _ s1 w1)
    · exact .inr (.inl ⟨o, x.frz _ _ _ s1⟩)
    · exact .inr (.inr s1)
  · cases h
    refine seqs (fun m em A => ?_) rfl
    subst em
    refine pi_imp (pi_str A) ?_
    rintro σ H R ⟨ω, ρ, st, hl, hs, hp⟩
    refine ⟨ω, ρ, st, hl, hs, (post_one hp).mono ?_⟩
    rintro d st' ω' H' x s ⟨xs, e1, q⟩ v r
    cases d <;> first | (simp [items] at e1; done) | skip
    simp only [items, Option.some.injEq] at e1
    subst e1
    obtain ⟨rfl, l1⟩ := r
    exact ⟨_, rfl, q _ (feeds_str l1)⟩
  · cases h

def gNames : List Nat → TGs
  | [] => gNil
  | i :: is => gCons (gName i) (gNames is)
def gT (K : KW) : T → TG
  | .nm i => gName i
  | .tp is => gTup K is.length (gNames is)
theorem Loc.set {K : KW} {ω : Wd} {H : Hp} {ρ : Env} {σ : L2.St} {i : Nat} {d : D} {v : V} (h : Loc K ω dp ρ σ H) (r : OwnR K ω H (.slot dp i) d v) : Loc K ω dp (ρ.set i (some d)) (σ.set i (some v)) H :=
  ⟨by rw [List.length_set, List.length_set]; exact h.len, fun j d' e => by
    by_cases hj : j = i
    · subst hj
      by_cases hl : j < ρ.length
      · rw [List.getElem?_set_self hl] at e
        cases e
        exact ⟨v, List.getElem?_set_self (by rw [h.len]; exact hl), r⟩
      · rw [List.getElem?_eq_none (by rw [List.length_set]; omega)] at e
        cases e
    · rw [List.getElem?_set_ne (Ne.symm hj)] at e
      obtain ⟨v', e', r'⟩ := h.at_ j d' e
      exact ⟨v', by rw [List.getElem?_set_ne (Ne.symm hj)]; exact e', r'⟩⟩
theorem Loc.setNone {K : KW} {ω : Wd} {H : Hp} {ρ : Env} {σ : L2.St} {i : Nat} (h : Loc K ω dp ρ σ H) : Loc K ω dp (ρ.set i none) (σ.set i none) H :=
  ⟨by rw [List.length_set, List.length_set]; exact h.len, fun j d' e => by
    by_cases hj : j = i
    · subst hj
      by_cases hl : j < ρ.length
      · rw [List.getElem?_set_self hl] at e
        cases e
      · rw [List.getElem?_eq_none (by rw [List.length_set]; omega)] at e
        cases e
    · rw [List.getElem?_set_ne (Ne.symm hj)] at e
      obtain ⟨v', e', r'⟩ := h.at_ j d' e
      exact ⟨v', by rw [List.getElem?_set_ne (Ne.symm hj)]; exact e', r'⟩⟩
theorem Loc.wipe {K : KW} {ω : Wd} {H : Hp} {ρ : Env} {σ : L2.St} (h : Loc K ω dp ρ σ H) : ∀ vs : List Nat, Loc K ω dp (wipeE ρ vs) (L2.wipe σ vs) H
  | [] => h
  | v :: vs => (Loc.wipe h vs).setNone
theorem wipe_off : ∀ {own : List Nat} {i : Nat} {x : Option V} {σ : L2.St}, i ∉ own → L2.wipe (σ.set i x) own = (L2.wipe σ own).set i x
  | [], i, x, σ, h => rfl
  | o :: own, i, x, σ, h => by
    simp only [List.mem_cons, not_or] at h
    show (L2.wipe (σ.set i x) own).set o none = ((L2.wipe σ own).set o none).set i x
    rw [wipe_off h.2, List.set_comm _ _ h.1]
theorem wipe_set : ∀ {own : List Nat} {i : Nat} {x : Option V} {σ : L2.St}, i ∈ own → L2.wipe (σ.set i x) own = L2.wipe σ own
  | [], i, x, σ, h => by simp at h
  | o :: own, i, x, σ, h => by
    show (L2.wipe (σ.set i x) own).set o none = (L2.wipe σ own).set o none
    by_cases hi : i ∈ own
    · rw [wipe_set hi]
    · have e : i = o := by
        rcases List.mem_cons.mp h with e | h
        · exact e
        · exact absurd h hi
      subst e
      rw [wipe_off hi, List.set_set]
theorem gNames_of {K : KW} {ω : Wd} {H : Hp} {Q : L2.St → Hp → Prop} : ∀ {is : List Nat} {ds : List D} {vs : List V} {ρ : Env} {σ : L2.St}, Loc K ω dp ρ σ H → Reps K ω H ds vs → ds.length = is.length →
    (∀ σ', Loc K ω dp (setAll is ds ρ) σ' H → (∀ own, (∀ i ∈ is, i ∈ own) → L2.wipe σ' own = L2.wipe σ own) → Q σ' H) → gNames is vs σ H Q
  | [], [], vs, ρ, σ, hl, r, _, q => ⟨r, q σ hl fun _ _ => rfl⟩
  | i :: is, d :: ds, vs, ρ, σ, hl, r, e, q => by
    obtain ⟨v, rr, rfl, r1, r2⟩ := r
    refine ⟨v, rr, rfl, ?_⟩
    refine gNames_of (hl.set (OwnR.of r1)) r2 (by simpa using e) fun σ' hl' hw => q σ' hl' fun own ho => ?_
    rw [hw own fun j hj => ho j (List.mem_cons_of_mem _ hj)]
    exact wipe_set (ho i List.mem_cons_self)
  | [], _ :: _, _, _, _, _, _, e, _ => by simp at e
  | _ :: _, [], _, _, _, _, _, e, _ => by simp at e
/-- a target takes a value -/
theorem gT_of {K : KW} {ω : Wd} {H : Hp} {Q : L2.St → Hp → Prop} {tg : T} {d : D} {v : V} {ρ ρ' : Env} {σ : L2.St} (hl : Loc K ω dp ρ σ H) (r : Rep K ω H d v) (hb : bindT tg d ρ = some ρ')
    (q : ∀ σ', Loc K ω dp ρ' σ' H → (∀ own, (∀ i ∈ (match tg with | .nm i => [i] | .tp is => is), i ∈ own) → L2.wipe σ' own = L2.wipe σ own) → Q σ' H) : gT K tg v σ H Q := by
  cases tg with
  | nm i =>
    simp only [bindT] at hb
    split at hb
    · cases hb
    · cases hb
      exact q _ (hl.set (OwnR.of r)) fun own ho => wipe_set (ho i List.mem_cons_self)
  | tp is =>
    cases d <;> first | (simp [bindT] at hb; done) | skip
    simp only [bindT] at hb
    split at hb
    · rename_i he
      cases hb
      obtain ⟨l1, a1, ws, rfl, s1, r1⟩ := r
      exact ⟨a1, ws, rfl, s1, r1.length.trans he, gNames_of hl r1 he q⟩
    · cases hb
end
end TL

namespace TL
open PySem L2 PyProof.Rows
section
variable {X : Cx} {N : List Str} {G : GT} {k : Nat} {C : Cal} {cls : Nat → Value} {dp : Nat} {sc : Scope} {W : WX} {e : Expr} {es : List Expr} {m n l a b : E} {ms : List E}
theorem lcl_of {df : Bool} {x : Str} (hsc : X.env.scope = sc) (hf : df = true → ∀ y, X.fn y = true) (h : lcl df sc x = true) : L2.Loc X.env.scope x ∧ (X.fn x = true ∨ X.env.scope.names.lookup x = some .local) := by
  unfold lcl at h
  rw [hsc]
  split at h
  · rename_i q; exact ⟨.inl q, .inr q⟩
  · rename_i q; exact ⟨.inr q, .inl (hf h x)⟩
  · cases h
theorem tgs_of {df : Bool} {own is : List Nat} {es : List Expr} (hN : X.N = N) (nd : N.Nodup) (hsc : X.env.scope = sc) (hf : df = true → ∀ y, X.fn y = true) (h : tgOk.tgs df N sc own is es = true) : PGs X es (gNames is) ∧ es.length = is.length ∧ (∀ i ∈ is, i ∈ own) ∧ (assignEach es X.env).findIdx? (·.1) = none ∧ (assignEach es X.env).length = is.length := by
  induction is generalizing es with
  | nil =>
    cases es with
    | nil => exact ⟨pgs_nil, rfl, by simp, rfl, rfl⟩
    | cons e es => simp [tgOk.tgs] at h
  | cons i is ih =>
    cases es with
    | nil => simp [tgOk.tgs] at h
    | cons e es =>
      cases e <;> first | (simp [tgOk.tgs] at h; done) | skip
      rename_i x p
      simp only [tgOk.tgs, Bool.and_eq_true, decide_eq_true_eq] at h
      obtain ⟨⟨⟨h1, h2⟩, h3⟩, h4⟩ := h
      obtain ⟨q1, q2⟩ := lcl_of hsc hf h3
      obtain ⟨A, B, D, F, L⟩ := ih h4
      refine ⟨pgs_cons (pg_name (i := i) (by rw [hN]; exact nd) (by rw [hN]; exact h1) q1 q2) A rfl, by rw [List.length_cons, List.length_cons, B], fun j hj => ?_, ?_, ?_⟩
      · rcases List.mem_cons.mp hj with rfl | hj
        · exact h2
        · exact D j hj
      · show List.findIdx? (·.1) ((false, _) :: assignEach es X.env) = none
        rw [List.findIdx?_cons]
        show Option.map _ _ = none
        rw [F]
        rfl
      · show (_ :: assignEach es X.env).length = _
        rw [List.length_cons, List.length_cons, L]
theorem tg_of {df : Bool} {own : List Nat} {tg : T} {t : Expr} (hN : X.N = N) (nd : N.Nodup) (hsc : X.env.scope = sc) (hf : df = true → ∀ y, X.fn y = true) (hc : X.calm = true) (h : tgOk df N sc own tg t = true) : PG X t (gT X.kw tg) := by
  unfold tgOk at h
  split at h
  · rename_i i x p
    simp only [Bool.and_eq_true, decide_eq_true_eq] at h
    obtain ⟨⟨h1, h2⟩, h3⟩ := h
    obtain ⟨q1, q2⟩ := lcl_of hsc hf h3
    exact pg_name (i := i) (by rw [hN]; exact nd) (by rw [hN]; exact h1) q1 q2
  · obtain ⟨A, B, D, F, L⟩ := tgs_of hN nd hsc hf h
    exact pg_tup hc A L F
  · cases h
theorem tg_sub {df : Bool} {own : List Nat} {tg : T} {t : Expr} (h : tgOk df N sc own tg t = true) : ∀ i ∈ (match tg with | .nm i => [i] | .tp is => is), i ∈ own := by
  unfold tgOk at h
  split at h
  · simp only [Bool.and_eq_true, decide_eq_true_eq] at h
    intro j hj
    rw [List.mem_singleton.mp hj]
    exact h.1.2
  · rename_i is es _ _
    have key : ∀ {is : List Nat} {es : List Expr}, tgOk.tgs df N sc own is es = true → ∀ i ∈ is, i ∈ own := by
      intro is
      induction is with
      | nil => simp
      | cons i is ih =>
        intro es h
        cases es with
        | nil => simp [tgOk.tgs] at h
        | cons e es =>
          cases e <;> first | (simp [tgOk.tgs] at h; done) | skip
          simp only [tgOk.tgs, Bool.and_eq_true, decide_eq_true_eq] at h
          intro j hj
          rcases List.mem_cons.mp hj with rfl | hj
          · exact h.1.1.2
          · exact ih h.2 j hj
    exact key h
  · cases h
theorem tg_shape {df : Bool} {own : List Nat} {tg : T} {t : Expr} (h : tgOk df N sc own tg t = true) : ∀ is, tg = .tp is → ∃ es kk p, t = .Tuple es kk p := by
  rintro is rfl
  cases t <;> first | exact ⟨_, _, _, rfl⟩ | (simp [tgOk] at h)
/-- a comprehension's block -/
theorem Cok.blk (c : Cok X G k C cls N sc W) (s : Shared) (H : Hp) (scope : Scope) (Cc : Addr) (cl : List (Str × Addr)) (fp : List Addr) : Cok (X.blk s H scope (compEnvC scope cl Cc X.env) fp) G k C cls N (relS scope sc) (fun _ _ _ _ => False) where
  hN := c.hN
  nd := c.nd
  hsc := by rw [← c.hsc]; rfl
  calm := c.calm
  room := c.room
  tk := fun u s' ⟨_, _, _, _, _, _, _, _, _, _, _, _, _, _, _, _, w⟩ => w
  fns := c.fns
  cst := c.cst
  blt := c.blt

def Wd.put (ω : Wd) (a : Addr) (t : Root × List Str) : Wd := { ω with wr := fun b => if b = a then some t else ω.wr b }
def Wd.free (ω : Wd) (a : Addr) : Wd := { ω with wr := fun b => if b = a then none else ω.wr b }
variable {K : KW} {ω ω' ω'' : Wd} {H H' H'' : Hp} {D₀ : Addr} {t : Root × List Str} {o : HO} {st : Sto}
theorem Kept.put (h : H D₀ = none) : Kept ω H (ω.put D₀ t) (upd H D₀ o) where
  mu := List.prefix_refl _
  tup := fun a xs e => by rw [upd_ne (ne_of_none e h)]; exact e
  frz := fun a o u e => by rw [upd_ne (ne_of_none e h)]; exact e
  lst := fun a xs e w => by
    refine ⟨by rw [upd_ne (ne_of_none e h)]; exact e, ?_⟩
    show (if a = D₀ then some t else ω.wr a) = none
    rw [if_neg (ne_of_none e h)]
    exact w
  dic := fun a xs e w => by
    refine ⟨by rw [upd_ne (ne_of_none e h)]; exact e, ?_⟩
    show (if a = D₀ then some t else ω.wr a) = none
    rw [if_neg (ne_of_none e h)]
    exact w
theorem Ext.put {d : Nat} (tr : ∀ a, ω.wr a ≠ none → H a ≠ none) (h : H D₀ = none) : Ext d ω H (ω.put D₀ t) (upd H D₀ o) where
  kept := .put h
  fix := fun a k i p e _ => by
    have ne : a ≠ D₀ := fun z => tr a (by rw [e]; simp) (by rw [z]; exact h)
    refine ⟨?_, upd_ne ne⟩
    show (if a = D₀ then some t else ω.wr a) = ω.wr a
    rw [if_neg ne]
theorem StoOk.put (s : StoOk K ω st H) (h : H D₀ = none) : StoOk K (ω.put D₀ t) st (upd H D₀ o) where
  len := s.len
  trk := fun a e => by
    by_cases q : a = D₀
    · rw [q, upd_same]; simp
    · rw [upd_ne q]
      refine s.trk a ?_
      have e' : (if a = D₀ then some t else ω.wr a) ≠ none := e
      rw [if_neg q] at e'
      exact e'
  at_ := fun l d e => (s.at_ l d e).elim
theorem Wd.put_same : (ω.put D₀ t).wr D₀ = some t := by show (if D₀ = D₀ then _ else _) = _; rw [if_pos rfl]
/-- a list that is owned is changed -/
theorem Kept.write {xs : List V} (w : ω.wr D₀ = some t) (h : H D₀ = some (.lst xs)) : Kept ω H ω (upd H D₀ o) where
  mu := List.prefix_refl _
  tup := fun a ys e => by
    have ne : a ≠ D₀ := fun z => by rw [z, h] at e; cases e
    rw [upd_ne ne]; exact e
  frz := fun a o u e => by
    have ne : a ≠ D₀ := fun z => by rw [z, h] at e; cases e
    rw [upd_ne ne]; exact e
  lst := fun a ys e w' => by
    have ne : a ≠ D₀ := fun z => by rw [z, w] at w'; cases w'
    rw [upd_ne ne]; exact ⟨e, w'⟩
  dic := fun a ys e w' => by
    have ne : a ≠ D₀ := fun z => by rw [z, w] at w'; cases w'
    rw [upd_ne ne]; exact ⟨e, w'⟩
theorem StoOk.write (s : StoOk K ω st H) : StoOk K ω st (upd H D₀ o) where
  len := s.len
  trk := fun a e => by
    by_cases q : a = D₀
    · rw [q, upd_same]; simp
    · rw [upd_ne q]
      exact s.trk a e
  at_ := fun l d e => (s.at_ l d e).elim
/-- .. seen from where it was not there yet -/
theorem Ext.writeNew {d : Nat} (tr : ∀ a, ω.wr a ≠ none → H a ≠ none) (x : Ext d ω H ω' H') (h : H D₀ = none) : Ext d ω H ω' (upd H' D₀ o) where
  kept := {
    mu := x.kept.mu
    tup := fun a xs e => by rw [upd_ne (ne_of_none e h)]; exact x.kept.tup a xs e
    frz := fun a o u e => by rw [upd_ne (ne_of_none e h)]; exact x.kept.frz a o u e
    lst := fun a xs e w => by rw [upd_ne (ne_of_none e h)]; exact x.kept.lst a xs e w
    dic := fun a xs e w => by rw [upd_ne (ne_of_none e h)]; exact x.kept.dic a xs e w }
  fix := fun a k i p e hk => by
    have ne : a ≠ D₀ := fun z => tr a (by rw [e]; simp) (by rw [z]; exact h)
    rw [upd_ne ne]
    exact x.fix a k i p e hk
theorem Kept.free : Kept ω H (ω.free D₀) H where
  mu := List.prefix_refl _
  tup := fun a xs e => e
  frz := fun a o u e => e
  lst := fun a xs e w => by
    refine ⟨e, ?_⟩
    show (if a = D₀ then none else ω.wr a) = none
    split
    · rfl
    · exact w
  dic := fun a xs e w => by
    refine ⟨e, ?_⟩
    show (if a = D₀ then none else ω.wr a) = none
    split
    · rfl
    · exact w
theorem StoOk.free (s : StoOk K ω st H) : StoOk K (ω.free D₀) st H where
  len := s.len
  trk := fun a e => by
    refine s.trk a fun z => e ?_
    show (if a = D₀ then none else ω.wr a) = none
    split
    · rfl
    · exact z
  at_ := fun l d e => (s.at_ l d e).elim
theorem Ext.freeNew {d : Nat} (tr : ∀ a, ω.wr a ≠ none → H a ≠ none) (x : Ext d ω H ω' H') (h : H D₀ = none) : Ext d ω H (ω'.free D₀) H' where
  kept := x.kept.trans .free
  fix := fun a k i p e hk => by
    have ne : a ≠ D₀ := fun z => tr a (by rw [e]; simp) (by rw [z]; exact h)
    refine ⟨?_, (x.fix a k i p e hk).2⟩
    show (if a = D₀ then none else ω'.wr a) = _
    rw [if_neg ne]
    exact (x.fix a k i p e hk).1

theorem R.bind_ok {α β : Type} {r : R α} {f : α → Sto → R β} {b : β} {st' : Sto} (h : r.bind f = .ok b st') : ∃ a st1, r = .ok a st1 ∧ f a st1 = .ok b st' := by
  cases r with
  | ok a st1 => exact ⟨a, st1, rfl, h⟩
  | exc c st1 => cases h
  | fail => cases h
theorem lcGo_length {bnd : D → Option Env} {cf ef : Env → Sto → R D} : ∀ {xs : List D} {st st' : Sto} {ds : List D}, lcGo bnd cf ef xs st = .ok ds st' → ds.length ≤ xs.length
  | [], st, st', ds, h => by
    unfold lcGo at h
    cases h
    exact Nat.le_refl _
  | x :: xs, st, st', ds, h => by
    unfold lcGo at h
    cases q : bnd x with
    | none => rw [q] at h; cases h
    | some ρ =>
      rw [q] at h
      obtain ⟨b, st1, e1, h⟩ := R.bind_ok h
      cases b <;> first | (cases h; done) | skip
      rename_i kk
      cases kk with
      | true =>
        obtain ⟨d, st2, e2, h⟩ := R.bind_ok h
        split at h
        · cases h
        · obtain ⟨ds2, st3, e3, h⟩ := R.bind_ok h
          cases h
          exact Nat.succ_le_succ (lcGo_length e3)
      | false => exact Nat.le_succ_of_le (lcGo_length h)
/-- what is made of a list, turn by turn -/
theorem lc_run {J : It} {xs : List D} {tg : T} {elt : E} {cond : List E} {own : List Nat} {σ : L2.St} {ρ : Env} {Q : VK} {stF : Sto} {dsF : List D} {W' : WX}
    (tr : ∀ a, ω.wr a ≠ none → H a ≠ none) (hl : Loc K ω dp ρ σ H) (s : StoOk K ω st H) (F : Feeds K J xs ω H) (sub : ∀ i ∈ (match tg with | .nm i => [i] | .tp is => is), i ∈ own)
    (e : lcGo (fun x => bindT tg x (wipeE ρ own)) (fun ρ st => evAnd1 C cond ρ st) (fun ρ st => ev C elt ρ st) xs st = .ok dsF stF)
    (q : ∀ ω' H', Ext (dp + 1) ω H ω' H' → StoOk K ω' stF H' → ∀ v, Rep K ω' H' (.lst dsF) v → Q v H') :
    ∀ D, H D = none → ∃ Wv : Nat → Nat → Hp → Prop, (∃ m, Wv 0 m (upd H D (.lst []))) ∧ ∀ i m H, Wv i m H →
      (J.stop i H ∧ Q (.ref D) H) ∨ (J.go i H ∧ ∃ Nx : Hp → Prop, (∀ H', Nx H' → ∃ m', m' < m ∧ Wv (i + 1) m' H') ∧ ∀ x H', J.yld i H x H' → gT K tg x (L2.wipe σ own) H' fun σ2 H2 => L2.wipe σ2 own = L2.wipe σ own ∧
        tTf K dp W' cls (fun ρ st => evAnd1 C cond ρ st) σ2 H2 fun b H3 =>
        if b = true then tEf K dp W' cls (fun ρ st => ev C elt ρ st) σ2 H3 fun y H4 => ∃ acc, H4 D = some (.lst acc) ∧ acc.length < sizeLine ∧ Nx (upd H4 D (.lst (acc ++ [y]))) else Nx H3) := by
  intro D hD
  refine ⟨fun i mm H2 => mm = xs.length - i ∧ i ≤ xs.length ∧ ∃ (ω2 : Wd) (st2 : Sto) (accD : List TL.D) (accV : List V) (rest : List TL.D), Ext (dp + 1) ω H ω2 H2 ∧ StoOk K ω2 st2 H2 ∧ ω2.wr D = some (.slot dp 0, [("" : Str)]) ∧ H2 D = some (.lst accV) ∧ Reps K ω2 H2 accD accV ∧
      accD.length ≤ i ∧ lcGo (fun x => bindT tg x (wipeE ρ own)) (fun ρ st => evAnd1 C cond ρ st) (fun ρ st => ev C elt ρ st) (xs.drop i) st2 = .ok rest stF ∧ dsF = accD ++ rest,
    ⟨xs.length, by simp, Nat.zero_le _, ω.put D (.slot dp 0, [("" : Str)]), st, [], [], dsF, .put tr hD, s.put hD, Wd.put_same, upd_same, rfl, Nat.le_refl _, e, rfl⟩, ?_⟩
  rintro i mm H2 ⟨rfl, hi, ω2, st2, accD, accV, rest, x2, s2, w2, h2, r2, l2, e2, ed⟩
  by_cases hlt : i < xs.length
  · rw [List.drop_eq_getElem_cons hlt] at e2
    unfold lcGo at e2
    cases qb : bindT tg xs[i] (wipeE ρ own) with
    | none => rw [qb] at e2; cases e2
    | some ρ2 =>
      rw [qb] at e2
      obtain ⟨b, st3, e3, e2⟩ := R.bind_ok e2
      refine .inr ⟨F.go ω2 H2 x2.kept i hlt, fun H3 => ∃ (ω3 : Wd) (st3 : Sto) (accD : List TL.D) (accV : List V) (rest : List TL.D), Ext (dp + 1) ω H ω3 H3 ∧ StoOk K ω3 st3 H3 ∧ ω3.wr D = some (.slot dp 0, [("" : Str)]) ∧ H3 D = some (.lst accV) ∧ Reps K ω3 H3 accD accV ∧
          accD.length ≤ i + 1 ∧ lcGo (fun x => bindT tg x (wipeE ρ own)) (fun ρ st => evAnd1 C cond ρ st) (fun ρ st => ev C elt ρ st) (xs.drop (i + 1)) st3 = .ok rest stF ∧ dsF = accD ++ rest,
        fun H3 h3 => ⟨xs.length - (i + 1), by omega, rfl, hlt, h3⟩, fun x H3 y => ?_⟩
      obtain ⟨gr, rx⟩ := F.yld ω2 H2 x2.kept i x H3 xs[i] (List.getElem?_eq_getElem hlt) y
      have s3 := s2.grow gr
      have x3 : Ext (dp + 1) ω2 H2 ω2 H3 := .ofGrow s2 gr
      have l3 : Loc K ω2 dp (wipeE ρ own) (L2.wipe σ own) H3 := (hl.ext (x2.trans x3)).wipe own
      refine gT_of l3 rx qb fun σ4 l4 hw => ⟨?_, ?_⟩
      · rw [hw own sub]
        clear hw l3 l4
        induction own with
        | nil => rfl
        | cons o own ih =>
          have key : ∀ (own : List Nat) (σ : L2.St), L2.wipe (L2.wipe σ own) own = L2.wipe σ own := by
            intro own
            induction own with
            | nil => intro σ; rfl
            | cons o own ih =>
              intro σ
              show (L2.wipe ((L2.wipe σ own).set o none) own).set o none = (L2.wipe σ own).set o none
              by_cases ho : o ∈ own
              · rw [wipe_set ho, ih]
              · rw [wipe_off ho, ih, List.set_set]
          exact key _ _
      · refine ⟨ω2, ρ2, st2, l4, s3, ?_⟩
        show Post K dp W' cls σ4 ω2 H3 (evAnd1 C cond ρ2 st2) _
        rw [e3]
        intro ω5 H5 x5 s5
        have hD5 := x5.fix D dp 0 [("" : Str)] w2 (Nat.lt_succ_self _)
        have w5 := hD5.1.trans w2
        have h5 : H5 D = some (.lst accV) := hD5.2.trans (gr _ _ h2)
        have r5 : Reps K ω5 H5 accD accV := (r2.grow gr).ext x5
        have x15 : Ext (dp + 1) ω H ω5 H5 := (x2.trans x3).trans x5
        cases b <;> first | (cases e2; done) | skip
        rename_i kk
        refine ⟨kk, rfl, ?_⟩
        cases kk with
        | false =>
          rw [if_neg Bool.false_ne_true]
          exact ⟨ω5, st3, accD, accV, rest, x15, s5, w5, h5, r5, Nat.le_succ_of_le l2, e2, ed⟩
        | true =>
          rw [if_pos rfl]
          obtain ⟨d, st6, e6, e2⟩ := R.bind_ok e2
          split at e2
          · cases e2
          obtain ⟨ds7, st7, e7, e2⟩ := R.bind_ok e2
          cases e2
          refine ⟨ω5, ρ2, st3, l4.ext x5, s5, ?_⟩
          show Post K dp W' cls σ4 ω5 H5 (ev C elt ρ2 st3) _
          rw [e6]
          intro ω6 H6 x6 s6 y ry
          have hD6 := x6.fix D dp 0 [("" : Str)] w5 (Nat.lt_succ_self _)
          have w6 := hD6.1.trans w5
          have h6 : H6 D = some (.lst accV) := hD6.2.trans h5
          have r6 : Reps K ω6 H6 accD accV := r5.ext x6
          refine ⟨accV, h6, ?_, ?_⟩
          · rw [r6.length]
            have := F.len
            omega
          · refine ⟨ω6, st6, accD ++ [d], accV ++ [y], ds7, (x15.trans x6).writeNew tr hD, s6.write, w6, upd_same, ?_, ?_, e7, ?_⟩
            · have kw : Kept ω6 H6 ω6 (upd H6 D (.lst (accV ++ [y]))) := .write w6 h6
              exact (Reps.kept kw _ _ r6).append ⟨y, [], rfl, Rep.kept kw _ _ ry, rfl⟩
            · rw [List.length_append, List.length_singleton]
              omega
            · rw [ed, List.append_assoc]
              rfl
  · have e1 : i = xs.length := by omega
    subst e1
    rw [List.drop_length] at e2
    unfold lcGo at e2
    cases e2
    rw [List.append_nil] at ed
    subst ed
    refine .inl ⟨F.stop ω2 H2 x2.kept, ?_⟩
    refine q (ω2.free D) H2 (x2.freeNew tr hD) s2.free (.ref D) ⟨Nat.le_trans l2 F.len, D, accV, rfl, h2, ?_, Reps.kept .free _ _ r2⟩
    show (if D = D then none else ω2.wr D) = none
    rw [if_pos rfl]

theorem snd_lc_core {elt : E} {tg : T} {ik : IK} {ie cond : List E} {own : List Nat} {x t it : Expr} {ifs : List Expr} {scope : Scope} {pos : Pos} (he : SndE N G k C cls dp elt) (hi : ∀ m ∈ ie, SndE N G k C cls dp m) (hco : ∀ m ∈ cond, SndE N G k C cls dp m)
    (c : Cok X G k C cls N sc W) (h : chkE N G (.lc elt tg ik ie cond own) sc (.ListComp x [⟨t, it, ifs, 0⟩] scope pos) = true) :
    ∃ (ownN : List (Str × Nat)) (wi : TI) (g : TG) (tt : TT) (te : TE), PI X t it wi ∧ BlkOk X.N X.env.scope scope ownN ∧ (∀ (s : Shared) (H : Hp) (C : Addr) (cl : List (Str × Addr)) (fp : List Addr), PG (X.blk s H scope (compEnvC scope cl C X.env) fp) t g) ∧
      (∀ (s : Shared) (H : Hp) (C : Addr) (cl : List (Str × Addr)) (fp : List Addr), PTs (X.blk s H scope (compEnvC scope cl C X.env) fp) ifs tt) ∧
      (∀ (s : Shared) (H : Hp) (C : Addr) (cl : List (Str × Addr)) (fp : List Addr), PE (X.blk s H scope (compEnvC scope cl C X.env) fp) x te) ∧ (∀ x, foldedSetIterable it X.env x = pure x) ∧
      ∀ σ H Q, tE X.kw C dp W cls (.lc elt tg ik ie cond own) σ H Q → tLc wi g tt te (ownN.map (·.2)) σ H Q := by
  unfold chkE at h
  simp only [Bool.and_eq_true, decide_eq_true_eq] at h
  obtain ⟨⟨⟨⟨⟨⟨⟨h1, h2⟩, h3⟩, h4⟩, h5⟩, h6⟩, h7⟩, h8⟩ := h
  cases qi : itArgs G sc ik tg it with
  | none => rw [qi] at h8; cases h8
  | some es =>
    rw [qi] at h8
    have eown : (own.map fun (i : Nat) => ((N[i]?).getD ("" : Str), i)).map (·.2) = own := by
      rw [List.map_map]
      show own.map (fun i => i) = own
      simp
    refine ⟨own.map fun (i : Nat) => ((N[i]?).getD ("" : Str), i), _, gT X.kw tg, tTf X.kw dp (fun _ _ _ _ => False) cls (fun ρ st => evAnd1 C cond ρ st), tEf X.kw dp (fun _ _ _ _ => False) cls (fun ρ st => ev C elt ρ st), snd_it (own := own) hi c qi h8 (tg_shape h2),
      by rw [c.hN, c.hsc]; exact blkOk_by h1, fun s H Cc cl fp => ?_, fun s H Cc cl fp => ?_, fun s H Cc cl fp => (he _ _ _ x (c.blk s H scope Cc cl fp) h6).1, fold_ok h3 X.env, ?_⟩
    · exact tg_of (X := X.blk s H scope (compEnvC scope cl Cc X.env) fp) (c.blk s H scope Cc cl fp).hN c.nd (c.blk s H scope Cc cl fp).hsc (fun z => by cases z) c.calm h2
    · have cb := c.blk s H scope Cc cl fp
      cases ifs with
      | nil =>
        cases cond with
        | cons _ _ => simp at h4
        | nil =>
          refine ⟨fun pins s σ H Q I q => pts_nil.run pins s σ H Q I ?_⟩
          obtain ⟨ω, ρ, st, hl, hs, hp⟩ := q
          unfold evAnd1 at hp
          obtain ⟨b, e, q⟩ := hp ω H .refl hs
          cases e
          exact q
      | cons f fs =>
        cases fs with
        | cons _ _ => simp at h5
        | nil =>
          match cond, h4 with
          | [m], _ =>
            unfold chkEs at h7
            simp only [Bool.and_eq_true] at h7
            obtain ⟨A, B⟩ := hco m List.mem_cons_self _ _ _ f cb h7.1.1
            refine pts_one (pt_imp B ?_)
            rintro σ H Q ⟨ω, ρ, st, hl, hs, hp⟩
            unfold evAnd1 at hp
            exact ⟨ω, ρ, st, hl, hs, hp⟩
    · rintro σ H Q ⟨ω, ρ, st, hl, hs, hp⟩
      unfold ev at hp
      rw [eown]
      refine ⟨ω, ρ, st, hl, hs, (Post.bind hp).mono fun ds st1 ω1 H1 x1 s1 q1 => ?_⟩
      cases qx : items ik ds with
      | none => rw [qx] at q1; exact q1.elim
      | some xs =>
        rw [qx] at q1
        refine ⟨xs, rfl, fun J F => ?_⟩
        cases qr : lcGo (fun x => bindT tg x (wipeE ρ own)) (fun ρ st => evAnd1 C cond ρ st) (fun ρ st => ev C elt ρ st) xs st1 with
        | exc cc st2 => simp only [qr] at q1; exact q1.elim
        | fail => simp only [qr] at q1; exact q1.elim
        | ok dsF stF =>
          simp only [qr] at q1
          exact lc_run s1.trk (hl.ext x1) s1 F (tg_sub h2) qr fun ω' H' x' s' v r => q1 ω' H' x' s' v r
theorem snd_lc {elt : E} {tg : T} {ik : IK} {ie cond : List E} {own : List Nat} (he : SndE N G k C cls dp elt) (hi : ∀ m ∈ ie, SndE N G k C cls dp m) (hco : ∀ m ∈ cond, SndE N G k C cls dp m) : SndE N G k C cls dp (.lc elt tg ik ie cond own) := by
  intro X sc W e c h
  have h' := h
  unfold chkE at h
  split at h
  · obtain ⟨ownN, wi, g, tt, te, A, B, D, E, F, I, J⟩ := snd_lc_core he hi hco c h'
    exact both_of (pe_imp (pe_lc c.calm (by rw [c.hN]; exact c.nd) A B D E F I) J) rfl
  · cases h
end
end TL

namespace TL
open PySem L2 PyProof.Rows
section
variable {X : Cx} {N : List Str} {G : GT} {k : Nat} {C : Cal} {cls : Nat → Value} {dp : Nat} {sc : Scope} {W : WX} {e : Expr} {es : List Expr} {m n l a b : E} {ms : List E}
/-- x in a name's own list -/
def rInOwn (K : KW) (neg : Bool) : R2 := fun x y H Q => ∃ (ω : Wd) (a : D) (ds : List D) (ad : Addr) (vs : List V) (kk : Bool), Rep K ω H a x ∧ y = .ref ad ∧ H ad = some (.lst vs) ∧ Reps K ω H ds vs ∧ inD a (.mlst ds) = some kk ∧ Q (.bl (if neg then !kk else kk)) H
theorem op_inOwn (hu : X.A.units + 65 < cLine) : OpR X (compareOp .In) (rInOwn X.kw false) := by
  refine opr_imp (op_inD hu) ?_
  rintro x y H Q ⟨ω, a, ds, ad, vs, kk, ra, rfl, ha, r, e, q⟩
  replace e : (if (a.shp && (D.lst ds).shp) = true then some (ds.any fun y => y.eqv a) else none) = some kk := e
  split at e
  · rename_i hc
    cases e
    rw [Bool.and_eq_true] at hc
    refine ⟨_, pys ds, Rep.dp a x (.inl hc.1) ra, .lst (SqL.of ha) (Reps.dp ds vs (canLayAll_of hc.2) r), hc.1, hc.2, ?_⟩
    rw [any_pys]
    exact q
  · cases e
theorem op_notInOwn (hu : X.A.units + 65 < cLine) : OpR X (compareOp .NotIn) (rInOwn X.kw true) := by
  refine opr_imp (op_notInD hu) ?_
  rintro x y H Q ⟨ω, a, ds, ad, vs, kk, ra, rfl, ha, r, e, q⟩
  replace e : (if (a.shp && (D.lst ds).shp) = true then some (ds.any fun y => y.eqv a) else none) = some kk := e
  split at e
  · rename_i hc
    cases e
    rw [Bool.and_eq_true] at hc
    refine ⟨_, pys ds, Rep.dp a x (.inl hc.1) ra, .lst (SqL.of ha) (Reps.dp ds vs (canLayAll_of hc.2) r), hc.1, hc.2, ?_⟩
    rw [any_pys]
    exact q
  · cases e
/-- .. or in a name's own dict -/
def rIn2 (K : KW) (neg : Bool) : R2 := fun x y H Q => rInOwn K neg x y H Q ∨ rMset K neg x y H Q
theorem snd_inOwn {neg : Bool} {i : Nat} (hm : SndE N G k C cls dp m) : SndE N G k C cls dp (.inOwn neg m i) := by
  intro X sc W e c h
  unfold chkE at h
  split at h
  · rename_i a op x p pos
    simp only [Bool.and_eq_true, decide_eq_true_eq] at h
    obtain ⟨⟨⟨⟨h1, h2⟩, h3⟩, h4⟩, h5⟩ := h
    have nm := nameOk_of h5
    have A := (hm X sc W a c h2).1
    have B : PE X (.Name x p) (tVar i) := pe_var (X := X) (i := i) (by rw [c.hN]; exact h3) (vis_of c.hsc h4) nm.d nm.c
    have u := units_of c
    have ho : OpR X (compareOp op) (rIn2 X.kw neg) := by
      cases neg with
      | true => rw [h1]; exact (op_notInOwn u).or (op_notInMset u)
      | false => rw [h1]; exact (op_inOwn u).or (op_inMset u)
    have key : ∀ σ H Q, tE X.kw C dp W cls (.inOwn neg m i) σ H Q → tOp (rIn2 X.kw neg) (tE X.kw C dp W cls m) (tVar i) σ H Q := by
      rintro σ H Q ⟨ω, ρ, st, hl, hs, hp⟩
      unfold ev at hp
      refine ⟨ω, ρ, st, hl, hs, (Post.bind hp).mono fun d st1 ω1 H1 x1 s1 q1 v r1 => ?_⟩
      split at q1
      · rename_i ds hd
        obtain ⟨w, e1, ad, vs, rfl, h2, w2, r2⟩ := (hl.ext x1).at_ i _ hd
        obtain ⟨d2, e2, q2⟩ := Post.lift q1
        cases q3 : inD d (.mlst ds) with
        | none => rw [q3] at e2; cases e2
        | some kk =>
          rw [q3] at e2
          cases e2
          exact ⟨_, e1, .inl ⟨ω1, d, ds, ad, vs, kk, r1, rfl, h2, r2, q3, q2 ω1 H1 .refl s1 _ rfl⟩⟩
      · rename_i ks hd
        obtain ⟨w, e1, ad, xs, rfl, h2, w2, r2⟩ := (hl.ext x1).at_ i _ hd
        obtain ⟨d2, e2, q2⟩ := Post.lift q1
        replace e2 : (if isKey d = true then some (ks.any fun y => y.eqv d) else none).map (fun b => TL.D.bl (if neg then !b else b)) = some d2 := e2
        by_cases hk : isKey d = true
        · rw [if_pos hk] at e2
          cases e2
          obtain ⟨ts, rfl⟩ := isKey_tup hk
          obtain ⟨l1, b, vs, rfl, q0⟩ := r1
          exact ⟨_, e1, .inr ⟨ω1, .tup ts, ks, ad, b, xs, rfl, rfl, (show Rep X.kw ω1 H1 (.tup ts) (.ref b) from ⟨l1, b, vs, rfl, q0⟩), hk, h2, r2, q2 ω1 H1 .refl s1 _ rfl⟩⟩
        · rw [if_neg hk] at e2
          cases e2
      · exact q1.elim
    exact ⟨pe_imp (pe_cmpR ho A B (set_ok rfl)) key, pt_imp (pt_cmpR ho A B (set_ok rfl)) fun σ H Q q => tTest_of q key⟩
  · cases h
theorem Post.ext {α : Type} {K : KW} {σ : L2.St} {ω ω1 : Wd} {H H1 : Hp} {r : R α} {P : α → Sto → Wd → Hp → Prop} (h : Post K dp W cls σ ω H r P) (x : Ext (dp + 1) ω H ω1 H1) : Post K dp W cls σ ω1 H1 r P := by
  cases r with
  | ok a st => exact fun ω' H' x' s => h ω' H' (x.trans x') s
  | exc c st => exact fun ω' H' x' s => h ω' H' (x.trans x') s
  | fail => exact h
/-- the pairs of a display -/
def trsOf (K : KW) (C : Cal) (dp : Nat) (W : WX) (cls : Nat → Value) : List Str → List E → List (TE × TE)
  | k :: ks, m :: ms => (tC (.str k), tE K C dp W cls m) :: trsOf K C dp W cls ks ms
  | _, _ => []
def kvV : List Str → List V → List (Key × V)
  | k :: ks, v :: vs => (.inr k, v) :: kvV ks vs
  | _, _ => []
theorem pps_of {pos : Pos} (c : Cok X G k C cls N sc W) : ∀ {ks : List Str} {ms : List E} {keys : List (Option Expr)} {values : List Expr}, (∀ m ∈ ms, SndE N G k C cls dp m) → dicKeys ks keys = true → chkEs N G ms sc values = true → ks.length = ms.length → PPs X pos keys values (trsOf X.kw C dp W cls ks ms)
  | [], [], keys, values, _, h1, h2, _ => by
    cases keys with
    | cons _ _ => cases h1
    | nil =>
      unfold chkEs at h2
      cases values with
      | cons _ _ => simp at h2
      | nil => exact pps_nil
  | kk :: ks, m :: ms, keys, values, hm, h1, h2, hl => by
    unfold dicKeys at h1
    split at h1
    · cases ‹_ :: _ = []›
    · rename_i k2 ks2 x j p es e1
      cases e1
      simp only [Bool.and_eq_true, decide_eq_true_eq] at h1
      obtain ⟨⟨rfl, h3⟩, h4⟩ := h1
      unfold chkEs at h2
      cases values with
      | nil => cases h2
      | cons v vs =>
        simp only [Bool.and_eq_true] at h2
        exact pps_cons pe_str (hm m List.mem_cons_self X sc W v c h2.1.1).1 (pps_of c (fun m' h => hm m' (List.mem_cons_of_mem _ h)) h4 h2.2 (Nat.succ.inj hl))
    · cases h1
theorem pairs_run {K : KW} {σ : L2.St} : ∀ {ks : List Str} {ms : List E} {ω : Wd} {ρ : Env} {st : Sto} {H : Hp} {Q : List (V × V) → Hp → Prop}, ks.length = ms.length → Loc K ω dp ρ σ H → StoOk K ω st H →
    Post K dp W cls σ ω H (evs C ms ρ st) (fun ds _ ω' H' => ∀ vs, Reps K ω' H' ds vs → Q ((kvV ks vs).map fun kv => (kV kv.1, kv.2)) H') → tPairs (trsOf K C dp W cls ks ms) σ H Q
  | [], [], ω, ρ, st, H, Q, _, hl, hs, hp => by
    unfold evs at hp
    exact hp ω H .refl hs [] rfl
  | kk :: ks, m :: ms, ω, ρ, st, H, Q, hn, hl, hs, hp => by
    unfold evs at hp
    refine ⟨ω, ρ, st, hl, hs, (Post.bind hp).mono fun d st1 ω1 H1 x1 s1 q1 v r1 => ?_⟩
    refine pairs_run (Nat.succ.inj hn) (hl.ext x1) s1 ((Post.bind q1).mono fun ds st2 ω2 H2 x2 s2 q2 vs r2 => ?_)
    exact q2 ω2 H2 .refl s2 (v :: vs) ⟨v, vs, rfl, r1.ext x2, r2⟩
theorem kvV_len : ∀ {ks : List Str} {vs : List V}, (kvV ks vs).length ≤ ks.length
  | [], _ => Nat.le_refl _
  | _ :: _, [] => Nat.zero_le _
  | _ :: _, _ :: _ => Nat.succ_le_succ kvV_len
theorem kvV_mem : ∀ {ks : List Str} {vs : List V} {kv : Key × V}, kv ∈ kvV ks vs → ∃ k ∈ ks, kv.1 = .inr k
  | k :: ks, v :: vs, kv, h => by
    rcases List.mem_cons.mp h with rfl | h
    · exact ⟨k, List.mem_cons_self, rfl⟩
    · obtain ⟨k', h1, h2⟩ := kvV_mem h
      exact ⟨k', List.mem_cons_of_mem _ h1, h2⟩
theorem merge_new : ∀ {ks : List Str} {vs : List V} {acc : List (Key × V)}, ks.Nodup → (∀ kv ∈ acc, ∀ k ∈ ks, kv.1 ≠ .inr k) → mergeK acc (kvV ks vs) = acc ++ kvV ks vs
  | [], _, acc, _, _ => by simp [kvV, mergeK]
  | _ :: _, [], acc, _, _ => by simp [kvV, mergeK]
  | k :: ks, v :: vs, acc, nd, h => by
    rw [List.nodup_cons] at nd
    have hp : putK acc (.inr k) v = acc ++ [(.inr k, v)] := by
      unfold putK
      rw [if_neg]
      intro e
      obtain ⟨kv, h1, h2⟩ := List.any_eq_true.mp e
      exact h kv h1 k List.mem_cons_self (of_decide_eq_true h2)
    show mergeK (putK acc (.inr k) v) (kvV ks vs) = _
    rw [hp, merge_new nd.2, List.append_assoc]
    · rfl
    · intro kv hk k' hk'
      rcases List.mem_append.mp hk with hk | hk
      · exact h kv hk k' (List.mem_cons_of_mem _ hk')
      · rw [List.mem_singleton.mp hk]
        intro e
        cases e
        exact nd.1 hk'
theorem repk_of {K : KW} {ω : Wd} {H : Hp} : ∀ {ks : List Str} {ds : List D} {vs : List V}, Reps K ω H ds vs → Repk K ω H (ks.zip ds) (kvV ks vs)
  | [], _, _, _ => by simp [Repk, kvV]
  | _ :: _, [], _, r => by
    cases r
    simp [Repk, kvV]
  | k :: ks, d :: ds, vs, r => by
    obtain ⟨v, r', rfl, h1, h2⟩ := r
    exact ⟨v, kvV ks r', rfl, h1, repk_of h2⟩
theorem Kept.writeD {ω : Wd} {H : Hp} {D₀ : Addr} {t : Root × List Str} {o : HO} {xs : List (Key × V)} (w : ω.wr D₀ = some t) (h : H D₀ = some (.dK xs)) : Kept ω H ω (upd H D₀ o) where
  mu := List.prefix_refl _
  tup := fun a ys e => by
    have ne : a ≠ D₀ := fun z => by rw [z, h] at e; cases e
    rw [upd_ne ne]; exact e
  frz := fun a o u e => by
    have ne : a ≠ D₀ := fun z => by rw [z, h] at e; cases e
    rw [upd_ne ne]; exact e
  lst := fun a ys e w' => by
    have ne : a ≠ D₀ := fun z => by rw [z, w] at w'; cases w'
    rw [upd_ne ne]; exact ⟨e, w'⟩
  dic := fun a ys e w' => by
    have ne : a ≠ D₀ := fun z => by rw [z, w] at w'; cases w'
    rw [upd_ne ne]; exact ⟨e, w'⟩
theorem keys_some : ∀ {ks : List Str} {keys : List (Option Expr)}, dicKeys ks keys = true → keys.all (·.isSome) = true ∧ keys.length = ks.length
  | [], [], _ => ⟨rfl, rfl⟩
  | [], _ :: _, h => by cases h
  | _ :: _, [], h => by cases h
  | k :: ks, none :: es, h => by cases h
  | k :: ks, some e :: es, h => by
    unfold dicKeys at h
    split at h
    · cases ‹_ :: _ = []›
    · rename_i e1 e2
      cases e1
      cases e2
      simp only [Bool.and_eq_true] at h
      obtain ⟨z1, z2⟩ := keys_some h.2
      exact ⟨by rw [List.all_cons, z1]; rfl, by rw [List.length_cons, List.length_cons, z2]⟩
    · cases h
theorem snd_dic {ks : List Str} (hm : ∀ m ∈ ms, SndE N G k C cls dp m) : SndE N G k C cls dp (.dic ks ms) := by
  intro X sc W e c h
  unfold chkE at h
  split at h
  · rename_i keys values pos
    simp only [Bool.and_eq_true, decide_eq_true_eq] at h
    obtain ⟨⟨⟨⟨⟨h1, h2⟩, h3⟩, h4⟩, h5⟩, h6⟩ := h
    obtain ⟨ka, kl⟩ := keys_some h1
    have hv := chkEs_length h2
    have kn : keys ≠ [] := by
      intro e
      rw [e] at kl
      have : ks = [] := List.length_eq_zero_iff.mp kl.symm
      rw [this] at h3
      cases h3
    refine both_of (pe_imp (pe_disp (pps_of c hm h1 h2 h5) ka (by rw [kl, h5]; exact hv.symm) kn (by rw [kl]; exact h4)) ?_) rfl
    rintro σ H Q ⟨ω, ρ, st, hl, hs, hp⟩ p hpn
    unfold ev at hp
    have x0 : Ext (dp + 1) ω H (ω.put p (.slot dp 0, [("" : Str)])) (upd H p (.dK [])) := .put hs.trk hpn
    refine pairs_run h5 (hl.ext x0) (hs.put hpn) ?_
    cases q : evs C ms ρ st with
    | fail => rw [q] at hp; exact hp.elim
    | exc cc st1 =>
      rw [q] at hp
      have hp : Post X.kw dp W cls σ ω H (R.exc cc st1 : R D) _ := hp
      exact fun ω' H' x s => hp ω' H' (x0.trans x) s
    | ok ds st1 =>
      rw [q] at hp
      have hp : Post X.kw dp W cls σ ω H (R.ok (D.dic (ks.zip ds)) st1) _ := hp
      intro ω1 H1 x1 s1 vs r1
      have fx := x1.fix p dp 0 [("" : Str)] Wd.put_same (Nat.lt_succ_self _)
      have w1 := fx.1.trans Wd.put_same
      have h1p : H1 p = some (.dK []) := fx.2.trans upd_same
      refine ⟨h1p, kvV ks vs, rfl, Nat.le_trans kvV_len h4, ?_⟩
      rw [merge_new h6 (fun _ z => by cases z), List.nil_append]
      have x2 : Ext (dp + 1) ω H ω1 H1 := x0.trans x1
      have x3 : Ext (dp + 1) ω H (ω1.free p) (upd H1 p (.dK (kvV ks vs))) := (x2.writeNew hs.trk hpn).freeNew hs.trk hpn
      have kw : Kept ω1 H1 ω1 (upd H1 p (.dK (kvV ks vs))) := .writeD w1 h1p
      refine hp (ω1.free p) _ x3 s1.write.free (.ref p) ⟨?_, p, kvV ks vs, rfl, upd_same, ?_, repk_of (Reps.kept .free _ _ (Reps.kept kw _ _ r1))⟩
      · rw [List.length_zip]
        have : (15 : Nat) ≤ sizeLine := by decide
        omega
      · show (if p = p then none else ω1.wr p) = none
        rw [if_pos rfl]
  · cases h
theorem snd_dget (hm : SndE N G k C cls dp m) (hn : SndE N G k C cls dp n) (hk : SndE N G k C cls dp l) : SndE N G k C cls dp (.dget m n l) := by
  intro X sc W e c h
  unfold chkE at h
  split at h
  · rename_i a x apos b f pos
    simp only [Bool.and_eq_true, decide_eq_true_eq] at h
    obtain ⟨⟨⟨⟨⟨⟨⟨rfl, h2⟩, h3⟩, h4⟩, h5⟩, h6⟩, h7⟩, h8⟩ := h
    have u := units_of c
    have tr : backTo pos (starEach [b, f] X.env) = [(false, eval b X.env), (false, eval f X.env)] := by
      rw [star_of h6 [f] X.env, star_of h8 [] X.env]; rfl
    have M : M2 X a "get" apos b f pos := ⟨attr_ok h2 _ _, by rw [tr]; rfl, h3, tr⟩
    refine both_of (pe_imp (pe_dget2 (by omega) (hm X sc W _ c h4).1 (hn X sc W _ c h5).1 (hk X sc W _ c h7).1 M) ?_) rfl
    rintro σ H Q ⟨ω, ρ, st, hl, hs, hp⟩
    unfold ev at hp
    refine ⟨ω, ρ, st, hl, hs, (Post.bind hp).mono fun x st1 ω1 H1 x1 s1 q1 v r1 => ?_⟩
    cases x <;> first | exact q1.elim | skip
    rename_i kvs
    obtain ⟨ln, ad, kws, rfl, ha, wa, rk⟩ := r1
    refine ⟨ad, rfl, .inl ⟨kws, .inl ha⟩, ω1, ρ, st1, hl.ext x1, s1, (Post.bind q1).mono fun y st2 ω2 H2 x2 s2 q2 w r2 => ?_⟩
    refine ⟨ω2, ρ, st2, (hl.ext x1).ext x2, s2, (Post.bind q2).mono fun z st3 ω3 H3 x3 s3 q3 w3 r3 => ?_⟩
    obtain ⟨d, e, q4⟩ := Post.lift q3
    cases y <;> first | (cases e; done) | skip
    rename_i key
    have rw2 : w = .str key := r2.1
    subst rw2
    obtain ⟨ha2, wa2⟩ := x2.kept.dic _ _ ha wa
    obtain ⟨ha3, wa3⟩ := x3.kept.dic _ _ ha2 wa2
    have rk3 := Repk.kept x3.kept _ _ (Repk.kept x2.kept _ _ rk)
    have vv := valV_repk (k := key) rk3
    have e : some ((kvs.lookup key).getD z) = some d := e
    cases q : kvs.lookup key with
    | none =>
      rw [q] at vv e
      cases e
      exact ⟨_, DGet.k (k := .inr key) ha3, by rw [show valV kws (.inr key) = none from vv]; exact q4 ω3 H3 .refl s3 _ r3⟩
    | some d' =>
      rw [q] at vv e
      cases e
      obtain ⟨v', e1, rv⟩ := vv
      exact ⟨_, DGet.k (k := .inr key) ha3, by rw [e1]; exact q4 ω3 H3 .refl s3 _ rv⟩
  · cases h
mutual
theorem snd : ∀ m : E, SndE N G k C cls dp m
  | .var i => snd_var i
  | .con d => snd_con d
  | .tup ms => snd_tup (snds ms)
  | .lst ms => snd_lst (snds ms)
  | .dic ks ms => snd_dic (snds ms)
  | .o1 o m => snd_o1 (snd m)
  | .o2 o m n => snd_o2 (snd m) (snd n)
  | .sm o m n => snd_sm (snd m) (snd n)
  | .chain o o' m n l => snd_chain (snd m) (snd n) (snd l)
  | .and ms => snd_andE (snds ms)
  | .or ms => snd_orE (snds ms)
  | .not m => snd_not (snd m)
  | .ife m n l => snd_ife (snd m) (snd n) (snd l)
  | .call f ms => snd_call (snds ms)
  | .sl m lo hi => snd_sl (snd m) (snds lo) (snds hi)
  | .dget m n l => snd_dget (snd m) (snd n) (snd l)
  | .lc elt tg ik ie cond own => snd_lc (snd elt) (snds ie) (snds cond)
  | .inOwn neg m i => snd_inOwn (snd m)
  | .srt m => snd_srt (snd m)
  | .minN m => snd_minN (snd m)
  | .lm o m n => snd_lm (snd m) (snd n)
theorem snds : ∀ ms : List E, ∀ m ∈ ms, SndE N G k C cls dp m
  | [], _, h => by cases h
  | m :: ms, m', h => by
    rcases List.mem_cons.mp h with e | h
    · rw [e]; exact snd m
    · exact snds ms m' h
end
end
end TL

namespace TL
open PySem L2 PyProof.Rows

/-- a, b = x, y with plain local names: stored from the right -/
def parOk (sc : Scope) : List Expr → List Expr → Bool
  | [.Name x px, .Name y py], [a, b] => (match sc.kind with | .function => true | _ => false) && lcl false sc x && lcl false sc y && !decide (x = y) && (px.line == py.line) && notStar a && notStar b && !([a, b].all (foldedForSure 8)) && !([a, b].all (constantsAlone 8))
  | _, _ => false
/-- a target that is no plain local name -/
def someCell (sc : Scope) : List Expr → Bool
  | .Name x _ :: es => (match sc.names.lookup x with | some .cell => true | _ => false) || someCell sc es
  | _ => false
def notTuple : Expr → Bool
  | .Tuple .. | .List .. => false
  | _ => true
/-- name = [.. for ..] with a plain local name on one line -/
def swLine (sc : Scope) (x : Str) (p : Pos) (scope : Scope) (pos : Pos) : Bool :=
  (match sc.kind with | .function => true | _ => false) && lcl false sc x && (p.line == pos.line) && !(scope.names.any fun (n, k) => n == x && (k == .local || k == .cell))
mutual
def chkS (N : List Str) (G : GT) : S → Scope → Stmt → Bool
  | .set i m, sc, st => match st with
    | .Assign [.Name x p] v pos => decide (N[i]? = some x) && lcl true sc x && chkE N G m sc v && (match v with
      | .ListComp _ [⟨_, _, _, 0⟩] scope pos' => (match m with | .lc .. => true | _ => false) && (swLine sc x p scope pos' || !lcl false sc x)
      | v => notComp v)
    | _ => false
  | .own i ms, sc, st => match st with
    | .Assign [.Name x p] (.List es _) pos => decide (N[i]? = some x) && lcl true sc x && decide (es.length ≤ 1000) && chkEs N G ms sc es
    | _ => false
  | .ownd i m, sc, st => match st with
    | .Assign [.Name x p] (.Dict [some kx] [.Constant (.bool true) _ _] _) pos => decide (N[i]? = some x) && lcl true sc x && chkE N G m sc kx
    | _ => false
  | .unpack is m, sc, st => match st with
    | .Assign [.Tuple ts kt pt] v pos => tgOk.tgs true N sc is is ts && notComp v && chkE N G m sc v && (match v with
      | .Tuple vs _ _ => (parOk sc ts vs && (match m with | .tup _ => true | _ => false) && decide (ts.length = 2) && decide (is.Nodup)) || someCell sc ts
      | .List .. => false
      | _ => true)
    | _ => false
  | .app i m, sc, st => match st with
    | .Expr (.Call (.Attribute (.Name x p) y apos) [a] [] cpos) pos => decide (N[i]? = some x) && vis sc x && nameOk x && decide (y = "append") && (apos.endLine == cpos.line) && chkE N G m sc a && notStar a
    | _ => false
  | .ext i m, sc, st => match st with
    | .Expr (.Call (.Attribute (.Name x p) y apos) [a] [] cpos) pos => decide (N[i]? = some x) && vis sc x && nameOk x && decide (y = "extend") && (apos.endLine == cpos.line) && chkE N G m sc a && notStar a
    | _ => false
  | .put i m, sc, st => match st with
    | .Assign [.Subscript (.Name x p) kx _] (.Constant (.bool true) _ _) pos => decide (N[i]? = some x) && vis sc x && nameOk x && notSlice kx && chkE N G m sc kx
    | _ => false
  | .freeze _, _, _ => false
  | .expr m, sc, st => match st with
    | .Expr v pos => notComp v && chkE N G m sc v
    | _ => false
  | .ifs c a b, sc, st => match st with
    | .If cx ax bx _ => chkE N G c sc cx && chkSs N G a sc ax && chkSs N G b sc bx
    | _ => false
  | .for tg ik ie body, sc, st => match st with
    | .For t it bx [] _ => tgOk true N sc (match tg with | .nm i => [i] | .tp is => is) tg t && notSet it && chkSs N G body sc bx &&
        (match itArgs G sc ik tg it with
          | some es => chkEs N G ie sc es
          | none => false)
    | _ => false
  | .while c body, sc, st => match st with
    | .While cx bx [] _ => chkE N G c sc cx && chkSs N G body sc bx
    | _ => false
  | .ret m, sc, st => match st with
    | .Return (some v) _ => chkE N G m sc v
    | _ => false
  | .retN, sc, st => match st with
    | .Return none _ => true
    | _ => false
  | .raise _, _, _ => false
  | .unpackL is m, sc, st => match st with
    | .Assign [.Tuple ts _ _] v pos => tgOk.tgs true N sc is is ts && notTuple v && chkE N G m sc v
    | _ => false
def chkSs (N : List Str) (G : GT) : List S → Scope → List Stmt → Bool
  | [], _, sts => sts.isEmpty
  | .freeze _ :: ms, sc, sts => chkSs N G ms sc sts
  | m :: ms, sc, sts => match sts with
    | st :: sts => chkS N G m sc st && chkSs N G ms sc sts
    | [] => false
end
/-- a def's own frame -/
structure CokS (X : Cx) (G : GT) (k : Nat) (C : Cal) (cls : Nat → Value) (N : List Str) (sc : Scope) (W : WX) : Prop extends Cok X G k C cls N sc W where
  fn : ∀ x, X.fn x = true
  po : PassesOwn (model X.prog X.w) X.A X.env X.xe

def PostS (K : KW) (dp : Nat) (W : WX) (cls : Nat → Value) (ω : Wd) (H : Hp) (r : Fl) (D : Ends) : Prop := match r with
  | .nx ρ' st' => ∀ ω' σ' H', Ext dp ω H ω' H' → Loc K ω' dp ρ' σ' H' → StoOk K ω' st' H' → D.nx σ' H'
  | .rt d st' => ∀ ω' v H', Ext dp ω H ω' H' → StoOk K ω' st' H' → Rep K ω' H' d v → D.rt v H'
  | .ex c ρ' st' => ∀ ω' σ' H', Ext dp ω H ω' H' → Loc K ω' dp ρ' σ' H' → StoOk K ω' st' H' → W (cls c) none σ' H'
  | .fail => False
def tS (K : KW) (dp : Nat) (W : WX) (cls : Nat → Value) (f : Env → Sto → Fl) : TS := fun D σ H => ∃ ω ρ st, Loc K ω dp ρ σ H ∧ StoOk K ω st H ∧ PostS K dp W cls ω H (f ρ st) D
def SndS (N : List Str) (G : GT) (k : Nat) (C : Cal) (cls : Nat → Value) (dp : Nat) (m : S) : Prop := ∀ (X : Cx) (sc : Scope) (W : WX) (st : Stmt), CokS X G k C cls N sc W → chkS N G m sc st = true → PS X st (tS X.kw dp W cls fun ρ s => exec C m ρ s)
def SndSs (N : List Str) (G : GT) (k : Nat) (C : Cal) (cls : Nat → Value) (dp : Nat) (ms : List S) : Prop := ∀ (X : Cx) (sc : Scope) (W : WX) (sts : List Stmt), CokS X G k C cls N sc W → chkSs N G ms sc sts = true → PSs X sts (tS X.kw dp W cls fun ρ s => execs C ms ρ s)
section
variable {X : Cx} {N : List Str} {G : GT} {k : Nat} {C : Cal} {cls : Nat → Value} {dp : Nat} {sc : Scope} {W : WX} {e : Expr} {es : List Expr} {m n l a b : E} {ms : List E}
variable {K : KW} {ω ω' ω'' : Wd} {H H' H'' : Hp} {D : Ends} {ρ : Env} {σ : L2.St} {st : Sto}
theorem ps_imp {s : Stmt} {t t' : TS} (h : PS X s t) (i : ∀ D σ H, t' D σ H → t D σ H) : PS X s t' := ⟨fun pins s σ H D I q => h.run pins s σ H D I (i D σ H q)⟩
theorem pss_imp {s : List Stmt} {t t' : TS} (h : PSs X s t) (i : ∀ D σ H, t' D σ H → t D σ H) : PSs X s t' := ⟨fun pins s σ H D I q => h.run pins s σ H D I (i D σ H q)⟩
theorem PostS.at {r : Fl} (h : PostS K dp W cls ω H r D) (x : Ext dp ω H ω' H') : PostS K dp W cls ω' H' r D := by
  cases r with
  | nx ρ' st' => exact fun ω2 σ2 H2 x2 l2 s2 => h ω2 σ2 H2 (x.trans x2) l2 s2
  | rt d st' => exact fun ω2 v H2 x2 s2 r2 => h ω2 v H2 (x.trans x2) s2 r2
  | ex c ρ' st' => exact fun ω2 σ2 H2 x2 l2 s2 => h ω2 σ2 H2 (x.trans x2) l2 s2
  | fail => exact h
theorem PostS.mono {r : Fl} {D' : Ends} (h : PostS K dp W cls ω H r D) (h1 : ∀ σ H, D.nx σ H → D'.nx σ H) (h2 : ∀ v H, D.rt v H → D'.rt v H) : PostS K dp W cls ω H r D' := by
  cases r with
  | nx ρ' st' => exact fun ω2 σ2 H2 x2 l2 s2 => h1 _ _ (h ω2 σ2 H2 x2 l2 s2)
  | rt d st' => exact fun ω2 v H2 x2 s2 r2 => h2 _ _ (h ω2 v H2 x2 s2 r2)
  | ex c ρ' st' => exact h
  | fail => exact h
/-- an expression, then the rest -/
theorem PostS.of {r : R TL.D} {f : TL.D → Sto → Fl} (hl : Loc K ω dp ρ σ H) (h : PostS K dp W cls ω H (Fl.of ρ r f) D) :
    Post K dp W cls σ ω H r fun d st1 ω1 H1 => PostS K dp W cls ω1 H1 (f d st1) D := by
  cases r with
  | ok d st1 => exact fun ω1 H1 x1 s1 => PostS.at h (x1.mono (Nat.le_succ _))
  | exc c st1 => exact fun ω1 H1 x1 s1 => h ω1 σ H1 (x1.mono (Nat.le_succ _)) (hl.ext x1) s1
  | fail => exact h
theorem PostS.ofs {r : R (List TL.D)} {f : List TL.D → Sto → Fl} (hl : Loc K ω dp ρ σ H) (h : PostS K dp W cls ω H (Fl.ofs ρ r f) D) :
    Post K dp W cls σ ω H r fun d st1 ω1 H1 => PostS K dp W cls ω1 H1 (f d st1) D := by
  cases r with
  | ok d st1 => exact fun ω1 H1 x1 s1 => PostS.at h (x1.mono (Nat.le_succ _))
  | exc c st1 => exact fun ω1 H1 x1 s1 => h ω1 σ H1 (x1.mono (Nat.le_succ _)) (hl.ext x1) s1
  | fail => exact h
/-- one statement, then the rest -/
theorem PostS.seq {r : Fl} {f : Env → Sto → Fl} (h : PostS K dp W cls ω H (r.seq f) D) : PostS K dp W cls ω H r { D with nx := fun σ H => tS K dp W cls f D σ H } := by
  cases r with
  | nx ρ' st' => exact fun ω2 σ2 H2 x2 l2 s2 => ⟨ω2, ρ', st', l2, s2, PostS.at h x2⟩
  | rt d st' => exact h
  | ex c ρ' st' => exact h
  | fail => exact h

theorem snd_ret : SndS N G k C cls dp (.ret m) := by
  intro X sc W st c h
  unfold chkS at h
  split at h
  · refine ps_imp (ps_ret (snd (dp := dp) m X sc W _ c.toCok h).1) ?_
    rintro D σ H ⟨ω, ρ, st, hl, hs, hp⟩
    unfold exec at hp
    refine ⟨ω, ρ, st, hl, hs, (PostS.of hl hp).mono fun d st1 ω1 H1 x1 s1 q1 v r1 => ?_⟩
    split at q1
    · exact q1.elim
    · exact q1 ω1 v H1 .refl s1 r1
  · cases h
theorem snd_retN : SndS N G k C cls dp .retN := by
  intro X sc W st c h
  unfold chkS at h
  split at h
  · refine ps_imp ps_retN ?_
    rintro D σ H ⟨ω, ρ, st, hl, hs, hp⟩
    unfold exec at hp
    exact hp ω _ H .refl hs rfl
  · cases h
theorem snd_expr : SndS N G k C cls dp (.expr m) := by
  intro X sc W st c h
  unfold chkS at h
  split at h
  · simp only [Bool.and_eq_true] at h
    refine ps_imp (ps_expr (snd (dp := dp) m X sc W _ c.toCok h.2).1 (swap_ok h.1 _ _ _)) ?_
    rintro D σ H ⟨ω, ρ, st, hl, hs, hp⟩
    unfold exec at hp
    refine ⟨ω, ρ, st, hl, hs, (PostS.of hl hp).mono fun d st1 ω1 H1 x1 s1 q1 v r1 => ?_⟩
    exact q1 ω1 σ H1 .refl (hl.ext x1) s1
  · cases h
theorem set_post {σ : L2.St} {i : Nat} (h : tS K dp W cls (fun ρ s => exec C (.set i m) ρ s) D σ H) : tAsg (tE K C dp W cls m) (gName i) D σ H := by
  obtain ⟨ω, ρ, st, hl, hs, hp⟩ := h
  unfold exec at hp
  refine ⟨ω, ρ, st, hl, hs, (PostS.of hl hp).mono fun d st1 ω1 H1 x1 s1 q1 v r1 => ?_⟩
  split at q1
  · exact q1.elim
  · exact q1 ω1 _ H1 .refl ((hl.ext x1).set (OwnR.of r1)) s1
theorem sw_false {x : Str} {p : Pos} {elt : Expr} {gs : List Comprehension} {scope : Scope} {pos : Pos} {ln : Nat} (hsc : X.env.scope = sc) (h : lcl false sc x = false) : swapsWith (.ListComp elt gs scope pos) (some (.Name x p)) ln X.env = pure false := by
  have q : (X.env.kindOf x == some .local) = false := by
    unfold Env.kindOf
    rw [hsc]
    unfold lcl at h
    revert h
    cases sc.names.lookup x with
    | none => intro _; rfl
    | some q => cases q <;> first | (intro h; cases h; done) | (intro _; rfl)
  unfold swapsWith
  show (pure _ : Sem Bool) = _
  simp only [q, Bool.and_false, Bool.false_and]
theorem snd_set {i : Nat} : SndS N G k C cls dp (.set i m) := by
  intro X sc W st c h
  unfold chkS at h
  split at h
  · rename_i x p v pos
    simp only [Bool.and_eq_true, decide_eq_true_eq] at h
    obtain ⟨⟨⟨h1, h2⟩, h3⟩, h4⟩ := h
    obtain ⟨q1, q2⟩ := lcl_of (X := X) c.hsc (fun _ => c.fn) h2
    have hN : X.N.Nodup := by rw [c.hN]; exact c.nd
    have hi : X.N[i]? = some x := by rw [c.hN]; exact h1
    split at h4
    · rename_i elt t it ifs scope pos'
      simp only [Bool.and_eq_true, Bool.or_eq_true, Bool.not_eq_true'] at h4
      obtain ⟨h5, h6⟩ := h4
      rcases h6 with h6 | h6
      · cases m <;> first | (cases h5; done) | skip
        rename_i elt' tg ik ie cond own
        obtain ⟨ownN, wi, g, tt, te, A, B, D, E, F, I, J⟩ := snd_lc_core (dp := dp) (snd elt') (snds ie) (snds cond) c.toCok h3
        unfold swLine at h6
        simp only [Bool.and_eq_true, Bool.not_eq_true'] at h6
        obtain ⟨⟨⟨k1, k2⟩, k3⟩, k4⟩ := h6
        have hl : X.env.scope.names.lookup x = some .local := by
          rw [c.hsc]
          unfold lcl at k2
          revert k2
          cases sc.names.lookup x with
          | none => intro h; cases h
          | some q => cases q <;> first | (intro _; rfl) | (intro h; cases h)
        have hk : X.env.scope.kind = .function := by
          rw [c.hsc]
          revert k1
          cases sc.kind <;> first | (intro _; rfl) | (intro h; cases h)
        refine ps_imp (ps_setLc (i := i) c.calm hN hi hl (sw_true hk hl k3 k4) A B D E F I) ?_
        rintro D σ H q
        exact J σ H _ (set_post q)
      · exact ps_imp (ps_set (i := i) hN hi q1 (snd (dp := dp) m X sc W _ c.toCok h3).1 (sw_false c.hsc h6) q2) fun D σ H q => set_post q
    · exact ps_imp (ps_set (i := i) hN hi q1 (snd (dp := dp) m X sc W _ c.toCok h3).1 (swap_ok h4 _ _ _) q2) fun D σ H q => set_post q
  · cases h
theorem snd_own {i : Nat} : SndS N G k C cls dp (.own i ms) := by
  intro X sc W st c h
  unfold chkS at h
  split at h
  · rename_i x p es p2 pos
    simp only [Bool.and_eq_true, decide_eq_true_eq] at h
    obtain ⟨⟨⟨h1, h2⟩, h3⟩, h4⟩ := h
    obtain ⟨q1, q2⟩ := lcl_of (X := X) c.hsc (fun _ => c.fn) h2
    have hN : X.N.Nodup := by rw [c.hN]; exact c.nd
    have hi : X.N[i]? = some x := by rw [c.hN]; exact h1
    obtain ⟨A, B⟩ := snd_es (dp := dp) (snds ms) X sc W es c.toCok h4
    have ln := chkEs_length h4
    refine ps_imp (ps_set (i := i) hN hi q1 (pe_lst A) (swap_ok rfl _ _ _) q2) ?_
    rintro D σ H ⟨ω, ρ, st, hl, hs, hp⟩
    unfold exec at hp
    refine ⟨ω, ρ, st, hl, hs, (PostS.ofs hl hp).len.mono fun ds st1 ω1 H1 x1 s1 ⟨l1, q1⟩ vs r1 => ⟨?_, fun a ha => ?_⟩⟩
    · rw [r1.length, l1, ← ln]
      exact le_line h3
    · have xp : Ext (dp + 1) ω1 H1 (ω1.put a (.slot dp i, [])) (upd H1 a (.lst vs)) := .put s1.trk ha
      refine q1 (ω1.put a (.slot dp i, [])) _ _ (xp.mono (Nat.le_succ _)) (((hl.ext x1).ext xp).set ?_) (s1.put ha)
      exact ⟨a, vs, rfl, upd_same, Wd.put_same, r1.ext xp⟩
  · cases h

end
open AutoSeq1 in
theorem extend_list_tup (l : Addr) (items : Array Value) (n : Nat) (b : Addr) (items2 : Array Value) (n2 : Nat) (dd2 : Option Addr) (sl2 : Array (Option Value)) (hs0 : ¬(!items.isEmpty && Builtin.List.listTooLong (items.size + items2.size)) = true) (hs1 : items.size ≤ sizeLine) (hs2 : items.size + items2.size ≤ sizeLine + 1) :
    Meets (Builtin.«list.extend» ⟨[.ref l, .ref b], []⟩) (fun _ R s => s.heap.get? l = some { cls := .type "list", dict := none, data := .seq items n, slots := #[] } ∧ s.heap.get? b = some { cls := .type "tuple", dict := dd2, data := .seq items2 n2, slots := sl2 } ∧ R (.ok (.ret Value.none)) { s with heap := s.heap.update l (Obj.mapSeq fun x => x ++ items2), toks := s.toks }) :=
  .of_wp fun prog w A R s h => by
    obtain ⟨hp, g, d, tk, os⟩ := s; obtain ⟨hl, hb, h⟩ := h; have f1 := idx_int; have f2 := AutoSeq1.sub_tuple_tuple; have f3 := AutoSeq1.sub_list_list; have f4 := AutoSeq1.sub_tuple_list; have f5 := AutoSeq1.sub_list_tuple;
    have hz' : (items ++ items2).size ≤ sizeLine + 1 := by rw [Array.size_append]; exact hs2
    wp_walk using (wpAny_updateSeq hl rfl (hz := hs1) (_hz' := hz')), wpAny_loadPart' hl, wpAny_loadPart' hb; exact ⟨_, rfl, h⟩
section
variable {X : Cx} {N : List Str} {G : GT} {k : Nat} {C : Cal} {cls : Nat → Value} {dp : Nat} {sc : Scope} {W : WX} {e : Expr} {es : List Expr} {m n l a b : E} {ms : List E}
variable {K : KW} {ω ω' ω'' : Wd} {H H' H'' : Hp} {D : Ends} {ρ : Env} {σ : L2.St} {st : Sto}
theorem Ext.write {d i : Nat} {p : List Str} {a : Addr} {o : HO} {xs : List V} (w : ω.wr a = some (.slot d i, p)) (h : H a = some (.lst xs)) : Ext d ω H ω (upd H a o) where
  kept := .write w h
  fix := fun b k j q e hk => by
    have ne : b ≠ a := fun z => by
      rw [z, w] at e
      cases e
      exact absurd hk (Nat.lt_irrefl _)
    exact ⟨rfl, upd_ne ne⟩
theorem Loc.write {i : Nat} {a : Addr} {vs xs : List V} {ds : List TL.D} (hl : Loc K ω dp ρ σ H) (hs : σ[i]? = some (some (.ref a))) (w : ω.wr a = some (.slot dp i, [])) (h : H a = some (.lst xs)) (r : Reps K ω H ds vs) :
    Loc K ω dp (ρ.set i (some (.mlst ds))) σ (upd H a (.lst vs)) :=
  ⟨by rw [List.length_set]; exact hl.len, fun j d e => by
    have kw : Kept ω H ω (upd H a (.lst vs)) := .write w h
    by_cases hj : j = i
    · subst hj
      by_cases hlt : j < ρ.length
      · rw [List.getElem?_set_self hlt] at e
        cases e
        exact ⟨_, hs, a, vs, rfl, upd_same, w, Reps.kept kw _ _ r⟩
      · rw [List.getElem?_eq_none (by rw [List.length_set]; omega)] at e
        cases e
    · rw [List.getElem?_set_ne (Ne.symm hj)] at e
      obtain ⟨v', e', r'⟩ := hl.at_ j d e
      refine ⟨v', e', ?_⟩
      cases d with
      | mlst ds' =>
        obtain ⟨a', vs', e1, h1, w1, r1⟩ := r'
        have ne : a' ≠ a := fun z => by
          rw [z, w] at w1
          cases w1
          exact hj rfl
        exact ⟨a', vs', e1, by rw [upd_ne ne]; exact h1, w1, Reps.kept kw _ _ r1⟩
      | mset ds' =>
        obtain ⟨a', vs', e1, h1, w1, r1⟩ := r'
        have ne : a' ≠ a := fun z => by
          rw [z, w] at w1
          cases w1
          exact hj rfl
        exact ⟨a', vs', e1, by rw [upd_ne ne]; exact h1, w1, KeysR.kept kw r1⟩
      | _ => first | exact Rep.kept kw _ _ r' | exact r'.elim⟩
theorem few_of {a : Expr} {cpos : Pos} (h : notStar a = true) : ((backTo cpos (starEach [a] X.env)).all (fun x => !x.1) && (backToKw cpos (keywordEach [] X.env)).all (fun x => x.1.isSome)
      && decide (([a] : List Expr).length + ([] : List Keyword).length + (if ([] : List Keyword).isEmpty then 0 else 1) < 30)) = true := by
  rw [star_of h [] X.env]; rfl
theorem snd_app {i : Nat} : SndS N G k C cls dp (.app i m) := by
  intro X sc W st c h
  unfold chkS at h
  split at h
  · rename_i x p y apos a cpos pos
    simp only [Bool.and_eq_true, decide_eq_true_eq] at h
    obtain ⟨⟨⟨⟨⟨⟨h1, h2⟩, h3⟩, rfl⟩, h5⟩, h6⟩, h7⟩ := h
    have nm := nameOk_of h3
    have B : PE X (.Name x p) (tVar i) := pe_var (X := X) (i := i) (by rw [c.hN]; exact h1) (vis_of c.hsc h2) nm.d nm.c
    have P : PA X [a] (tCons (tE X.kw C dp W cls m) tNil) := pa_cons (snd (dp := dp) m X sc W _ c.toCok h6).1 pa_nil (star_of h7 [] X.env)
    refine ps_imp (ps_expr (pe_bm PySem.F.plainAttrs_list PySem.F.slot_list_append PySem.F.type_list_append mt_append B P (attr_ok rfl _ _) (few_of h7) h5 (star_of h7 [] X.env) rfl) (swap_ok rfl _ _ _)) ?_
    rintro D σ H ⟨ω, ρ, st, hl, hs, hp⟩
    unfold exec at hp
    dsimp only at hp
    split at hp
    · rename_i ds hd
      obtain ⟨v, e1, ad, vs, rfl, h2, w2, r2⟩ := hl.at_ i _ hd
      refine ⟨_, e1, .inl ⟨rfl, _, SqL.of h2⟩, ω, ρ, st, hl, hs, (PostS.of hl hp).mono fun d st1 ω1 H1 x1 s1 q1 w r1 => ?_⟩
      obtain ⟨f1, f2⟩ := x1.fix ad dp i [] w2 (Nat.lt_succ_self _)
      have h3 : H1 ad = some (.lst vs) := f2.trans h2
      have w3 := f1.trans w2
      have r3 := r2.ext x1
      split at q1
      · exact q1.elim
      · split at q1
        · rename_i hlen
          refine ⟨ad, vs, w, rfl, rfl, h3, by rw [r3.length]; exact hlen, ?_⟩
          exact q1 ω1 σ _ (.write w3 h3) ((hl.ext x1).write e1 w3 h3 (r3.append ⟨w, [], rfl, r1, rfl⟩)) s1.write
        · exact q1.elim
    · exact hp.elim
  · cases h
theorem mt_extendT : MtR X "list.extend" (fun x vs H Q => ∃ l b xs zs, x = .ref l ∧ vs = [.ref b] ∧ H l = some (.lst xs) ∧ SqT X.kw H b zs ∧ xs.length + zs.length ≤ sizeLine ∧ Q .non (upd H l (.lst (xs ++ zs)))) := by
  intro pins s σ H x vs v us Q I rx rv h
  obtain ⟨l, b, xs, zs, rfl, rfl, hH, hB, hz, q⟩ := h
  cases rx
  obtain ⟨u, rfl, ru⟩ := rv.one
  cases ru
  obtain ⟨z, its, n, r, hl, e⟩ := I.lstM hH
  obtain ⟨its2, r2, ⟨⟨cls2, dd2, dt2, sl2⟩, e2, c2, n2, d2⟩, hl2⟩ := I.tuple hB
  simp only at c2 d2
  subst c2 d2
  have le2 := r2.length
  have hsz : its.toArray.size + its2.toArray.size ≤ sizeLine := by rw [List.size_toArray, List.size_toArray]; omega
  have hlong : ¬ (!its.toArray.isEmpty && Builtin.List.listTooLong (its.toArray.size + its2.toArray.size)) = true := by
    rw [L2.notLongL hsz, Bool.and_false]
    exact Bool.false_ne_true
  refine call_meets F.slot_list_extend ⟨_, e, rfl⟩ F.entry_list_extend (F.args_list_extend_2 _ _)
    (extend_list_tup l its.toArray n b its2.toArray n2 dd2 sl2 hlong (by rw [List.size_toArray]; omega) (by omega)) ⟨e, e2, ?_⟩
  refine ⟨.non, _, I.lset (its' := its ++ its2) hH e (by simp) (r.append r2) ?_, rfl, q⟩
  rw [List.length_append]
  omega
theorem snd_ext {i : Nat} : SndS N G k C cls dp (.ext i m) := by
  intro X sc W st c h
  unfold chkS at h
  split at h
  · rename_i x p y apos a cpos pos
    simp only [Bool.and_eq_true, decide_eq_true_eq] at h
    obtain ⟨⟨⟨⟨⟨⟨h1, h2⟩, h3⟩, rfl⟩, h5⟩, h6⟩, h7⟩ := h
    have nm := nameOk_of h3
    have B : PE X (.Name x p) (tVar i) := pe_var (X := X) (i := i) (by rw [c.hN]; exact h1) (vis_of c.hsc h2) nm.d nm.c
    have P : PA X [a] (tCons (tE X.kw C dp W cls m) tNil) := pa_cons (snd (dp := dp) m X sc W _ c.toCok h6).1 pa_nil (star_of h7 [] X.env)
    refine ps_imp (ps_expr (pe_bm PySem.F.plainAttrs_list PySem.F.slot_list_extend PySem.F.type_list_extend (MtR.or mt_extend mt_extendT) B P (attr_ok rfl _ _) (few_of h7) h5 (star_of h7 [] X.env) rfl) (swap_ok rfl _ _ _)) ?_
    rintro D σ H ⟨ω, ρ, st, hl, hs, hp⟩
    unfold exec at hp
    dsimp only at hp
    split at hp
    · rename_i ds hd
      obtain ⟨v, e1, ad, vs, rfl, h2, w2, r2⟩ := hl.at_ i _ hd
      refine ⟨_, e1, .inl ⟨rfl, _, SqL.of h2⟩, ω, ρ, st, hl, hs, (PostS.of hl hp).mono fun d st1 ω1 H1 x1 s1 q1 w r1 => ?_⟩
      obtain ⟨f1, f2⟩ := x1.fix ad dp i [] w2 (Nat.lt_succ_self _)
      have h3 : H1 ad = some (.lst vs) := f2.trans h2
      have w3 := f1.trans w2
      have r3 := r2.ext x1
      split at q1
      · split at q1
        · rename_i hlen
          obtain ⟨_, a2, ws, rfl, h4, w4, r4⟩ := r1
          refine .inl ⟨ad, a2, vs, ws, rfl, rfl, h3, h4, by rw [r3.length, r4.length]; exact hlen, ?_⟩
          exact q1 ω1 σ _ (.write w3 h3) ((hl.ext x1).write e1 w3 h3 (r3.append r4)) s1.write
        · exact q1.elim
      · split at q1
        · rename_i hlen
          obtain ⟨_, a2, ws, rfl, h4, r4⟩ := r1
          refine .inr ⟨ad, a2, vs, ws, rfl, rfl, h3, h4, by rw [r3.length, r4.length]; exact hlen, ?_⟩
          exact q1 ω1 σ _ (.write w3 h3) ((hl.ext x1).write e1 w3 h3 (r3.append r4)) s1.write
        · exact q1.elim
      · exact q1.elim
    · exact hp.elim
  · cases h
theorem Kept.writeM {a : Addr} {w₀ : World} {xs : List (NestedKey × Addr)} {t : Root × List Str} {o : HO} (w : ω.wr a = some t) (h : H a = some (msetO w₀ a xs)) : Kept ω H ω (upd H a o) where
  mu := List.prefix_refl _
  tup := fun b ys e => by
    have ne : b ≠ a := fun z => by rw [z, h] at e; cases e
    rw [upd_ne ne]; exact e
  frz := fun b o u e => by
    have ne : b ≠ a := fun z => by rw [z, h] at e; cases e
    rw [upd_ne ne]; exact e
  lst := fun b ys e w' => by
    have ne : b ≠ a := fun z => by rw [z, w] at w'; cases w'
    rw [upd_ne ne]; exact ⟨e, w'⟩
  dic := fun b ys e w' => by
    have ne : b ≠ a := fun z => by rw [z, w] at w'; cases w'
    rw [upd_ne ne]; exact ⟨e, w'⟩
theorem Ext.writeM {d i : Nat} {p : List Str} {a : Addr} {o : HO} {w₀ : World} {xs : List (NestedKey × Addr)} (w : ω.wr a = some (.slot d i, p)) (h : H a = some (msetO w₀ a xs)) : Ext d ω H ω (upd H a o) where
  kept := .writeM w h
  fix := fun b k j q e hk => by
    have ne : b ≠ a := fun z => by
      rw [z, w] at e
      cases e
      exact absurd hk (Nat.lt_irrefl _)
    exact ⟨rfl, upd_ne ne⟩
theorem Loc.writeM {i : Nat} {a : Addr} {xs ys : List (NestedKey × Addr)} {ds : List TL.D} (hl : Loc K ω dp ρ σ H) (hs : σ[i]? = some (some (.ref a))) (w : ω.wr a = some (.slot dp i, [])) (h : H a = some (msetO K.w a xs)) (r : KeysR K ω H ds ys) :
    Loc K ω dp (ρ.set i (some (.mset ds))) σ (upd H a (msetO K.w a ys)) :=
  ⟨by rw [List.length_set]; exact hl.len, fun j d e => by
    have kw : Kept ω H ω (upd H a (msetO K.w a ys)) := .writeM w h
    by_cases hj : j = i
    · subst hj
      by_cases hlt : j < ρ.length
      · rw [List.getElem?_set_self hlt] at e
        cases e
        exact ⟨_, hs, a, ys, rfl, upd_same, w, r.kept kw⟩
      · rw [List.getElem?_eq_none (by rw [List.length_set]; omega)] at e
        cases e
    · rw [List.getElem?_set_ne (Ne.symm hj)] at e
      obtain ⟨v', e', r'⟩ := hl.at_ j d e
      refine ⟨v', e', ?_⟩
      cases d with
      | mlst ds' =>
        obtain ⟨a', vs', e1, h1, w1, r1⟩ := r'
        have ne : a' ≠ a := fun z => by
          rw [z, w] at w1
          cases w1
          exact hj rfl
        exact ⟨a', vs', e1, by rw [upd_ne ne]; exact h1, w1, Reps.kept kw _ _ r1⟩
      | mset ds' =>
        obtain ⟨a', vs', e1, h1, w1, r1⟩ := r'
        have ne : a' ≠ a := fun z => by
          rw [z, w] at w1
          cases w1
          exact hj rfl
        exact ⟨a', vs', e1, by rw [upd_ne ne]; exact h1, w1, KeysR.kept kw r1⟩
      | _ => first | exact Rep.kept kw _ _ r' | exact r'.elim⟩
theorem keysR_app {d : TL.D} {b : Addr} (i : isKey d = true) (h : Rep K ω H d (.ref b)) : ∀ {ds : List TL.D} {xs : List (NestedKey × Addr)}, KeysR K ω H ds xs → KeysR K ω H (ds ++ [d]) (xs ++ [(nk d, b)])
  | [], xs, r => by
    rw [show xs = [] from r]
    exact ⟨b, [], rfl, i, h, rfl⟩
  | e :: ds, xs, r => by
    obtain ⟨b', r', rfl, i', h1, h2⟩ := r
    exact ⟨b', r' ++ [(nk d, b)], rfl, i', h1, keysR_app i h h2⟩
theorem rep_key {d : TL.D} {v : V} (hk : isKey d = true) (r : Rep K ω H d v) : ∃ b, v = .ref b := by
  obtain ⟨ts, rfl⟩ := isKey_tup hk
  obtain ⟨l1, b, vs, rfl, q0⟩ := r
  exact ⟨b, rfl⟩
theorem snd_ownd {i : Nat} : SndS N G k C cls dp (.ownd i m) := by
  intro X sc W st c h
  unfold chkS at h
  split at h
  · rename_i x p kx j p2 p3 pos
    simp only [Bool.and_eq_true, decide_eq_true_eq] at h
    obtain ⟨⟨h1, h2⟩, h3⟩ := h
    obtain ⟨q1, q2⟩ := lcl_of (X := X) c.hsc (fun _ => c.fn) h2
    have hN : X.N.Nodup := by rw [c.hN]; exact c.nd
    have hi : X.N[i]? = some x := by rw [c.hN]; exact h1
    have u := units_of c.toCok
    refine ps_imp (ps_set (i := i) hN hi q1 (pe_dispM u (snd (dp := dp) m X sc W _ c.toCok h3).1) (swap_ok rfl _ _ _) q2) ?_
    rintro D σ H ⟨ω, ρ, st, hl, hs, hp⟩ a ha
    unfold exec at hp
    have x0 : Ext (dp + 1) ω H (ω.put a (.slot dp i, [])) (upd H a (msetO X.w a [])) := .put hs.trk ha
    refine ⟨_, ρ, st, hl.ext x0, hs.put ha, ((PostS.of hl hp).ext x0).mono fun d st1 ω1 H1 x1 s1 q1 v r1 => ?_⟩
    split at q1
    · rename_i hk
      obtain ⟨b, rfl⟩ := rep_key hk r1
      have fx := x1.fix a dp i [] Wd.put_same (Nat.lt_succ_self _)
      have w1 := fx.1.trans Wd.put_same
      have h1p : H1 a = some (msetO X.w a []) := fx.2.trans upd_same
      have x2 := x0.trans x1
      refine ⟨ω1, d, b, rfl, r1, hk, h1p, ?_⟩
      have x3 : Ext dp ω1 H1 ω1 (upd H1 a (msetO X.w a [(nk d, b)])) := .writeM w1 h1p
      refine q1 ω1 _ _ x3 ?_ s1.write
      have hl2 : Loc X.kw ω1 dp ρ σ H1 := hl.ext x2
      have hl3 : Loc X.kw ω1 dp ρ σ (upd H1 a (msetO X.w a [(nk d, b)])) := ⟨hl2.len, fun j d' e => by
        obtain ⟨v', e', r'⟩ := hl.at_ j d' e
        have kw : Kept ω1 H1 ω1 (upd H1 a (msetO X.w a [(nk d, b)])) := .writeM w1 h1p
        refine ⟨v', e', ?_⟩
        have nea : ∀ b', H b' ≠ none → b' ≠ a := fun b' z e => z (by rw [e]; exact ha)
        cases d' with
        | mlst ds' =>
          obtain ⟨a', vs', e1, g1, g2, g3⟩ := r'
          have ne := nea a' (by rw [g1]; simp)
          obtain ⟨f1, f2⟩ := x2.fix a' dp j [] g2 (Nat.lt_succ_self _)
          exact ⟨a', vs', e1, by rw [upd_ne ne]; exact f2.trans g1, f1.trans g2, Reps.kept kw _ _ (g3.ext x2)⟩
        | mset ds' =>
          obtain ⟨a', vs', e1, g1, g2, g3⟩ := r'
          have ne := nea a' (by rw [g1]; simp)
          obtain ⟨f1, f2⟩ := x2.fix a' dp j [] g2 (Nat.lt_succ_self _)
          exact ⟨a', vs', e1, by rw [upd_ne ne]; exact f2.trans g1, f1.trans g2, KeysR.kept kw (g3.kept x2.kept)⟩
        | _ => first | exact Rep.kept kw _ _ (Rep.ext x2 r') | exact r'.elim⟩
      exact hl3.set ⟨a, [(nk d, b)], rfl, upd_same, w1, b, [], rfl, hk, Rep.kept (.writeM w1 h1p) _ _ r1, rfl⟩
    · exact q1.elim
  · cases h
end
end TL

namespace TL
open PySem L2 PyProof.Rows
section
variable {X : Cx} {N : List Str} {G : GT} {k : Nat} {C : Cal} {cls : Nat → Value} {dp : Nat} {sc : Scope} {W : WX} {e : Expr} {es : List Expr} {m n l a b : E} {ms : List E}
variable {K : KW} {ω ω' ω'' : Wd} {H H' H'' : Hp} {D : Ends} {ρ : Env} {σ : L2.St} {st : Sto}
theorem lcl_local {x : Str} (hsc : X.env.scope = sc) (h : lcl false sc x = true) : X.env.kindOf x = some .local := by
  unfold Env.kindOf
  rw [hsc]
  unfold lcl at h
  revert h
  cases sc.names.lookup x with
  | none => intro h; cases h
  | some q => cases q <;> first | (intro _; rfl) | (intro h; cases h)
theorem par_of {ts vs : List Expr} {kt k2 : Nat} {pt p2 : Pos} (hsc : X.env.scope = sc) (h : parOk sc ts vs = true) : ∃ x px y py a b, ts = [.Name x px, .Name y py] ∧ vs = [a, b] ∧ X.env.scope.names.lookup x = some .local ∧ X.env.scope.names.lookup y = some .local ∧
    swappedStores [.Tuple ts kt pt] (.Tuple vs k2 p2) X.env = pure (some [x, y]) ∧ x ≠ y := by
  unfold parOk at h
  split at h
  · rename_i x px y py a b
    simp only [Bool.and_eq_true, Bool.not_eq_true', decide_eq_false_iff_not] at h
    obtain ⟨⟨⟨⟨⟨⟨⟨⟨h1, h2⟩, h3⟩, h4⟩, h5⟩, h6⟩, h7⟩, h8⟩, h9⟩ := h
    have k1 := lcl_local hsc h2
    have k2' := lcl_local hsc h3
    have hk : X.env.scope.kind = .function := by
      rw [hsc]
      revert h1
      cases sc.kind <;> first | (intro _; rfl) | (intro h; cases h)
    have hb : X.env.blockKind = .function := by unfold Env.blockKind; rw [hk]; rfl
    have e5 : px.line = py.line := by simpa using h5
    refine ⟨x, px, y, py, a, b, rfl, rfl, k1, k2', ?_, h4⟩
    unfold swappedStores
    have ha : ([a, b].any fun | .Starred .. => true | _ => false) = false := by
      rw [List.any_cons, List.any_cons, List.any_nil]
      cases a <;> cases b <;> first | rfl | (simp [notStar] at h6; done) | (simp [notStar] at h7; done)
    have hne : ¬ y = x := fun z => h4 z.symm
    have q1 : (y == x) = false := by simpa using hne
    have ed : ([x, y] : List Str).eraseDups = [x, y] := by
      simp [List.eraseDups, List.eraseDupsBy, List.eraseDupsBy.loop, q1]
    have fm : (([.Name x px, .Name y py] : List Expr).filterMap fun
        | .Name id pos => if X.env.kindOf id == some .local && pos.line == ((([.Name x px, .Name y py] : List Expr).head?.map (·.pos.line)).getD 0) then some id else none
        | _ => none) = [x, y] := by
      simp [k1, k2', e5, Expr.pos]
    have hb' : (X.env.blockKind != ScopeKind.function) = false := by rw [hb]; rfl
    have key : ∀ names : List Str, names = [x, y] → ¬ ((names.length != 2 || names.eraseDups.length != names.length) = true) := by
      rintro _ rfl
      rw [ed]
      simp
    first | unfold swappedStores | skip
    refine (if_neg ?_).trans ((if_neg ?_).trans ((if_neg ?_).trans ((if_neg ?_).trans ((if_neg ?_).trans ?_))))
    · rw [hb']
      simp
    · rw [Bool.not_eq_true]
      exact ha
    · exact key _ fm
    · rw [h8]
      simp
    · rw [h9]
      simp
    · exact congrArg (fun z => (pure (some z) : Sem (Option (List Str)))) fm
  · cases h
theorem cell_none {ts vs : List Expr} {kt k2 : Nat} {pt p2 : Pos} (hsc : X.env.scope = sc) (h : someCell sc ts = true) : swappedStores [.Tuple ts kt pt] (.Tuple vs k2 p2) X.env = pure none := by
  have key : ∀ (ts : List Expr) (ln : Nat), someCell sc ts = true → ((ts.filterMap fun
        | .Name id pos => if X.env.kindOf id == some .local && pos.line == ln then some id else none
        | _ => none).length != ts.length) = true := by
    intro ts ln h
    have le : ∀ ts : List Expr, (ts.filterMap fun
        | .Name id pos => if X.env.kindOf id == some .local && pos.line == ln then some id else none
        | _ => none).length ≤ ts.length := fun ts => List.length_filterMap_le _ _
    have lt : ∀ ts : List Expr, someCell sc ts = true → (ts.filterMap fun
        | .Name id pos => if X.env.kindOf id == some .local && pos.line == ln then some id else none
        | _ => none).length < ts.length := by
      intro ts
      induction ts with
      | nil => intro h; simp [someCell] at h
      | cons t ts ih =>
        intro h
        cases t <;> first | (simp [someCell] at h; done) | skip
        rename_i x p
        simp only [someCell, Bool.or_eq_true] at h
        rw [List.length_cons]
        by_cases hx : (X.env.kindOf x == some .local && p.line == ln) = true
        · rcases h with h | h
          · exfalso
            simp only [Bool.and_eq_true, beq_iff_eq] at hx
            have q := hx.1
            unfold Env.kindOf at q
            rw [hsc] at q
            rw [q] at h
            cases h
          · rw [List.filterMap_cons]
            simp only [hx, if_true, List.length_cons]
            exact Nat.succ_lt_succ (ih h)
        · rw [List.filterMap_cons]
          simp only [hx, if_false]
          exact Nat.lt_succ_of_le (le ts)
    have := lt ts h
    rw [bne_iff_ne]
    omega
  have q := key ts ((ts.head?.map (·.pos.line)).getD 0) h
  first | unfold swappedStores | skip
  split
  · rename_i heq
    cases heq
    split
    · rfl
    · split
      · rfl
      · refine (if_pos ?_).trans rfl
        rw [Bool.or_eq_true]
        exact .inl q
  · rename_i hno
    exact (hno ts vs rfl).elim
theorem swappedE {tg e : Expr} (h : notTuple e = true) (env : PySem.Env) : swappedStores [tg] e env = pure none := by
  unfold swappedStores
  split
  · rename_i heq
    revert heq
    cases e <;> cases tg <;> first | (intro h; cases h; done) | (simp [notTuple] at h)
  · rfl
theorem swapSole {t v : Expr} {l : Nat} {env : PySem.Env} (h : swapsWith v (some t) l env = pure false) : swapsWithSole [t] v l env = pure false := by
  unfold swapsWithSole
  exact h
theorem setAll_two {ρ : Env} {i j : Nat} {d e : TL.D} : setAll [i, j] [d, e] ρ = (ρ.set i (some d)).set j (some e) := rfl
theorem snd_unpack {is : List Nat} : SndS N G k C cls dp (.unpack is m) := by
  intro X sc W st c h
  unfold chkS at h
  split at h
  · rename_i ts kt pt v pos
    simp only [Bool.and_eq_true] at h
    obtain ⟨⟨⟨h1, h2⟩, h3⟩, h4⟩ := h
    have hN : X.N.Nodup := by rw [c.hN]; exact c.nd
    obtain ⟨A, B, D, F, L⟩ := tgs_of (X := X) c.hN c.nd c.hsc (fun _ => c.fn) h1
    have E := (snd (dp := dp) m X sc W v c.toCok h3).1
    have gen : swappedStores [.Tuple ts kt pt] v X.env = pure none → PS X (.Assign [.Tuple ts kt pt] v pos) (tS X.kw dp W cls fun ρ s => exec C (.unpack is m) ρ s) := by
      intro hw
      refine ps_imp (ps_asg E (pg_tup c.calm A L F) (swapSole (swap_ok h2 _ _ _)) hw rfl) ?_
      rintro D σ H ⟨ω, ρ, st, hl, hs, hp⟩
      unfold exec at hp
      refine ⟨ω, ρ, st, hl, hs, (PostS.of hl hp).mono fun d st1 ω1 H1 x1 s1 q1 v r1 => ?_⟩
      split at q1
      · rename_i ρ1 hb
        exact gT_of (tg := .tp is) (hl.ext x1) r1 hb fun σ' hl' _ => q1 ω1 σ' H1 .refl hl' s1
      · exact q1.elim
    split at h4
    · rename_i vs k2 p2
      simp only [Bool.or_eq_true, Bool.and_eq_true, decide_eq_true_eq] at h4
      rcases h4 with ⟨⟨⟨h5, h6⟩, h7⟩, h8⟩ | h5
      · obtain ⟨x, px, y, py, a, b, rfl, rfl, l1, l2, hw, ne⟩ := par_of (kt := kt) (k2 := k2) (pt := pt) (p2 := p2) c.hsc h5
        cases m <;> first | (cases h6; done) | skip
        rename_i ms
        match is, B with
        | [i, j], _ =>
          simp only [tgOk.tgs, Bool.and_eq_true, decide_eq_true_eq] at h1
          obtain ⟨⟨⟨e1, _⟩, _⟩, ⟨⟨⟨e2, _⟩, _⟩, _⟩⟩ := h1
          unfold chkE at h3
          simp only [Bool.and_eq_true, decide_eq_true_eq] at h3
          obtain ⟨P, _⟩ := snd_es (dp := dp) (snds ms) X sc W [a, b] c.toCok h3.2
          have hij : i ≠ j := by
            intro z
            rw [z] at h8
            simp at h8
          refine ps_imp (ps_par (i := i) (j := j) c.calm hN (by rw [c.hN]; exact e1) (by rw [c.hN]; exact e2) hij l1 l2 P hw (swapSole (swap_ok h2 _ _ _))) ?_
          rintro D σ H ⟨ω, ρ, st, hl, hs, hp⟩
          unfold exec at hp
          have hp := PostS.of hl hp
          unfold ev at hp
          refine ⟨ω, ρ, st, hl, hs, (Post.bind hp).len.mono fun ds st1 ω1 H1 x1 s1 ⟨ln, q1⟩ vs r1 => ?_⟩
          have q1 : ∀ ω' H', Ext (dp + 1) ω1 H1 ω' H' → StoOk X.kw ω' st1 H' → PostS X.kw dp W cls ω' H' (match bindT (.tp [i, j]) (.tup ds) ρ with
            | some ρ1 => .nx ρ1 st1
            | none => .fail) D := q1
          have q2 := q1 ω1 H1 .refl s1
          have l2 : ds.length = 2 := by
            rw [ln]
            have := chkEs_length h3.2
            exact this.symm
          match ds, l2 with
          | [d, e], _ =>
            obtain ⟨v, w, rfl, rv, rw'⟩ := r1.two
            refine ⟨v, w, rfl, ?_⟩
            exact q2 ω1 _ H1 .refl (((hl.ext x1).set (OwnR.of rv)).set (OwnR.of rw')) s1
      · exact gen (cell_none c.hsc h5)
    · cases h4
    · rename_i n1 n2
      refine gen (swappedE ?_ _)
      cases v <;> first | rfl | exact absurd rfl (n1 _ _ _) | exact absurd rfl (n2 _ _)
  · cases h

theorem snd_unpackL {is : List Nat} : SndS N G k C cls dp (.unpackL is m) := by
  intro X sc W st c h
  unfold chkS at h
  split at h
  · rename_i ts kt pt v pos
    simp only [Bool.and_eq_true] at h
    obtain ⟨⟨h1, h2⟩, h3⟩ := h
    obtain ⟨A, B, D, F, L⟩ := tgs_of (X := X) c.hN c.nd c.hsc (fun _ => c.fn) h1
    have E := (snd (dp := dp) m X sc W v c.toCok h3).1
    have sw : swapsWithSole [.Tuple ts kt pt] v pos.line X.env = pure false := by
      unfold swapsWithSole swapsWith
      cases v <;> rfl
    refine ps_imp (ps_asg E (pg_unl c.calm A L F) sw (swappedE h2 _) rfl) ?_
    rintro D σ H ⟨ω, ρ, st, hl, hs, hp⟩
    unfold exec at hp
    refine ⟨ω, ρ, st, hl, hs, (PostS.of hl hp).mono fun d st1 ω1 H1 x1 s1 q1 v r1 => ?_⟩
    split at q1
    · rename_i ds
      split at q1
      · rename_i hlen
        obtain ⟨l1, a1, ws, rfl, sq, w1, r1⟩ := r1
        exact ⟨a1, ws, rfl, SqL.of sq, r1.length.trans hlen, gNames_of (hl.ext x1) r1 hlen fun σ' hl' _ => q1 ω1 σ' H1 .refl hl' s1⟩
      · exact q1.elim
    · exact q1.elim
  · cases h
theorem snd_ifs {ca cb : List S} (ha : SndSs N G k C cls dp ca) (hb : SndSs N G k C cls dp cb) : SndS N G k C cls dp (.ifs m ca cb) := by
  intro X sc W st c h
  unfold chkS at h
  split at h
  · simp only [Bool.and_eq_true] at h
    refine ps_imp (ps_if (snd (dp := dp) m X sc W _ c.toCok h.1.1).2 (ha X sc W _ c h.1.2) (hb X sc W _ c h.2)) ?_
    rintro D σ H ⟨ω, ρ, st, hl, hs, hp⟩
    unfold exec at hp
    refine ⟨ω, ρ, st, hl, hs, (PostS.of hl hp).mono fun d st1 ω1 H1 x1 s1 q1 => ?_⟩
    split at q1
    · rename_i kk
      refine ⟨kk, rfl, ?_⟩
      cases kk with
      | true => exact ⟨ω1, ρ, st1, hl.ext x1, s1, q1⟩
      | false => exact ⟨ω1, ρ, st1, hl.ext x1, s1, q1⟩
    · exact q1.elim
  · cases h
theorem snd_while {body : List S} (hb : SndSs N G k C cls dp body) : SndS N G k C cls dp (.while m body) := by
  intro X sc W st c h
  unfold chkS at h
  split at h
  · simp only [Bool.and_eq_true] at h
    refine ps_imp (ps_while c.po (snd (dp := dp) m X sc W _ c.toCok h.1).2 (hb X sc W _ c h.2)) ?_
    rintro D σ H ⟨ω, ρ, st, hl, hs, hp⟩
    unfold exec at hp
    refine ⟨fun n σ H => ∃ ω ρ st, Loc X.kw ω dp ρ σ H ∧ StoOk X.kw ω st H ∧ PostS X.kw dp W cls ω H (whileGo (fun ρ st => ev C m ρ st) (fun ρ st => execs C body ρ st) n ρ st) D, ⟨FU, ω, ρ, st, hl, hs, hp⟩, ?_⟩
    rintro n σ H ⟨ω, ρ, st, hl, hs, hp⟩
    cases n with
    | zero => exact hp.elim
    | succ n =>
      unfold whileGo at hp
      refine ⟨ω, ρ, st, hl, hs, (PostS.of hl hp).mono fun d st1 ω1 H1 x1 s1 q1 => ?_⟩
      split at q1
      · refine ⟨true, rfl, ?_⟩
        show ite _ _ _
        rw [if_pos rfl]
        refine ⟨fun σ H => tS X.kw dp W cls (whileGo (fun ρ st => ev C m ρ st) (fun ρ st => execs C body ρ st) n) D σ H, fun σ' H' ⟨ω', ρ', st', a, b, q⟩ => ⟨n, Nat.lt_succ_self _, ω', ρ', st', a, b, q⟩, ω1, ρ, st1, hl.ext x1, s1, ?_⟩
        refine (PostS.seq q1).mono (fun _ _ q => q) fun _ _ q => q
      · refine ⟨false, rfl, ?_⟩
        show ite _ _ _
        rw [if_neg Bool.false_ne_true]
        exact q1 ω1 σ H1 .refl (hl.ext x1) s1
      · exact q1.elim
  · cases h
theorem snd_for {tg : T} {ik : IK} {ie : List E} {body : List S} (hb : SndSs N G k C cls dp body) : SndS N G k C cls dp (.for tg ik ie body) := by
  intro X sc W st c h
  unfold chkS at h
  split at h
  · rename_i t it bx pos
    simp only [Bool.and_eq_true] at h
    obtain ⟨⟨⟨h1, h2⟩, h3⟩, h4⟩ := h
    cases qi : itArgs G sc ik tg it with
    | none => rw [qi] at h4; cases h4
    | some es =>
      rw [qi] at h4
      have I := snd_it (dp := dp) (own := (match tg with | .nm i => [i] | .tp is => is)) (snds ie) c.toCok qi h4 (tg_shape h1)
      refine ps_imp (ps_for c.po c.calm I (tg_of c.hN c.nd c.hsc (fun _ => c.fn) c.calm h1) (hb X sc W _ c h3) (fold_ok h2 X.env)) ?_
      rintro D σ H ⟨ω, ρ, st, hl, hs, hp⟩
      unfold exec at hp
      refine ⟨ω, ρ, st, hl, hs, (PostS.ofs hl hp).mono fun ds st1 ω1 H1 x1 s1 q1 => ?_⟩
      cases qx : items ik ds with
      | none => rw [qx] at q1; exact q1.elim
      | some xs =>
        rw [qx] at q1
        refine ⟨xs, rfl, fun J F => ?_⟩
        refine ⟨fun i mm σ H => mm = xs.length - i ∧ i ≤ xs.length ∧ ∃ ω' ρ' st', Kept ω1 H1 ω' H ∧ Loc X.kw ω' dp ρ' σ H ∧ StoOk X.kw ω' st' H ∧ PostS X.kw dp W cls ω' H (forGo (bindT tg) (fun ρ st => execs C body ρ st) (xs.drop i) ρ' st') D,
          ⟨xs.length, by simp, Nat.zero_le _, ω1, ρ, st1, .refl, hl.ext x1, s1, q1⟩, ?_⟩
        rintro i mm σ H2 ⟨rfl, hi, ω2, ρ2, st2, k2, l2, s2, p2⟩
        by_cases hlt : i < xs.length
        · rw [List.drop_eq_getElem_cons hlt] at p2
          unfold forGo at p2
          refine .inr ⟨F.go ω2 H2 k2 i hlt, fun σ H => ∃ ω' ρ' st', Kept ω1 H1 ω' H ∧ Loc X.kw ω' dp ρ' σ H ∧ StoOk X.kw ω' st' H ∧ PostS X.kw dp W cls ω' H (forGo (bindT tg) (fun ρ st => execs C body ρ st) (xs.drop (i + 1)) ρ' st') D,
            fun σ' H' h => ⟨xs.length - (i + 1), by omega, rfl, hlt, h⟩, fun x H3 y => ?_⟩
          obtain ⟨gr, rx⟩ := F.yld ω2 H2 k2 i x H3 xs[i] (List.getElem?_eq_getElem hlt) y
          have x3 : Ext (dp + 1) ω2 H2 ω2 H3 := .ofGrow s2 gr
          have p3 := PostS.at p2 (x3.mono (Nat.le_succ _))
          cases qb : bindT tg xs[i] ρ2 with
          | none => rw [qb] at p3; exact p3.elim
          | some ρ3 =>
            rw [qb] at p3
            refine gT_of (l2.ext x3) rx qb fun σ4 l4 _ => ⟨ω2, ρ3, st2, l4, s2.grow gr, ?_⟩
            have kk : Kept ω1 H1 ω2 H3 := k2.trans x3.kept
            have p3 : PostS X.kw dp W cls ω2 H3 ((execs C body ρ3 st2).seq fun ρ2 st2 => forGo (bindT tg) (fun ρ st => execs C body ρ st) (xs.drop (i + 1)) ρ2 st2) D := p3
            revert p3
            show PostS X.kw dp W cls ω2 H3 _ D → PostS X.kw dp W cls ω2 H3 (execs C body ρ3 st2) _
            cases execs C body ρ3 st2 with
            | nx ρ' st' =>
              intro p3 ω5 σ5 H5 x5 l5 s5
              have p3 : PostS X.kw dp W cls ω2 H3 (forGo (bindT tg) (fun ρ st => execs C body ρ st) (xs.drop (i + 1)) ρ' st') D := p3
              exact ⟨ω5, ρ', st', kk.trans x5.kept, l5, s5, PostS.at p3 x5⟩
            | rt d st' => exact fun p4 => p4
            | ex cc ρ' st' => exact fun p4 => p4
            | fail => exact fun p4 => p4
        · have e1 : i = xs.length := by omega
          subst e1
          rw [List.drop_length] at p2
          unfold forGo at p2
          exact .inl ⟨F.stop ω2 H2 k2, p2 ω2 σ H2 .refl l2 s2⟩
  · cases h
theorem chkSs_cons {s : S} {ms : List S} {sts : List Stmt} (nf : ∀ i, s ≠ .freeze i) : chkSs N G (s :: ms) sc sts = (match sts with
    | st :: sts => chkS N G s sc st && chkSs N G ms sc sts
    | [] => false) := by
  cases s <;> first | exact absurd rfl (nf _) | (cases sts <;> simp only [chkSs])
theorem snd_ss_cons {s : S} {ms : List S} (h1 : SndS N G k C cls dp s) (h2 : SndSs N G k C cls dp ms) (nf : ∀ i, s ≠ .freeze i) : SndSs N G k C cls dp (s :: ms) := by
  intro X sc W sts c h
  have h' := h
  rw [chkSs_cons nf] at h'
  cases sts with
  | nil => cases h'
  | cons st sts =>
    simp only [Bool.and_eq_true] at h'
    refine pss_imp (pss_cons (h1 X sc W st c h'.1) (h2 X sc W sts c h'.2)) ?_
    rintro D σ H ⟨ω, ρ, st, hl, hs, hp⟩
    unfold execs at hp
    exact ⟨ω, ρ, st, hl, hs, PostS.seq hp⟩
theorem Loc.freeze {i : Nat} {a : Addr} {vs : List V} {ds : List TL.D} (hl : Loc K ω dp ρ σ H) (s : StoOk K ω st H) (hs : σ[i]? = some (some (.ref a))) (h : H a = some (.lst vs)) (w : ω.wr a = some (.slot dp i, [])) (r : Reps K ω H ds vs) (l : ds.length ≤ sizeLine) :
    Loc K (ω.free a) dp (ρ.set i (some (.lst ds))) σ H :=
  ⟨by rw [List.length_set]; exact hl.len, fun j d e => by
    by_cases hj : j = i
    · subst hj
      by_cases hlt : j < ρ.length
      · rw [List.getElem?_set_self hlt] at e
        cases e
        refine ⟨_, hs, OwnR.of ⟨l, a, vs, rfl, h, ?_, Reps.kept .free _ _ r⟩⟩
        show (if a = a then none else ω.wr a) = none
        rw [if_pos rfl]
      · rw [List.getElem?_eq_none (by rw [List.length_set]; omega)] at e
        cases e
    · rw [List.getElem?_set_ne (Ne.symm hj)] at e
      obtain ⟨v', e', r'⟩ := hl.at_ j d e
      refine ⟨v', e', ?_⟩
      cases d with
      | mlst ds' =>
        obtain ⟨a', vs', e1, h1, w1, r1⟩ := r'
        have ne : a' ≠ a := fun z => by
          rw [z, w] at w1
          cases w1
          exact hj rfl
        refine ⟨a', vs', e1, h1, ?_, Reps.kept .free _ _ r1⟩
        show (if a' = a then none else ω.wr a') = _
        rw [if_neg ne]
        exact w1
      | mset ds' =>
        obtain ⟨a', vs', e1, h1, w1, r1⟩ := r'
        have ne : a' ≠ a := fun z => by
          rw [z, w] at w1
          cases w1
          exact hj rfl
        refine ⟨a', vs', e1, h1, ?_, KeysR.kept .free r1⟩
        show (if a' = a then none else ω.wr a') = _
        rw [if_neg ne]
        exact w1
      | _ => first | exact Rep.kept .free _ _ r' | exact r'.elim⟩
theorem Ext.freeOwn {d i : Nat} {p : List Str} {a : Addr} (w : ω.wr a = some (.slot d i, p)) : Ext d ω H (ω.free a) H where
  kept := .free
  fix := fun b k j q e hk => by
    have ne : b ≠ a := fun z => by
      rw [z, w] at e
      cases e
      exact absurd hk (Nat.lt_irrefl _)
    refine ⟨?_, rfl⟩
    show (if b = a then none else ω.wr b) = _
    rw [if_neg ne]
theorem snd_put {i : Nat} : SndS N G k C cls dp (.put i m) := by
  intro X sc W st c h
  unfold chkS at h
  split at h
  · rename_i x p kx p1 j p2 pos
    simp only [Bool.and_eq_true, decide_eq_true_eq] at h
    obtain ⟨⟨⟨⟨h1, h2⟩, h3⟩, h4⟩, h5⟩ := h
    have nm := nameOk_of h3
    have B : PE X (.Name x p) (tVar i) := pe_var (X := X) (i := i) (by rw [c.hN]; exact h1) (vis_of c.hsc h2) nm.d nm.c
    have u := units_of c.toCok
    have ha : ∀ v, assign (.Subscript (.Name x p) kx p1) X.env v = (do
      let ov ← holding [v] (eval (.Name x p) X.env)
      let iv ← holding [v, ov] (eval kx X.env)
      standAt p1
      holding [v, ov, iv] (setItem ov iv v)
      release [v, ov, iv] []) := by
      intro v
      cases kx <;> first | rfl | (simp [notSlice] at h4)
    refine ps_imp (ps_asg pe_bl (pg_sub B (snd (dp := dp) m X sc W _ c.toCok h5).1 (pset_mset u) ha) (swapSole (swap_ok rfl _ _ _)) (swappedE rfl _) rfl) ?_
    rintro D σ H ⟨ω, ρ, st, hl, hs, hp⟩
    unfold exec at hp
    dsimp only at hp
    split at hp
    · rename_i ks hd
      obtain ⟨v, e1, ad, xs, rfl, h2, w2, r2⟩ := hl.at_ i _ hd
      refine ⟨_, e1, ω, ρ, st, hl, hs, (PostS.of hl hp).mono fun d st1 ω1 H1 x1 s1 q1 w r1 => ?_⟩
      obtain ⟨f1, f2⟩ := x1.fix ad dp i [] w2 (Nat.lt_succ_self _)
      have h3 : H1 ad = some (msetO X.w ad xs) := f2.trans h2
      have w3 := f1.trans w2
      have r3 := r2.kept x1.kept
      split at q1
      · rename_i hh
        simp only [Bool.and_eq_true, decide_eq_true_eq] at hh
        obtain ⟨hk, hlen⟩ := hh
        obtain ⟨b, rfl⟩ := rep_key hk r1
        refine ⟨ω1, d, ks, ad, b, xs, rfl, rfl, rfl, r1, hk, h3, r3, hlen, ?_⟩
        refine q1 ω1 σ _ (.writeM w3 h3) ((hl.ext x1).writeM e1 w3 h3 ?_) s1.write
        split
        · exact r3
        · exact keysR_app hk r1 r3
      · exact q1.elim
    · exact hp.elim
  · cases h
end
end TL

namespace TL
open PySem L2 PyProof.Rows
section
variable {X : Cx} {N : List Str} {G : GT} {k : Nat} {C : Cal} {cls : Nat → Value} {dp : Nat} {sc : Scope} {W : WX} {e : Expr} {es : List Expr} {m n l a b : E} {ms : List E}
variable {K : KW} {ω ω' ω'' : Wd} {H H' H'' : Hp} {D : Ends} {ρ : Env} {σ : L2.St} {st : Sto}
theorem snd_ss_nil : SndSs N G k C cls dp [] := by
  intro X sc W sts c h
  unfold chkSs at h
  have e := List.isEmpty_iff.mp h
  subst e
  refine pss_imp pss_nil ?_
  rintro D σ H ⟨ω, ρ, st, hl, hs, hp⟩
  unfold execs at hp
  exact hp ω σ H .refl hl hs
theorem snd_ss_freeze {i : Nat} {ss : List S} (h2 : SndSs N G k C cls dp ss) : SndSs N G k C cls dp (.freeze i :: ss) := by
  intro X sc W sts c h
  unfold chkSs at h
  have P := h2 X sc W sts c h
  refine ⟨fun pins s σ H D I q => ?_⟩
  obtain ⟨ω, ρ, st, hl, hs, hp⟩ := q
  refine P.run pins s σ H D I ?_
  unfold execs exec at hp
  dsimp only at hp
  split at hp
  · rename_i ds hd
    obtain ⟨v, e1, ad, vs, rfl, h2, w2, r2⟩ := hl.at_ i _ hd
    have ln : ds.length ≤ sizeLine := by
      rw [← r2.length]
      obtain ⟨z, _⟩ := I.hok ad _ h2
      exact z
    have xf : Ext dp ω H (ω.free ad) H := .freeOwn w2
    exact ⟨ω.free ad, _, st, hl.freeze hs e1 h2 w2 r2 ln, hs.free, PostS.at (show PostS X.kw dp W cls ω H (execs C ss (ρ.set i (some (.lst ds))) st) D from hp) xf⟩
  · exact hp.elim
theorem snd_no {s : S} (h : ∀ sc st, chkS N G s sc st = false) : SndS N G k C cls dp s := by
  intro X sc W st c h'
  rw [h] at h'
  cases h'
mutual
theorem sndS : ∀ s : S, SndS N G k C cls dp s
  | .set i m => snd_set
  | .own i ms => snd_own
  | .ownd i m => snd_ownd
  | .unpack is m => snd_unpack
  | .app i m => snd_app
  | .ext i m => snd_ext
  | .put i m => snd_put
  | .freeze i => snd_no fun _ _ => by unfold chkS; rfl
  | .expr m => snd_expr
  | .ifs m a b => snd_ifs (sndSs a) (sndSs b)
  | .for tg ik ie body => snd_for (sndSs body)
  | .while m body => snd_while (sndSs body)
  | .ret m => snd_ret
  | .retN => snd_retN
  | .raise c => snd_no fun _ _ => by unfold chkS; rfl
  | .unpackL is m => snd_unpackL
theorem sndSs : ∀ ss : List S, SndSs N G k C cls dp ss
  | [] => snd_ss_nil
  | .freeze i :: ss => snd_ss_freeze (sndSs ss)
  | s :: ss => by
    by_cases h : ∃ i, s = .freeze i
    · obtain ⟨i, rfl⟩ := h
      exact snd_ss_freeze (sndSs ss)
    · exact snd_ss_cons (sndS s) (sndSs ss) fun i e => h ⟨i, e⟩
end
end

/-- a def: its name, its text, its names, its code -/
structure Tx where
  name : Str
  qual : Str
  names : List Str
  stmt : Stmt
  code : Fn
/-- a def, checked against its text -/
def chkFn (G : GT) (t : Tx) : Bool :=
  decide (t.code.ns = t.names.length) && chkSs t.names G t.code.body (defScope t.stmt) (defBody t.stmt) &&
  (match (defScope t.stmt).kind with | .function => true | _ => false) && !(defScope t.stmt).isCoroutine && !(defScope t.stmt).isGenerator && decide t.names.Nodup && decide (t.code.np ≤ t.names.length) &&
  ((t.names.take t.code.np).all fun x => match (defScope t.stmt).names.lookup x with | some .local | some .cell => true | _ => false) && ((defScope t.stmt).names.all fun y => match y.2 with | .free => false | _ => true)
theorem scope_of {G : GT} {t : Tx} (h : chkFn G t = true) : FnScope t.names (t.names.take t.code.np) (defScope t.stmt) ∧ t.code.ns = t.names.length ∧ t.code.np ≤ t.names.length ∧ chkSs t.names G t.code.body (defScope t.stmt) (defBody t.stmt) = true := by
  unfold chkFn at h
  simp only [Bool.and_eq_true, decide_eq_true_eq, Bool.not_eq_true'] at h
  obtain ⟨⟨⟨⟨⟨⟨⟨⟨h1, h2⟩, h3⟩, h4⟩, h5⟩, h6⟩, h7⟩, h8⟩, h9⟩ := h
  refine ⟨⟨?_, h4, h5, h6, ?_, fun x hx => ?_, fun y hy z => ?_⟩, h1, h7, h2⟩
  · revert h3
    cases (defScope t.stmt).kind <;> first | (intro _; rfl) | (intro h; cases h)
  · rw [List.length_take, Nat.min_eq_left h7]
  · have q := List.all_eq_true.mp h8 x hx
    revert q
    cases (defScope t.stmt).names.lookup x with
    | none => intro q; cases q
    | some k => cases k <;> first | (intro _; exact .inl rfl) | (intro _; exact .inr rfl) | (intro q; cases q)
  · have q := List.all_eq_true.mp h9 y hy
    rw [z] at q
    cases q
structure ProgOk (K : PySem.W.Frag) (mg : Str → Option Value) (G : GT) (T : List Tx) : Prop where
  fns : G.fns = T.map (·.name)
  chk : ∀ t ∈ T, chkFn G t = true
  at_ : ∀ t ∈ T, ∃ f fd, Fun K t.name t.qual t.stmt f fd ∧ mg t.name = some (.ref f) ∧ Binds K fd (t.names.take t.code.np) []
  cst : ∀ (x : Str) (d : TL.D), G.consts.lookup x = some d → ∃ u v, mg x = some u ∧ RelV v u ∧ ∀ (w : World) ω H, Rep ⟨K, w⟩ ω H d v
  blt : ∀ x ∈ G.blt, mg x = none
theorem enter_loc {K : KW} {ω : Wd} {H : Hp} {dp : Nat} {F : Fn} {N : List Str} {ds : List TL.D} {vs : List V} (r : Reps K ω H ds vs) (h : F.ns = N.length) : Loc K ω dp (enter F ds) (L2.start N vs) H where
  len := by
    unfold enter L2.start
    rw [List.length_append, List.length_append, List.length_map, List.length_map, List.length_replicate, List.length_replicate, r.length, h]
  at_ := fun i d e => by
    unfold enter at e
    unfold L2.start
    by_cases hi : i < ds.length
    · rw [List.getElem?_append_left (by rw [List.length_map]; exact hi), List.getElem?_map] at e
      cases q : ds[i]? with
      | none => rw [q] at e; cases e
      | some d' =>
        rw [q] at e
        cases e
        obtain ⟨v, e', rv⟩ := r.get q
        refine ⟨v, ?_, OwnR.of rv⟩
        rw [List.getElem?_append_left (by rw [List.length_map, r.length]; exact hi), List.getElem?_map, e']
        rfl
    · rw [List.getElem?_append_right (by rw [List.length_map]; omega), List.getElem?_replicate] at e
      split at e <;> cases e
/-- THE THEOREM: each def of a program that is checked does what its code does -/
theorem prog_ok {P : Program} {w : World} {K : PySem.W.Frag} {mg : Str → Option Value} {base : Heap} {G : GT} {T : List Tx} {cls : Nat → Value} (O : ProgOk K mg G T) :
    ∀ (n i : Nat) (t : Tx) (f : Addr) (fd : FuncData), T[i]? = some t → Fun K t.name t.qual t.stmt f fd → FnOk P w K mg base (L2.CX P w) n f fd (t.names.take t.code.np) (spC ⟨K, w⟩ (run (T.map (·.code)) n) cls i)
  | 0, i, t, f, fd, ht, F => by
    have no : ∀ vs H Q E, ¬ spC ⟨K, w⟩ (run (T.map (·.code)) 0) cls i vs H Q E := fun vs H Q E ⟨ω, st, ds, dp, hs, r, h⟩ => h
    exact ⟨fun vs H Q E h => absurd h (no vs H Q E), fun A outer s H args us vs Q E _ _ _ _ h => absurd h (no vs H Q E)⟩
  | n + 1, i, t, f, fd, ht, F => by
    obtain ⟨S, hns, hnp, hck⟩ := scope_of (O.chk t (List.mem_of_getElem? ht))
    have hcode : (T.map (·.code))[i]? = some t.code := by rw [List.getElem?_map, ht]; rfl
    have ln : ∀ {ds : List TL.D} {st : Sto}, run (T.map (·.code)) (n + 1) i ds st ≠ .fail → ds.length = t.code.np ∧ run (T.map (·.code)) (n + 1) i ds st = finish (execs (run (T.map (·.code)) n) t.code.body (enter t.code ds) st) := by
      intro ds st h
      unfold run at h ⊢
      rw [hcode] at h ⊢
      dsimp only at h ⊢
      by_cases e : ds.length = t.code.np
      · rw [if_pos e]
        exact ⟨e, rfl⟩
      · rw [if_neg e] at h
        exact absurd rfl h
    refine F.okX S (fun vs H Q E h => ?_) (fun cdv A outer s H vs Q E hr h => ?_)
    · obtain ⟨ω, st, ds, dp, hs, r, h⟩ := h
      have q : run (T.map (·.code)) (n + 1) i ds st ≠ .fail := fun z => by rw [z] at h; exact h
      rw [r.length, (ln q).1, List.length_take, Nat.min_eq_left hnp]
    · obtain ⟨ω, st, ds, dp, hs, r, h⟩ := h
      have q : run (T.map (·.code)) (n + 1) i ds st ≠ .fail := fun z => by rw [z] at h; exact h
      rw [(ln q).2] at h
      have c : CokS (cxOf (L2.CX P w) P w K mg base t.names t.qual (defScope t.stmt) f cdv A outer s H E) G n (run (T.map (·.code)) n) cls t.names (defScope t.stmt) (fun cc d _ H' => E cc d H') := {
        hN := rfl
        nd := S.nd
        hsc := rfl
        calm := rfl
        room := hr
        tk := takes_of rfl rfl rfl rfl
        fns := fun j x hj => by
          rw [O.fns, List.getElem?_map] at hj
          cases ht' : T[j]? with
          | none => rw [ht'] at hj; cases hj
          | some t' =>
            rw [ht'] at hj
            cases hj
            obtain ⟨f', fd', F', hm, hb⟩ := O.at_ t' (List.mem_of_getElem? ht')
            exact ⟨f', fd', _, prog_ok O n j t' f' fd' ht' F', hm, F'.kp, hb⟩
        cst := fun x d h => let ⟨u, v, a, b, q⟩ := O.cst x d h; ⟨u, v, a, b, q w⟩
        blt := O.blt
        fn := fun _ => rfl
        po := passes_of rfl }
      refine ⟨_, sndSs (dp := dp) t.code.body _ _ _ _ c hck, ω, enter t.code ds, st, enter_loc r hns, hs, ?_⟩
      show PostS ⟨K, w⟩ dp _ cls ω H (execs (run (T.map (·.code)) n) t.code.body (enter t.code ds) st) _
      revert h
      cases execs (run (T.map (·.code)) n) t.code.body (enter t.code ds) st with
      | nx ρ' st' => exact fun h ω' σ' H' x _ s' => h ω' .non H' x s' rfl
      | rt d st' => exact fun h ω' v H' x s' r' => h ω' v H' x s' r'
      | ex cc ρ' st' => exact fun h ω' σ' H' x _ s' => h ω' H' x s'
      | fail => exact fun h => h
/-- the law's call -/
theorem law_sp {K : KW} {H : Hp} {C : Cal} {cls : Nat → Value} {i : Nat} {a : Addr} {ns : List Int} {st' : Sto} {E : XK} (hS : SqL K H a (ns.map V.int)) (hl : ns.length ≤ 63) (h : C i [.fls (ns.map .int)] [] = .ok (.bl true) st') :
    spC K C cls i [.ref a] H (fun v _ => v = .bl true) E := by
  have ri : ∀ ns : List Int, Reps K ⟨[], fun _ => none⟩ H (ns.map TL.D.int) (ns.map V.int) := by
    intro ns
    induction ns with
    | nil => rfl
    | cons n ns ih => exact ⟨_, _, rfl, rfl, ih⟩
  refine ⟨⟨[], fun _ => none⟩, [], [.fls (ns.map .int)], 0, ⟨rfl, fun _ h => absurd rfl h, fun l d e => by simp at e⟩, ⟨_, _, rfl, ⟨by rw [List.length_map]; exact Nat.le_trans hl (by decide), a, _, rfl, ?_, ri ns⟩, rfl⟩, ?_⟩
  · rcases hS with (h | ⟨o, h⟩) | h
    · exact .inl ⟨h, rfl⟩
    · exact .inr (.inl ⟨o, h⟩)
    · exact .inr (.inr h)
  · rw [h]
    exact fun ω' v H' x s r => r
/-- the end: the law's call, walked -/
theorem walk {l : PySem.W.OpenLaw} {q : Program} {loose : List Str} {XP : (Str → Option Value) → Heap → Prop} {YP : World → Heap → Prop} {d : DefRec} {K : Params → PySem.W.Frag} {G : GT} {T : List Tx} {t : Tx} {i n : Nat} {x : Str} (hn : l.most = some 63) (hdf : d.params.defaults = [])
    (hr : Room n callerA) (hY : ∀ (w : World) (h : Heap), YP w h → (K w.params).In h) (ht : T[i]? = some t) (hx : t.names.take t.code.np = [x]) (hname : t.name = d.name)
    (F : ∀ (w : World) (mg : Str → Option Value) (h : Heap), (K w.params).In h → h.Ns mainGlobals mg → ProgOk (K w.params) mg G T)
    (hb : ∀ (w : World) (fa : Addr) (fd : FuncData), Fun (K w.params) t.name t.qual t.stmt fa fd → ∀ (s : Shared) (u : Value), BindsTo s fd ⟨[u], []⟩ [(x, u)])
    (law : ∀ ns : List Int, ns.length ≤ 63 → ∃ st', run (T.map (·.code)) n i [.fls (ns.map .int)] [] = .ok (.bl true) st') :
    PySem.W.WalkO q loose XP YP l.row.toRowW d [] (fun f vs => PySem.call f vs) :=
  L2.walk_of (n := 63) (k := n) (x := x) (CX := fun w => L2.CX l.prog w) (sp := fun w => spC ⟨K w.params, w⟩ (run (T.map (·.code)) n) (fun _ => .none) i) hn (by decide) hdf hr hY
    (fun w mg fa h KX g hfa => by
      have O := F w mg h KX g
      obtain ⟨f, fd, Fu, hm, _⟩ := O.at_ t (List.mem_of_getElem? ht)
      rw [hname, hfa] at hm
      cases hm
      refine ⟨fd, hb w fa fd Fu, fun base KB gB => ?_⟩
      have z := prog_ok (P := l.prog) (w := w) (base := base) (cls := fun _ => .none) O n i t fa fd ht Fu
      rw [hx] at z
      exact z)
    (fun w H a ns hl _ hS => let ⟨st', h⟩ := law ns hl; law_sp hS hl h) fun w H s e s' h => by
      obtain ⟨_, _, _, _, _, _, _, _, _, _, _, _, z⟩ := h
      exact z.elim
end TL

namespace TP
open PySem L2 TL
def top (i : Nat) : Stmt := PySem.Challenge.pw_taletask_k42_whole_short_by_parts.main.body.getD i (.Pass ⟨0, 0, 0, 0⟩)
def c_tasks_in : Fn := ⟨1, 1, [.ifs (.o2 .isIn (.o2 .ix (.var 0) (.con (.int 0))) (.con (.tup [.str "all", .str "any", .str "then"]))) [.ret (.o2 .ix (.var 0) (.con (.int 1)))] [], .ifs (.o2 .eq (.o2 .ix (.var 0) (.con (.int 0))) (.con (.str "do"))) [.ret (.tup [])] [], .ret (.sl (.var 0) [.con (.int 2)] [])]⟩
def c_with_tasks : Fn := ⟨2, 2, [.ifs (.o2 .isIn (.o2 .ix (.var 0) (.con (.int 0))) (.con (.tup [.str "all", .str "any", .str "then"]))) [.ret (.tup [.o2 .ix (.var 0) (.con (.int 0)), .o1 .tuple (.var 1)])] [], .ifs (.o2 .eq (.o2 .ix (.var 0) (.con (.int 0))) (.con (.str "do"))) [.ret (.var 0)] [], .ret (.o2 .add (.sl (.var 0) [] [.con (.int 2)]) (.o1 .tuple (.var 1)))]⟩
def c_size : Fn := ⟨1, 2, [.ret (.o2 .add (.con (.int 1)) (.o1 .sum (.lc (.call 2 [.var 1]) (.nm 1) .tup [.call 0 [.var 0]] [] [1])))]⟩
def c_flat : Fn := ⟨2, 4, [.own 2 [], .for (.nm 3) .lst [.var 1] [.ifs (.o2 .eq (.o2 .ix (.var 3) (.con (.int 0))) (.var 0)) [.ext 2 (.o1 .list (.o2 .ix (.var 3) (.con (.int 1))))] [.app 2 (.var 3)]], .freeze 2, .ret (.var 2)]⟩
def c_unlike_ones : Fn := ⟨1, 3, [.own 1 [], .for (.nm 2) .lst [.var 0] [.ifs (.inOwn true (.var 2) 1) [.app 1 (.var 2)] []], .freeze 1, .ret (.var 1)]⟩
def c_once : Fn := ⟨1, 4, [.set 1 (.lc (.call 5 [.var 3]) (.nm 3) .tup [.call 0 [.var 0]] [] [3]), .set 2 (.o2 .ix (.var 0) (.con (.int 0))), .ifs (.o2 .isIn (.var 2) (.con (.tup [.str "all", .str "any", .str "then"]))) [.set 1 (.call 3 [.var 2, .var 1]), .ifs (.o2 .ne (.var 2) (.con (.str "then"))) [.set 1 (.call 4 [.var 1])] [], .ifs (.o2 .eq (.o1 .len (.var 1)) (.con (.int 1))) [.ret (.o2 .ix (.var 1) (.con (.int 0)))] [], .ret (.tup [.var 2, .o1 .tuple (.var 1)])] [], .ifs (.and [.o2 .eq (.var 2) (.con (.str "without")), .o2 .eq (.sl (.o2 .ix (.var 1) (.con (.int 0))) [] [.con (.int 2)]) (.sl (.var 0) [] [.con (.int 2)])]) [.ret (.o2 .ix (.var 1) (.con (.int 0)))] [], .ifs (.and [.o2 .eq (.var 2) (.con (.str "within")), .o2 .eq (.o2 .ix (.o2 .ix (.var 1) (.con (.int 0))) (.con (.int 0))) (.var 2)]) [.ret (.tup [.var 2, .o2 .min (.o2 .ix (.var 0) (.con (.int 1))) (.o2 .ix (.o2 .ix (.var 1) (.con (.int 0))) (.con (.int 1))), .o2 .ix (.o2 .ix (.var 1) (.con (.int 0))) (.con (.int 2))])] [], .ret (.call 1 [.var 0, .var 1])]⟩
def c_short : Fn := ⟨1, 2, [.set 1 (.call 5 [.var 0]), .while (.o2 .ne (.var 1) (.var 0)) [.set 0 (.var 1), .set 1 (.call 5 [.var 0])], .ret (.var 0)]⟩
def c_is_short : Fn := ⟨1, 1, [.ret (.o2 .eq (.call 5 [.var 0]) (.var 0))]⟩
def c_is_over : Fn := ⟨1, 1, [.ret (.o1 .isStr (.var 0))]⟩
def c_grouped : Fn := ⟨2, 2, [.ifs (.o2 .eq (.o1 .len (.var 1)) (.con (.int 1))) [.ret (.o2 .ix (.var 1) (.con (.int 0)))] [], .ret (.tup [.var 0, .o1 .tuple (.var 1)])]⟩
def c_group_behind : Fn := ⟨2, 8, [.unpack [4, 5] (.tup [.con (.str "done"), .con (.str "failed")]), .ifs (.o2 .eq (.o2 .ix (.var 0) (.con (.int 0))) (.con (.str "any"))) [.unpack [4, 5] (.tup [.con (.str "failed"), .con (.str "done")])] [], .set 2 (.lc (.call 12 [.var 6, .var 1]) (.nm 6) .tup [.o2 .ix (.var 0) (.con (.int 1))] [] [6]), .ifs (.o2 .isIn (.var 5) (.var 2)) [.ret (.var 5)] [], .set 3 (.lc (.var 7) (.nm 7) .lst [.var 2] [.o2 .ne (.var 7) (.var 4)] [7]), .ifs (.o2 .eq (.o1 .len (.var 3)) (.con (.int 0))) [.ret (.var 4)] [], .ret (.call 9 [.o2 .ix (.var 0) (.con (.int 0)), .var 3])]⟩
def c_then_behind : Fn := ⟨2, 4, [.set 2 (.call 12 [.o2 .ix (.o2 .ix (.var 0) (.con (.int 1))) (.con (.int 0)), .var 1]), .ifs (.o2 .eq (.var 2) (.con (.str "failed"))) [.ret (.con (.str "failed"))] [], .set 3 (.o1 .list (.sl (.o2 .ix (.var 0) (.con (.int 1))) [.con (.int 1)] [])), .ifs (.o2 .ne (.var 2) (.con (.str "done"))) [.ret (.call 9 [.con (.str "then"), .o2 .add (.lst [.var 2]) (.var 3)])] [], .ifs (.o2 .eq (.o1 .len (.var 3)) (.con (.int 0))) [.ret (.con (.str "done"))] [], .ret (.call 9 [.con (.str "then"), .var 3])]⟩
def c_behind : Fn := ⟨2, 4, [.set 2 (.o2 .ix (.var 0) (.con (.int 0))), .ifs (.o2 .eq (.var 2) (.con (.str "do"))) [.ifs (.o2 .ne (.var 1) (.o2 .ix (.var 0) (.con (.int 1)))) [.ret (.var 0)] [], .ifs (.o2 .eq (.o2 .ix (.var 0) (.con (.int 2))) (.con (.int 1))) [.ret (.con (.str "done"))] [], .ret (.tup [.var 2, .var 1, .o2 .sub (.o2 .ix (.var 0) (.con (.int 2))) (.con (.int 1))])] [], .ifs (.o2 .isIn (.var 2) (.tup [.con (.str "all"), .con (.str "any")])) [.ret (.call 10 [.var 0, .var 1])] [], .ifs (.o2 .eq (.var 2) (.con (.str "then"))) [.ret (.call 11 [.var 0, .var 1])] [], .ifs (.and [.o2 .eq (.var 2) (.con (.str "without")), .o2 .eq (.var 1) (.o2 .ix (.var 0) (.con (.int 1)))]) [.ret (.con (.str "failed"))] [], .set 3 (.call 12 [.o2 .ix (.var 0) (.con (.int 2)), .var 1]), .ifs (.call 8 [.var 3]) [.ret (.var 3)] [], .ifs (.o2 .eq (.var 2) (.con (.str "without"))) [.ret (.tup [.var 2, .o2 .ix (.var 0) (.con (.int 1)), .var 3])] [], .ifs (.o2 .eq (.o2 .ix (.var 0) (.con (.int 1))) (.con (.int 1))) [.ret (.con (.str "failed"))] [], .ret (.tup [.var 2, .o2 .sub (.o2 .ix (.var 0) (.con (.int 1))) (.con (.int 1)), .var 3])]⟩
def c_told : Fn := ⟨2, 4, [.for (.tp [2, 3]) .enumT [.var 1] [.set 0 (.call 12 [.var 0, .var 3]), .ifs (.call 8 [.var 0]) [.ret (.tup [.var 0, .o2 .add (.var 2) (.con (.int 1))])] []], .ret (.tup [.var 0, .con (.non)])]⟩
def c_deeds_of : Fn := ⟨1, 3, [.own 1 [], .ifs (.o2 .isIn (.o2 .ix (.var 0) (.con (.int 0))) (.tup [.con (.str "do"), .con (.str "without")])) [.app 1 (.o2 .ix (.var 0) (.con (.int 1)))] [], .for (.nm 2) .tup [.call 0 [.var 0]] [.ext 1 (.call 14 [.var 2])], .freeze 1, .ret (.o1 .tuple (.srt (.var 1)))]⟩
def c_other_deed : Fn := ⟨1, 4, [.own 1 [], .for (.nm 2) .str [.con (.str "abcdefghijklmnopqrstuvwxyz")] [.ext 1 (.lc (.o2 .add (.var 2) (.var 3)) (.nm 3) .str [.con (.str "abcdefghijklmnopqrstuvwxyz")] [.o2 .notIn (.o2 .add (.var 2) (.var 3)) (.var 0)] [3])], .freeze 1, .ret (.o2 .ix (.var 1) (.con (.int 0)))]⟩
def c_unlike : Fn := ⟨2, 10, [.set 2 (.o1 .tuple (.srt (.o2 .add (.call 14 [.var 0]) (.call 14 [.var 1])))), .set 2 (.o2 .add (.var 2) (.tup [.call 15 [.var 2]])), .ownd 3 (.tup [.var 0, .var 1]), .set 4 (.lst [.tup [.tup [.var 0, .var 1], .tup []]]), .while (.o2 .gt (.o1 .len (.var 4)) (.con (.int 0))) [.own 5 [], .for (.tp [6, 7]) .lst [.var 4] [.for (.nm 8) .tup [.var 2] [.set 9 (.tup [.call 12 [.o2 .ix (.var 6) (.con (.int 0)), .var 8], .call 12 [.o2 .ix (.var 6) (.con (.int 1)), .var 8]]), .ifs (.or [.call 8 [.o2 .ix (.var 9) (.con (.int 0))], .call 8 [.o2 .ix (.var 9) (.con (.int 1))]]) [.ifs (.o2 .ne (.o2 .ix (.var 9) (.con (.int 0))) (.o2 .ix (.var 9) (.con (.int 1)))) [.ret (.o2 .add (.var 7) (.tup [.var 8]))] []] [.ifs (.inOwn true (.var 9) 3) [.put 3 (.var 9), .app 5 (.tup [.var 9, .o2 .add (.var 7) (.tup [.var 8])])] []]]], .freeze 5, .set 4 (.var 5)], .ret (.con (.non))]⟩
def c_alike : Fn := ⟨2, 2, [.ret (.o1 .isNone (.call 16 [.var 0, .var 1]))]⟩
def c__law_cell_at : Fn := ⟨2, 2, [.ifs (.o2 .lt (.var 1) (.o1 .len (.var 0))) [.ret (.o2 .ix (.var 0) (.var 1))] [], .ret (.con (.int 0))]⟩
def c__law_mixed : Fn := ⟨2, 3, [.set 2 (.o2 .mod (.o2 .mul (.o2 .add (.o2 .add (.call 18 [.var 0, .var 1]) (.o2 .mul (.con (.int 7919)) (.var 1))) (.con (.int 1))) (.con (.int 48271))) (.con (.int 2147483647))), .ret (.o2 .mod (.o2 .add (.o2 .add (.o2 .mul (.var 2) (.var 2)) (.o2 .mul (.con (.int 7)) (.var 2))) (.var 1)) (.con (.int 2147483629)))]⟩
def c__law_drawn : Fn := ⟨2, 3, [.set 2 (.o2 .mod (.o2 .mul (.o2 .add (.o2 .add (.var 0) (.o2 .mul (.con (.int 104729)) (.var 1))) (.con (.int 17))) (.con (.int 69621))) (.con (.int 2147483647))), .ret (.o2 .mod (.o2 .add (.o2 .add (.o2 .mul (.var 2) (.var 2)) (.o2 .mul (.con (.int 3)) (.var 2))) (.var 1)) (.con (.int 2147483629)))]⟩
def c__law_task : Fn := ⟨3, 8, [.set 3 (.o2 .ix (.con (.str "abc")) (.o2 .mod (.o2 .div (.var 0) (.con (.int 8))) (.con (.int 3)))), .set 4 (.o2 .mod (.var 0) (.con (.int 8))), .ifs (.or [.o2 .eq (.var 1) (.con (.int 1)), .o2 .lt (.var 4) (.con (.int 2))]) [.ret (.tup [.con (.str "do"), .var 3, .o2 .add (.con (.int 1)) (.o2 .mod (.o2 .div (.var 0) (.con (.int 64))) (.var 2))])] [], .ifs (.o2 .eq (.var 4) (.con (.int 6))) [.ret (.tup [.con (.str "without"), .var 3, .call 21 [.o2 .div (.call 20 [.var 0, .con (.int 1)]) (.con (.int 4)), .o2 .sub (.var 1) (.con (.int 1)), .var 2]])] [], .ifs (.o2 .eq (.var 4) (.con (.int 7))) [.set 5 (.o2 .add (.con (.int 1)) (.o2 .mod (.o2 .div (.var 0) (.con (.int 64))) (.o2 .ix (.tup [.con (.int 9), .con (.int 4)]) (.o2 .mod (.o2 .div (.var 0) (.con (.int 1024))) (.con (.int 2)))))), .ret (.tup [.con (.str "within"), .var 5, .call 21 [.o2 .div (.call 20 [.var 0, .con (.int 2)]) (.con (.int 4)), .o2 .sub (.var 1) (.con (.int 1)), .var 2]])] [], .set 5 (.o2 .add (.con (.int 1)) (.o2 .mod (.o2 .div (.var 0) (.con (.int 64))) (.con (.int 3)))), .set 6 (.o2 .ix (.tup [.con (.str "all"), .con (.str "any"), .con (.str "then"), .con (.str "all")]) (.o2 .sub (.var 4) (.con (.int 2)))), .ifs (.o2 .eq (.var 6) (.con (.str "then"))) [.set 5 (.o2 .max (.con (.int 2)) (.var 5))] [], .ret (.tup [.var 6, .o1 .tuple (.lc (.call 21 [.o2 .div (.call 20 [.var 0, .o2 .add (.con (.int 3)) (.var 7)]) (.con (.int 4)), .o2 .sub (.var 1) (.con (.int 1)), .var 2]) (.nm 7) .rng [.var 5] [] [7])])]⟩
def c__law_deeds : Fn := ⟨2, 3, [.ret (.o1 .tuple (.lc (.o2 .ix (.con (.str "abcabcd")) (.o2 .mod (.o2 .div (.call 20 [.var 0, .o2 .add (.con (.int 20)) (.var 2)]) (.con (.int 4))) (.con (.int 7)))) (.nm 2) .rng [.o2 .mod (.var 0) (.o2 .add (.var 1) (.con (.int 1)))] [] [2]))]⟩
def c__law_other : Fn := ⟨2, 3, [.set 2 (.o2 .mod (.var 1) (.con (.int 8))), .ifs (.o2 .eq (.var 2) (.con (.int 0))) [.ret (.tup [.con (.str "all"), .tup [.var 0, .var 0]])] [], .ifs (.o2 .eq (.var 2) (.con (.int 1))) [.ret (.tup [.con (.str "any"), .tup [.tup [.con (.str "any"), .tup [.var 0]], .var 0]])] [], .ifs (.o2 .eq (.var 2) (.con (.int 2))) [.ret (.tup [.con (.str "within"), .o2 .add (.con (.int 1)) (.o2 .mod (.o2 .div (.var 1) (.con (.int 8))) (.con (.int 9))), .var 0])] [], .ifs (.o2 .eq (.var 2) (.con (.int 3))) [.ret (.tup [.con (.str "without"), .o2 .ix (.con (.str "abcd")) (.o2 .mod (.o2 .div (.var 1) (.con (.int 8))) (.con (.int 4))), .var 0])] [], .ifs (.and [.o2 .eq (.var 2) (.con (.int 4)), .o2 .isIn (.o2 .ix (.var 0) (.con (.int 0))) (.tup [.con (.str "all"), .con (.str "any")])]) [.ret (.tup [.o2 .ix (.var 0) (.con (.int 0)), .o1 .rev (.o2 .ix (.var 0) (.con (.int 1)))])] [], .ifs (.and [.o2 .eq (.var 2) (.con (.int 5)), .o2 .eq (.o2 .ix (.var 0) (.con (.int 0))) (.con (.str "then"))]) [.ret (.tup [.con (.str "then"), .tup [.o2 .ix (.o2 .ix (.var 0) (.con (.int 1))) (.con (.int 0)), .call 24 [.sl (.o2 .ix (.var 0) (.con (.int 1))) [.con (.int 1)] []]]])] [], .ifs (.and [.o2 .eq (.var 2) (.con (.int 6)), .o2 .eq (.o2 .ix (.var 0) (.con (.int 0))) (.con (.str "do")), .o2 .gt (.o2 .ix (.var 0) (.con (.int 2))) (.con (.int 1))]) [.ret (.tup [.con (.str "then"), .tup [.tup [.con (.str "do"), .o2 .ix (.var 0) (.con (.int 1)), .con (.int 1)], .tup [.con (.str "do"), .o2 .ix (.var 0) (.con (.int 1)), .o2 .sub (.o2 .ix (.var 0) (.con (.int 2))) (.con (.int 1))]]])] [], .ret (.call 21 [.o2 .div (.var 1) (.con (.int 8)), .con (.int 2), .con (.int 2)])]⟩
def c__law_rest : Fn := ⟨1, 1, [.ifs (.o2 .eq (.o1 .len (.var 0)) (.con (.int 1))) [.ret (.o2 .ix (.var 0) (.con (.int 0)))] [], .ret (.tup [.con (.str "then"), .var 0])]⟩
def c_law : Fn := ⟨1, 12, [.unpackL [5, 6, 7] (.lc (.call 23 [.call 21 [.call 19 [.var 0, .var 8], .con (.int 2), .con (.int 2)], .call 19 [.var 0, .o2 .add (.con (.int 5)) (.var 8)]]) (.nm 8) .rng [.con (.int 3)] [] [8]), .set 1 (.tup [.var 5, .var 6, .var 7]), .set 2 (.o1 .tuple (.lc (.call 6 [.var 9]) (.nm 9) .tup [.var 1] [] [9])), .for (.tp [8, 9]) .enumT [.var 1] [.ifs (.or [.o2 .ne (.call 6 [.o2 .ix (.var 2) (.var 8)]) (.o2 .ix (.var 2) (.var 8)), .o2 .isNotB (.call 7 [.o2 .ix (.var 2) (.var 8)]) (.con (.bl true)), .o2 .gt (.call 2 [.o2 .ix (.var 2) (.var 8)]) (.call 2 [.var 9])]) [.ret (.con (.bl false))] [], .ifs (.or [.o2 .ne (.call 7 [.var 9]) (.o2 .eq (.o2 .ix (.var 2) (.var 8)) (.var 9)), .o2 .isNotB (.call 17 [.var 9, .o2 .ix (.var 2) (.var 8)]) (.con (.bl true))]) [.ret (.con (.bl false))] []], .set 3 (.call 22 [.call 19 [.var 0, .con (.int 9)], .con (.int 12)]), .for (.nm 4) .tup [.tup [.con (.str "all"), .con (.str "any"), .con (.str "then")]] [.set 10 (.call 6 [.tup [.var 4, .var 1]]), .ifs (.or [.o2 .ne (.call 6 [.tup [.var 4, .var 2]]) (.var 10), .o2 .ne (.call 6 [.tup [.var 4, .tup [.var 10]]]) (.var 10)]) [.ret (.con (.bl false))] [], .ifs (.or [.o2 .ne (.call 6 [.tup [.var 4, .tup [.tup [.var 4, .tup [.var 5, .var 6]], .var 7]]]) (.var 10), .o2 .ne (.call 6 [.tup [.var 4, .tup [.var 5, .tup [.var 4, .tup [.var 6, .var 7]]]]]) (.var 10)]) [.ret (.con (.bl false))] [], .ifs (.o2 .ne (.o2 .ix (.call 13 [.var 10, .var 3]) (.con (.int 1))) (.o2 .ix (.call 13 [.tup [.var 4, .var 1], .var 3]) (.con (.int 1)))) [.ret (.con (.bl false))] [], .set 11 (.call 6 [.tup [.var 4, .tup [.var 5, .var 5]]]), .ifs (.and [.o2 .ne (.var 4) (.con (.str "then")), .o2 .ne (.var 11) (.o2 .ix (.var 2) (.con (.int 0)))]) [.ret (.con (.bl false))] [], .ifs (.and [.o2 .eq (.var 4) (.con (.str "then")), .o2 .lt (.call 2 [.var 11]) (.call 2 [.o2 .ix (.var 2) (.con (.int 0))])]) [.ret (.con (.bl false))] []], .ifs (.o2 .ne (.call 6 [.tup [.con (.str "without"), .con (.str "a"), .var 5]]) (.call 6 [.tup [.con (.str "without"), .con (.str "a"), .o2 .ix (.var 2) (.con (.int 0))]])) [.ret (.con (.bl false))] [], .ifs (.o2 .ne (.call 6 [.tup [.con (.str "without"), .con (.str "a"), .tup [.con (.str "without"), .con (.str "a"), .var 5]]]) (.call 6 [.tup [.con (.str "without"), .con (.str "a"), .var 5]])) [.ret (.con (.bl false))] [], .ifs (.o2 .ne (.call 6 [.tup [.con (.str "within"), .con (.int 3), .tup [.con (.str "within"), .con (.int 7), .var 5]]]) (.call 6 [.tup [.con (.str "within"), .con (.int 3), .o2 .ix (.var 2) (.con (.int 0))]])) [.ret (.con (.bl false))] [], .ret (.o2 .eq (.call 6 [.tup [.con (.str "do"), .con (.str "a"), .con (.int 2)]]) (.tup [.con (.str "do"), .con (.str "a"), .con (.int 2)]))]⟩
def Pg : List Fn := [c_tasks_in, c_with_tasks, c_size, c_flat, c_unlike_ones, c_once, c_short, c_is_short, c_is_over, c_grouped, c_group_behind, c_then_behind, c_behind, c_told, c_deeds_of, c_other_deed, c_unlike, c_alike, c__law_cell_at, c__law_mixed, c__law_drawn, c__law_task, c__law_deeds, c__law_other, c__law_rest, c_law]
def t0 : Tx := ⟨"tasks_in", "tasks_in", ["task"], top 3, c_tasks_in⟩
def t1 : Tx := ⟨"with_tasks", "with_tasks", ["task", "parts"], top 4, c_with_tasks⟩
def t2 : Tx := ⟨"size", "size", ["task", "part"], top 5, c_size⟩
def t3 : Tx := ⟨"flat", "flat", ["word", "parts", "found", "part"], top 7, c_flat⟩
def t4 : Tx := ⟨"unlike_ones", "unlike_ones", ["parts", "found", "part"], top 8, c_unlike_ones⟩
def t5 : Tx := ⟨"once", "once", ["task", "parts", "word", "part"], top 9, c_once⟩
def t6 : Tx := ⟨"short", "short", ["task", "found"], top 10, c_short⟩
def t7 : Tx := ⟨"is_short", "is_short", ["task"], top 11, c_is_short⟩
def t8 : Tx := ⟨"is_over", "is_over", ["state"], top 15, c_is_over⟩
def t9 : Tx := ⟨"grouped", "grouped", ["word", "tasks"], top 16, c_grouped⟩
def t10 : Tx := ⟨"group_behind", "group_behind", ["task", "deed", "states", "left", "gone", "whole", "part", "state"], top 17, c_group_behind⟩
def t11 : Tx := ⟨"then_behind", "then_behind", ["task", "deed", "first", "rest"], top 18, c_then_behind⟩
def t12 : Tx := ⟨"behind", "behind", ["task", "deed", "word", "state"], top 19, c_behind⟩
def t13 : Tx := ⟨"told", "told", ["task", "deeds", "at", "deed"], top 20, c_told⟩
def t14 : Tx := ⟨"deeds_of", "deeds_of", ["task", "found", "part"], top 22, c_deeds_of⟩
def t15 : Tx := ⟨"other_deed", "other_deed", ["deeds", "found", "one", "other"], top 23, c_other_deed⟩
def t16 : Tx := ⟨"unlike", "unlike", ["one", "other", "deeds", "seen", "layer", "longer", "pair", "way", "deed", "now"], top 25, c_unlike⟩
def t17 : Tx := ⟨"alike", "alike", ["one", "other"], top 26, c_alike⟩
def t18 : Tx := ⟨"_law_cell_at", "_law_cell_at", ["_law_script", "_law_k"], top 28, c__law_cell_at⟩
def t19 : Tx := ⟨"_law_mixed", "_law_mixed", ["_law_script", "_law_k", "_law_drawn_here"], top 29, c__law_mixed⟩
def t20 : Tx := ⟨"_law_drawn", "_law_drawn", ["_law_number", "_law_k", "_law_drawn_here"], top 30, c__law_drawn⟩
def t21 : Tx := ⟨"_law_task", "_law_task", ["_law_number", "_law_deep", "_law_most", "_law_deed", "_law_kind", "_law_many", "_law_word", "_law_k"], top 31, c__law_task⟩
def t22 : Tx := ⟨"_law_deeds", "_law_deeds", ["_law_number", "_law_most", "_law_k"], top 32, c__law_deeds⟩
def t23 : Tx := ⟨"_law_other", "_law_other", ["_law_task_here", "_law_number", "_law_kind"], top 33, c__law_other⟩
def t24 : Tx := ⟨"_law_rest", "_law_rest", ["_law_parts"], top 34, c__law_rest⟩
def t25 : Tx := ⟨"law", "law", ["_law_script", "_law_parts", "_law_fine", "_law_deeds_here", "_law_word", "_law_one", "_law_two", "_law_three", "_law_k", "_law_part", "_law_made", "_law_twice"], top 35, c_law⟩
def Ts : List Tx := [t0, t1, t2, t3, t4, t5, t6, t7, t8, t9, t10, t11, t12, t13, t14, t15, t16, t17, t18, t19, t20, t21, t22, t23, t24, t25]
def Gt : GT := ⟨["tasks_in", "with_tasks", "size", "flat", "unlike_ones", "once", "short", "is_short", "is_over", "grouped", "group_behind", "then_behind", "behind", "told", "deeds_of", "other_deed", "unlike", "alike", "_law_cell_at", "_law_mixed", "_law_drawn", "_law_task", "_law_deeds", "_law_other", "_law_rest", "law"], [("DONE", .str "done"), ("FAILED", .str "failed"), ("GROUPS", .tup [.str "all", .str "any", .str "then"]), ("LETTERS", .str "abcdefghijklmnopqrstuvwxyz")], ["enumerate", "isinstance", "len", "list", "max", "min", "range", "set", "sorted", "str", "sum", "tuple"]⟩
theorem k0 : chkFn Gt t0 = true := by decide +kernel
theorem k1 : chkFn Gt t1 = true := by decide +kernel
theorem k2 : chkFn Gt t2 = true := by decide +kernel
theorem k3 : chkFn Gt t3 = true := by decide +kernel
theorem k4 : chkFn Gt t4 = true := by decide +kernel
theorem k5 : chkFn Gt t5 = true := by decide +kernel
theorem k6 : chkFn Gt t6 = true := by decide +kernel
theorem k7 : chkFn Gt t7 = true := by decide +kernel
theorem k8 : chkFn Gt t8 = true := by decide +kernel
theorem k9 : chkFn Gt t9 = true := by decide +kernel
theorem k10 : chkFn Gt t10 = true := by decide +kernel
theorem k11 : chkFn Gt t11 = true := by decide +kernel
theorem k12 : chkFn Gt t12 = true := by decide +kernel
theorem k13 : chkFn Gt t13 = true := by decide +kernel
theorem k14 : chkFn Gt t14 = true := by decide +kernel
theorem k15 : chkFn Gt t15 = true := by decide +kernel
theorem k16 : chkFn Gt t16 = true := by decide +kernel
theorem k17 : chkFn Gt t17 = true := by decide +kernel
theorem k18 : chkFn Gt t18 = true := by decide +kernel
theorem k19 : chkFn Gt t19 = true := by decide +kernel
theorem k20 : chkFn Gt t20 = true := by decide +kernel
theorem k21 : chkFn Gt t21 = true := by decide +kernel
theorem k22 : chkFn Gt t22 = true := by decide +kernel
theorem k23 : chkFn Gt t23 = true := by decide +kernel
theorem k24 : chkFn Gt t24 = true := by decide +kernel
theorem k25 : chkFn Gt t25 = true := by decide +kernel
end TP

namespace TL
open PySem hiding run execs exec finish Env
open L2

def D.isS : TL.D → Bool
  | .str _ => true
  | _ => false
theorem eqv_str (x y : Str) : (TL.D.str x).eqv (.str y) = decide (x = y) := by
  unfold TL.D.eqv TL.D.py PyData.eqv
  by_cases h : x = y
  · simp [h]
  · simp [h]
theorem eqv_tup_str (ds : List TL.D) (y : Str) : (TL.D.tup ds).eqv (.str y) = false := by
  unfold TL.D.eqv TL.D.py PyData.eqv
  rfl
theorem eqv_str_tup (ds : List TL.D) (y : Str) : (TL.D.str y).eqv (.tup ds) = false := by
  unfold TL.D.eqv TL.D.py PyData.eqv
  rfl
theorem eqv_int (x y : Int) : (TL.D.int x).eqv (.int y) = decide (x = y) := by
  unfold TL.D.eqv TL.D.py PyData.eqv
  by_cases h : x = y
  · simp [h]
  · simp [h]
theorem eqv_non : TL.D.non.eqv .non = true := by
  unfold TL.D.eqv TL.D.py PyData.eqv
  rfl
theorem eqv_lst_nil (ds : List TL.D) : (TL.D.lst ds).eqv (.lst []) = decide (ds = []) := by
  unfold TL.D.eqv TL.D.py PyData.eqv
  cases ds <;> simp [pys, PyData.eqvAll]
/-- fit to be compared: plain, at most n deep -/
def okD (n : Nat) (d : TL.D) : Prop := d.py.canLay0 = true ∧ d.py.depth ≤ n
theorem okD.shp {n : Nat} {d : TL.D} (h : okD n d) (hn : n ≤ 64) : d.shp = true := by
  unfold TL.D.shp SeqAt.shaped
  rw [h.1, Bool.true_and]
  exact decide_eq_true (Nat.le_trans h.2 hn)
theorem okD.mono {n m : Nat} {d : TL.D} (h : okD n d) (hn : n ≤ m) : okD m d := ⟨h.1, Nat.le_trans h.2 hn⟩
theorem okD_int (n : Nat) (i : Int) : okD n (.int i) := ⟨rfl, Nat.zero_le _⟩
theorem okD_non (n : Nat) : okD n .non := ⟨rfl, Nat.zero_le _⟩
theorem okD_str (n : Nat) {x : Str} (h : PyData.strOk x = true) : okD n (.str x) := ⟨h, Nat.zero_le _⟩
theorem okD_tup {n : Nat} : ∀ {ds : List TL.D}, (∀ d ∈ ds, okD n d) → okD (n + 1) (.tup ds) := by
  intro ds h
  have h' : ∀ (ds : List TL.D), (∀ d ∈ ds, okD n d) → PyData.canLayAll0 (pys ds) = true ∧ PyData.depthAll (pys ds) ≤ n := by
    intro ds
    induction ds with
    | nil => intro _; exact ⟨rfl, Nat.zero_le _⟩
    | cons d ds ih =>
      intro h
      have a := h d (List.mem_cons_self ..)
      have b := ih fun x hx => h x (List.mem_cons_of_mem _ hx)
      simp only [pys, PyData.canLayAll0, PyData.depthAll]
      exact ⟨by rw [a.1, b.1]; rfl, Nat.max_le.mpr ⟨a.2, b.2⟩⟩
  have z := h' ds h
  unfold okD
  simp only [TL.D.py, PyData.canLay0, PyData.depth]
  exact ⟨z.1, by omega⟩
theorem okD_lst {n : Nat} {ds : List TL.D} (h : ∀ d ∈ ds, okD n d) : okD (n + 1) (.lst ds) := by
  have z := okD_tup h
  unfold okD at z ⊢
  simp only [TL.D.py, PyData.canLay0, PyData.depth] at z ⊢
  exact z
theorem okD_tup_nil (n : Nat) : okD n.succ (.tup []) := okD_tup (fun _ h => nomatch h)
theorem okD.eqv_refl {n : Nat} {d : TL.D} (h : okD n d) : d.eqv d = true := SeqAt.eqv_refl _ h.1
theorem okD.own {n : Nat} {d : TL.D} (h : okD n d) : d.own = false := by
  cases d <;> first | rfl | (have := h.1; simp [TL.D.py, PyData.canLay0] at this)
theorem dEq_ok {n m : Nat} {a b : TL.D} (h : okD n a) (k : okD m b) (hn : n ≤ 64) (hm : m ≤ 64) : dEq a b = some (.bl (a.eqv b)) := by
  unfold dEq
  rw [h.shp hn, k.shp hm]
  rfl
theorem dNe_ok {n m : Nat} {a b : TL.D} (h : okD n a) (k : okD m b) (hn : n ≤ 64) (hm : m ≤ 64) : dNe a b = some (.bl (!a.eqv b)) := by
  unfold dNe
  rw [h.shp hn, k.shp hm]
  rfl
/-- a comprehension whose parts are quiet -/
theorem lcGo_map {bnd : TL.D → Option Env} {c e : Env → Sto → R TL.D} {st : Sto} {p : TL.D → Bool} {g : TL.D → TL.D} : ∀ {xs : List TL.D}, (∀ x ∈ xs, ∃ ρ, bnd x = some ρ ∧ c ρ st = .ok (.bl (p x)) st ∧ (p x = true → e ρ st = .ok (g x) st ∧ (g x).own = false)) → lcGo bnd c e xs st = .ok ((xs.filter p).map g) st := by
  intro xs
  induction xs with
  | nil => intro _; rfl
  | cons x xs ih =>
    intro h
    obtain ⟨ρ, h1, h2, h3⟩ := h x (List.mem_cons_self ..)
    have ih := ih fun y hy => h y (List.mem_cons_of_mem _ hy)
    unfold lcGo
    simp only [h1, h2, R.bind]
    cases hp : p x with
    | true =>
      obtain ⟨h3, h4⟩ := h3 hp
      simp only [h3, h4, ih, List.filter_cons, hp, if_true, List.map_cons, Bool.false_eq_true, if_false]
    | false => simp only [ih, List.filter_cons, hp, Bool.false_eq_true, if_false]
/-- a comprehension that asks nothing -/
theorem lcGo_all {bnd : TL.D → Option Env} {c e : Env → Sto → R TL.D} {st : Sto} {g : TL.D → TL.D} {xs : List TL.D} (h : ∀ x ∈ xs, ∃ ρ, bnd x = some ρ ∧ c ρ st = .ok (.bl true) st ∧ e ρ st = .ok (g x) st ∧ (g x).own = false) : lcGo bnd c e xs st = .ok (xs.map g) st := by
  have z := lcGo_map (bnd := bnd) (c := c) (e := e) (st := st) (p := fun _ => true) (g := g) (xs := xs) fun x hx => by
    obtain ⟨ρ, a, b, d⟩ := h x hx
    exact ⟨ρ, a, b, fun _ => d⟩
  rw [z, List.filter_eq_self.mpr fun _ _ => rfl]
theorem lcGo_ex {bnd : TL.D → Option Env} {c e : Env → Sto → R TL.D} {st : Sto} {P : TL.D → Prop} : ∀ {xs : List TL.D}, (∀ x ∈ xs, ∃ ρ d, bnd x = some ρ ∧ c ρ st = .ok (.bl true) st ∧ e ρ st = .ok d st ∧ d.own = false ∧ P d) →
    ∃ ds, lcGo bnd c e xs st = .ok ds st ∧ ds.length = xs.length ∧ ∀ d ∈ ds, P d := by
  intro xs
  induction xs with
  | nil => intro _; exact ⟨[], rfl, rfl, fun _ h => nomatch h⟩
  | cons x xs ih =>
    intro h
    obtain ⟨ρ, d, h1, h2, h3, h4, h5⟩ := h x (List.mem_cons_self ..)
    obtain ⟨ds, e1, e2, e3⟩ := ih fun y hy => h y (List.mem_cons_of_mem _ hy)
    refine ⟨d :: ds, ?_, by rw [List.length_cons, List.length_cons, e2], fun y hy => ?_⟩
    · unfold lcGo
      simp only [h1, h2, R.bind, h3, h4, e1, Bool.false_eq_true, if_false]
    · rcases List.mem_cons.mp hy with rfl | hy
      · exact h5
      · exact e3 y hy
/-- a for that only goes through -/
theorem forGo_inv {bnd : TL.D → Env → Option Env} {b : Env → Sto → Fl} {st : Sto} {I : List TL.D → Env → Prop} {Q : Fl → Prop} : ∀ (xs : List TL.D) {ρ : Env}, I xs ρ → (∀ ρ, I [] ρ → Q (.nx ρ st)) →
    (∀ x xs ρ, I (x :: xs) ρ → ∃ ρ1, bnd x ρ = some ρ1 ∧ ((∃ ρ2, b ρ1 st = .nx ρ2 st ∧ I xs ρ2) ∨ (∃ d, b ρ1 st = .rt d st ∧ Q (.rt d st)))) → Q (forGo bnd b xs ρ st)
  | [], ρ, h, e, _ => e ρ h
  | x :: xs, ρ, h, e, s => by
    obtain ⟨ρ1, h1, h2⟩ := s x xs ρ h
    unfold forGo
    rw [h1]
    rcases h2 with ⟨ρ2, h2, h3⟩ | ⟨d, h2, h3⟩
    · simp only [h2, Fl.seq]
      exact forGo_inv xs h3 e s
    · simp only [h2, Fl.seq]
      exact h3
@[simp] theorem str_inj (x y : String) : (Str.ofString x = Str.ofString y) = (x = y) := by
  apply propext
  constructor
  · intro h
    rw [Str.ofString_eq_toList, Str.ofString_eq_toList] at h
    have h : x.toList.map Char.toNat = y.toList.map Char.toNat := by
      have := congrArg (fun s : Str => s.cps.toList) h
      simpa using this
    have h2 : x.toList = y.toList := by
      have inj : ∀ a b : Char, a.toNat = b.toNat → a = b := fun a b e => Char.ext (UInt32.toNat_inj.mp e)
      have : ∀ (l m : List Char), l.map Char.toNat = m.map Char.toNat → l = m := by
        intro l
        induction l with
        | nil => intro m e; cases m with
          | nil => rfl
          | cons _ _ => cases e
        | cons a l ih => intro m e; cases m with
          | nil => cases e
          | cons b m =>
            simp only [List.map_cons, List.cons.injEq] at e
            rw [inj a b e.1, ih m e.2]
      exact this _ _ h
    exact String.toList_inj.mp h2
  · intro h
    rw [h]
/-- loops over code: named, so that simp leaves them alone -/
def lcE (C : Cal) (elt : E) (tg : T) (own : List Nat) (cond : List E) (xs : List TL.D) (ρ : TL.Env) (st : Sto) : R (List TL.D) := lcGo (fun x => bindT tg x (wipeE ρ own)) (fun ρ st => evAnd1 C cond ρ st) (fun ρ st => ev C elt ρ st) xs st
def forE (C : Cal) (tg : T) (body : List S) (xs : List TL.D) (ρ : TL.Env) (st : Sto) : Fl := forGo (bindT tg) (fun ρ st => execs C body ρ st) xs ρ st
def whileE (C : Cal) (c : E) (body : List S) (n : Nat) (ρ : TL.Env) (st : Sto) : Fl := whileGo (fun ρ st => ev C c ρ st) (fun ρ st => execs C body ρ st) n ρ st
def ropt {α β : Type} (o : Option α) (f : α → R β) : R β := match o with
  | none => .fail
  | some a => f a
def fopt {α : Type} (o : Option α) (f : α → Fl) : Fl := match o with
  | none => .fail
  | some a => f a
def kTup (ds : List TL.D) (st : List TL.D) : R TL.D := .ok (.tup ds) st
def kLst (ds : List TL.D) (st : List TL.D) : R TL.D := .ok (.lst ds) st
def kO1 (o : O1) (d : TL.D) (st : List TL.D) : R TL.D := R.lift st (o1 o d)
def kO2b (o : O2) (x y : TL.D) (st : List TL.D) : R TL.D := R.lift st (o2 o x y)
def kO2 (C : Cal) (o : O2) (b : E) (ρ : TL.Env) (x : TL.D) (st : List TL.D) : R TL.D := (ev C b ρ st).bind (kO2b o x)
def kNot (k : Bool) (st : List TL.D) : R TL.D := .ok (.bl (!k)) st
def kIf (C : Cal) (a b : E) (ρ : TL.Env) (k : Bool) (st : List TL.D) : R TL.D := if k then ev C a ρ st else ev C b ρ st
def kSl5 (d : TL.D) (l h : Option Int) (st : List TL.D) : R TL.D := R.lift st (dCut d l h)
def kSl4 (d : TL.D) (l : Option Int) (h : List TL.D) (st : List TL.D) : R TL.D := (R.lift st (optI h)).bind (kSl5 d l)
def kSl3 (C : Cal) (hi : List E) (ρ : TL.Env) (d : TL.D) (l : Option Int) (st : List TL.D) : R TL.D := (evs C hi ρ st).bind (kSl4 d l)
def kSl2 (C : Cal) (hi : List E) (ρ : TL.Env) (d : TL.D) (l : List TL.D) (st : List TL.D) : R TL.D := (R.lift st (optI l)).bind (kSl3 C hi ρ d)
def kSl1 (C : Cal) (lo hi : List E) (ρ : TL.Env) (d : TL.D) (st : List TL.D) : R TL.D := (evs C lo ρ st).bind (kSl2 C hi ρ d)
def kAnd (C : Cal) (es : List E) (ρ : TL.Env) (k : Bool) (st : List TL.D) : R TL.D := if k then evAnd C es ρ st else .ok (.bl false) st
def kOr (C : Cal) (es : List E) (ρ : TL.Env) (k : Bool) (st : List TL.D) : R TL.D := if k then .ok (.bl true) st else evOr C es ρ st
def kEsb (d : TL.D) (ds : List TL.D) (st : List TL.D) : R (List TL.D) := .ok (d :: ds) st
def kEs (C : Cal) (es : List E) (ρ : TL.Env) (d : TL.D) (st : List TL.D) : R (List TL.D) := (evs C es ρ st).bind (kEsb d)
def kSm (C : Cal) (o : O2) (b : E) (ρ : TL.Env) (x : TL.D) (st : List TL.D) : R TL.D := match x with
  | .str x => (ev C b ρ st).bind (kO2b o (.str x))
  | _ => .fail
def kCh3 (C : Cal) (o : O2) (c : E) (ρ : TL.Env) (y : TL.D) (k : Bool) (st : List TL.D) : R TL.D := if k then (ev C c ρ st).bind (kO2b o y) else .ok (.bl false) st
def kCh2 (C : Cal) (o o' : O2) (c : E) (ρ : TL.Env) (x y : TL.D) (st : List TL.D) : R TL.D := (R.lift st (o2 o x y)).bool (kCh3 C o' c ρ y)
def kCh1 (C : Cal) (o o' : O2) (b c : E) (ρ : TL.Env) (x : TL.D) (st : List TL.D) : R TL.D := (ev C b ρ st).bind (kCh2 C o o' c ρ x)
def kLc2 (C : Cal) (elt : E) (tg : T) (cond : List E) (own : List Nat) (ρ : TL.Env) (st : List TL.D) (xs : List TL.D) : R TL.D := ((lcE C elt tg own cond xs ρ st).quiet).bind kLst
def kLc (C : Cal) (elt : E) (tg : T) (ik : IK) (cond : List E) (own : List Nat) (ρ : TL.Env) (ds : List TL.D) (st : List TL.D) : R TL.D := ropt (items ik ds) (kLc2 C elt tg cond own ρ st)
def kDic (ks : List Str) (ds : List TL.D) (st : List TL.D) : R TL.D := .ok (.dic (ks.zip ds)) st
def kDg3 (kvs : List (Str × TL.D)) (y z : TL.D) (st : List TL.D) : R TL.D := R.lift st (dGet kvs y z)
def kDg2 (C : Cal) (d : E) (ρ : TL.Env) (kvs : List (Str × TL.D)) (y : TL.D) (st : List TL.D) : R TL.D := (ev C d ρ st).bind (kDg3 kvs y)
def kDg1 (C : Cal) (k d : E) (ρ : TL.Env) (x : TL.D) (st : List TL.D) : R TL.D := match x with
  | .dic kvs => (ev C k ρ st).bind (kDg2 C d ρ kvs)
  | _ => .fail
def kSet (i : Nat) (ρ : TL.Env) (d : TL.D) (st : List TL.D) : Fl := if d.own then .fail else .nx (ρ.set i (some d)) st
def kOwn (i : Nat) (ρ : TL.Env) (ds : List TL.D) (st : List TL.D) : Fl := .nx (ρ.set i (some (.mlst ds))) st
def kNx (st : List TL.D) (ρ : TL.Env) : Fl := .nx ρ st
def kUnp (is : List Nat) (ρ : TL.Env) (d : TL.D) (st : List TL.D) : Fl := fopt (bindT (.tp is) d ρ) (kNx st)
def kIfs (C : Cal) (a b : List S) (ρ : TL.Env) (d : TL.D) (st : List TL.D) : Fl := match d with
  | .bl k => if k then execs C a ρ st else execs C b ρ st
  | _ => .fail
def kRet (d : TL.D) (st : List TL.D) : Fl := if d.own then .fail else .rt d st
def kEx (ρ : TL.Env) (d : TL.D) (st : List TL.D) : Fl := .nx ρ st
def kFor2 (C : Cal) (tg : T) (body : List S) (ρ : TL.Env) (st : List TL.D) (xs : List TL.D) : Fl := forE C tg body xs ρ st
def kFor (C : Cal) (tg : T) (ik : IK) (body : List S) (ρ : TL.Env) (ds : List TL.D) (st : List TL.D) : Fl := fopt (items ik ds) (kFor2 C tg body ρ st)
def kApp2 (i : Nat) (ρ : TL.Env) (ds : List TL.D) (d : TL.D) (st : List TL.D) : Fl := if d.own then .fail else if ds.length < sizeLine then .nx (ρ.set i (some (.mlst (ds ++ [d])))) st else .fail
def kApp (C : Cal) (i : Nat) (e : E) (ρ : TL.Env) (st : List TL.D) (x : Option (Option TL.D)) : Fl := match x with
  | some (some (.mlst ds)) => Fl.of ρ (ev C e ρ st) (kApp2 i ρ ds)
  | _ => .fail
def kExt2 (i : Nat) (ρ : TL.Env) (ds : List TL.D) (d : TL.D) (st : List TL.D) : Fl := match d with
  | .lst es => if ds.length + es.length ≤ sizeLine then .nx (ρ.set i (some (.mlst (ds ++ es)))) st else .fail
  | .tup es => if ds.length + es.length ≤ sizeLine then .nx (ρ.set i (some (.mlst (ds ++ es)))) st else .fail
  | _ => .fail
def kExt (C : Cal) (i : Nat) (e : E) (ρ : TL.Env) (st : List TL.D) (x : Option (Option TL.D)) : Fl := match x with
  | some (some (.mlst ds)) => Fl.of ρ (ev C e ρ st) (kExt2 i ρ ds)
  | _ => .fail
def kIn2 (neg : Bool) (y : Option (Option TL.D)) (x : TL.D) (st : List TL.D) : R TL.D := match y with
  | some (some (.mlst ds)) => R.lift st ((inD x (.mlst ds)).map fun b => .bl (if neg then !b else b))
  | some (some (.mset ks)) => R.lift st ((inD x (.mset ks)).map fun b => .bl (if neg then !b else b))
  | _ => .fail
def kUnpL (is : List Nat) (ρ : TL.Env) (d : TL.D) (st : List TL.D) : Fl := match d with
  | .lst ds => if ds.length = is.length then .nx (setAll is ds ρ) st else .fail
  | _ => .fail
def kSrt (d : TL.D) (st : List TL.D) : R TL.D := R.lift st (o1 .sortedSet d)
def kMinN (d : TL.D) (st : List TL.D) : R TL.D := R.lift st (o1 .minN d)
def kLm (C : Cal) (o : O2) (b : E) (ρ : TL.Env) (x : TL.D) (st : List TL.D) : R TL.D := match x with
  | .lst x => (ev C b ρ st).bind (kO2b o (.lst x))
  | _ => .fail
def kOwnd (i : Nat) (ρ : TL.Env) (d : TL.D) (st : List TL.D) : Fl := if isKey d then .nx (ρ.set i (some (.mset [d]))) st else .fail
def kPut2 (i : Nat) (ρ : TL.Env) (ks : List TL.D) (d : TL.D) (st : List TL.D) : Fl := if isKey d && decide (ks.length < sizeLine) then .nx (ρ.set i (some (.mset (if ks.any fun y => y.eqv d then ks else ks ++ [d])))) st else .fail
def kPut (C : Cal) (i : Nat) (e : E) (ρ : TL.Env) (st : List TL.D) (x : Option (Option TL.D)) : Fl := match x with
  | some (some (.mset ks)) => Fl.of ρ (ev C e ρ st) (kPut2 i ρ ks)
  | _ => .fail
def kFrz (i : Nat) (ρ : TL.Env) (st : List TL.D) (x : Option (Option TL.D)) : Fl := match x with
  | some (some (.mlst ds)) => .nx (ρ.set i (some (.lst ds))) st
  | _ => .fail
section simps
variable {α β : Type} {C : Cal} {st : Sto} {ρ : TL.Env}
theorem itRng {k : Int} (h1 : 0 ≤ k) (h2 : k ≤ 100000) : items .rng [.int k] = some ((List.range k.toNat).map fun (i : Nat) => .int (i : Int)) := by
  simp only [items, Int.zero_add]
  rw [if_pos ⟨by omega, by unfold sizeLine; omega⟩]
theorem itRng2 {a k : Int} (h : 0 ≤ a) (h0 : a ≤ 100000) (h1 : 0 ≤ k) (h2 : k ≤ 100000) : items .rng [.int a, .int k] = some ((List.range (k - a).toNat).map fun (i : Nat) => .int (a + (i : Int))) := by
  simp only [items]
  rw [if_pos ⟨by omega, by omega, by omega, by omega, by unfold sizeLine; omega⟩]
@[simp] theorem itTup {ds : List TL.D} : items .tup [.tup ds] = some ds := rfl
@[simp] theorem itLst {ds : List TL.D} : items .lst [.lst ds] = some ds := rfl
@[simp] theorem itFls {ds : List TL.D} : items .fls [.fls ds] = some ds := rfl
@[simp] theorem itEnT {ds : List TL.D} : items .enumT [.tup ds] = some (ds.zipIdx.map fun p => .tup [.int (p.2 : Nat), p.1]) := rfl
@[simp] theorem itEnL {ds : List TL.D} : items .enumL [.lst ds] = some (ds.zipIdx.map fun p => .tup [.int (p.2 : Nat), p.1]) := rfl
@[simp] theorem ropt_some {a : α} {f : α → R β} : ropt (some a) f = f a := by unfold ropt; rfl
@[simp] theorem fopt_some {a : α} {f : α → Fl} : fopt (some a) f = f a := by unfold fopt; rfl
@[simp] theorem bind_ok {a : α} {f : α → List TL.D → R β} : (R.ok a st).bind f = f a st := by unfold R.bind; rfl
@[simp] theorem bind_exc {c : Nat} {f : α → List TL.D → R β} : (R.exc c st).bind f = .exc c st := rfl
@[simp] theorem bind_fail {f : α → List TL.D → R β} : (R.fail).bind f = .fail := rfl
@[simp] theorem bind_ite {p : Prop} [Decidable p] {a b : R α} {f : α → List TL.D → R β} : (if p then a else b).bind f = if p then a.bind f else b.bind f := by split <;> rfl
@[simp] theorem bool_ok {b : Bool} {f : Bool → List TL.D → R TL.D} : (R.ok (.bl b) st).bool f = f b st := by unfold R.bool; rfl
@[simp] theorem bool_exc {c : Nat} {f : Bool → List TL.D → R TL.D} : (R.exc c st).bool f = .exc c st := rfl
@[simp] theorem lift_some {a : α} : R.lift st (some a) = .ok a st := rfl
@[simp] theorem lift_none : R.lift st (none : Option α) = .fail := rfl
@[simp] theorem quiet_ok {a : α} : (R.ok a st).quiet = .ok a st := by unfold R.quiet; rfl
@[simp] theorem of_ok {a : TL.D} {f : TL.D → List TL.D → Fl} : Fl.of ρ (.ok a st) f = f a st := by unfold Fl.of; rfl
@[simp] theorem of_exc {c : Nat} {f : TL.D → List TL.D → Fl} : Fl.of ρ (.exc c st) f = .ex c ρ st := rfl
@[simp] theorem ofs_ok {a : List TL.D} {f : List TL.D → List TL.D → Fl} : Fl.ofs ρ (.ok a st) f = f a st := by unfold Fl.ofs; rfl
@[simp] theorem seq_nx {f : TL.Env → Sto → Fl} : (Fl.nx ρ st).seq f = f ρ st := by unfold Fl.seq; rfl
@[simp] theorem seq_rt {d : TL.D} {f : TL.Env → Sto → Fl} : (Fl.rt d st).seq f = .rt d st := by unfold Fl.seq; rfl
@[simp] theorem seq_ex {c : Nat} {f : TL.Env → Sto → Fl} : (Fl.ex c ρ st).seq f = .ex c ρ st := rfl
@[simp] theorem seq_ite {p : Prop} [Decidable p] {a b : Fl} {f : TL.Env → Sto → Fl} : (if p then a else b).seq f = if p then a.seq f else b.seq f := by split <;> rfl
@[simp] theorem fin_nx : finish (.nx ρ st) = .ok .non st := rfl
@[simp] theorem fin_rt {d : TL.D} : finish (.rt d st) = .ok d st := rfl
@[simp] theorem fin_ex {c : Nat} : finish (.ex c ρ st) = .exc c st := rfl
@[simp] theorem fin_ite {p : Prop} [Decidable p] {a b : Fl} : finish (if p then a else b) = if p then finish a else finish b := by split <;> rfl
@[simp] theorem own_non : TL.D.non.own = false := rfl
@[simp] theorem own_bl {b : Bool} : (TL.D.bl b).own = false := rfl
@[simp] theorem own_int {b : Int} : (TL.D.int b).own = false := rfl
@[simp] theorem own_str {b : Str} : (TL.D.str b).own = false := rfl
@[simp] theorem own_tup {b : List TL.D} : (TL.D.tup b).own = false := rfl
@[simp] theorem own_lst {b : List TL.D} : (TL.D.lst b).own = false := rfl
@[simp] theorem own_fls {b : List TL.D} : (TL.D.fls b).own = false := rfl
@[simp] theorem evv {i : Nat} : ev C (.var i) ρ st = match ρ[i]? with
    | some (some d) => if d.own then .fail else .ok d st
    | _ => .fail := by unfold ev; rfl
@[simp] theorem evc {d : TL.D} : ev C (.con d) ρ st = .ok d st := by unfold ev; rfl
@[simp] theorem evt {es : List E} : ev C (.tup es) ρ st = (evs C es ρ st).bind kTup := by rw [ev] <;> rfl
@[simp] theorem evl {es : List E} : ev C (.lst es) ρ st = (evs C es ρ st).bind kLst := by rw [ev] <;> rfl
@[simp] theorem ev1 {o : O1} {e : E} : ev C (.o1 o e) ρ st = (ev C e ρ st).bind (kO1 o) := by rw [ev] <;> rfl
@[simp] theorem ev2 {o : O2} {a b : E} : ev C (.o2 o a b) ρ st = (ev C a ρ st).bind (kO2 C o b ρ) := by rw [ev] <;> rfl
@[simp] theorem evn {e : E} : ev C (.not e) ρ st = (ev C e ρ st).bool kNot := by rw [ev] <;> rfl
@[simp] theorem evi {c a b : E} : ev C (.ife c a b) ρ st = (ev C c ρ st).bool (kIf C a b ρ) := by rw [ev] <;> rfl
@[simp] theorem evcall {f : Nat} {es : List E} : ev C (.call f es) ρ st = (evs C es ρ st).bind (C f) := by rw [ev] <;> rfl
@[simp] theorem evsl {e : E} {lo hi : List E} : ev C (.sl e lo hi) ρ st = (ev C e ρ st).bind (kSl1 C lo hi ρ) := by rw [ev] <;> rfl
@[simp] theorem evand {es : List E} : ev C (.and es) ρ st = evAnd C es ρ st := by rw [ev]
@[simp] theorem evor {es : List E} : ev C (.or es) ρ st = evOr C es ρ st := by rw [ev]
@[simp] theorem evA1 {e : E} : evAnd C [e] ρ st = ev C e ρ st := by rw [evAnd]
@[simp] theorem evA2 {e f : E} {es : List E} : evAnd C (e :: f :: es) ρ st = (ev C e ρ st).bool (kAnd C (f :: es) ρ) := by
  rw [evAnd]
  · rfl
  · intro h; cases h
@[simp] theorem evO1 {e : E} : evOr C [e] ρ st = ev C e ρ st := by rw [evOr]
@[simp] theorem evO2 {e f : E} {es : List E} : evOr C (e :: f :: es) ρ st = (ev C e ρ st).bool (kOr C (f :: es) ρ) := by
  rw [evOr]
  · rfl
  · intro h; cases h
@[simp] theorem evs0 : evs C [] ρ st = .ok [] st := by rw [evs]
@[simp] theorem evs1 {e : E} {es : List E} : evs C (e :: es) ρ st = (ev C e ρ st).bind (kEs C es ρ) := by rw [evs] <;> rfl
@[simp] theorem evA10 : evAnd1 C [] ρ st = .ok (.bl true) st := by rw [evAnd1]
@[simp] theorem evA11 {e : E} {es : List E} : evAnd1 C (e :: es) ρ st = ev C e ρ st := by rw [evAnd1]
@[simp] theorem evsm {o : O2} {a b : E} : ev C (.sm o a b) ρ st = (ev C a ρ st).bind (kSm C o b ρ) := by
  rw [ev] <;> first | rfl | (congr 1; done) | (congr 1; funext x st; cases x <;> rfl)
@[simp] theorem evch {o o' : O2} {a b c : E} : ev C (.chain o o' a b c) ρ st = (ev C a ρ st).bind (kCh1 C o o' b c ρ) := by rw [ev] <;> rfl
@[simp] theorem evlc {elt : E} {tg : T} {ik : IK} {ie cond : List E} {own : List Nat} : ev C (.lc elt tg ik ie cond own) ρ st = (evs C ie ρ st).bind (kLc C elt tg ik cond own ρ) := by
  rw [ev]
  congr 1
  funext ds st
  unfold kLc ropt kLc2 lcE
  split <;> rename_i h <;> first | rfl | (simp only [h]; done) | (simp only [h]; rfl)
@[simp] theorem ex0 : execs C [] ρ st = .nx ρ st := by rw [execs]
@[simp] theorem ex1 {s : S} {ss : List S} : execs C (s :: ss) ρ st = (exec C s ρ st).seq (execs C ss) := by rw [execs]
@[simp] theorem exset {i : Nat} {e : E} : exec C (.set i e) ρ st = Fl.of ρ (ev C e ρ st) (kSet i ρ) := by rw [exec] <;> rfl
@[simp] theorem exown {i : Nat} {es : List E} : exec C (.own i es) ρ st = Fl.ofs ρ (evs C es ρ st) (kOwn i ρ) := by rw [exec] <;> rfl
@[simp] theorem exunp {is : List Nat} {e : E} : exec C (.unpack is e) ρ st = Fl.of ρ (ev C e ρ st) (kUnp is ρ) := by
  rw [exec]
  congr 1
  funext ds st
  unfold kUnp fopt kNx
  split <;> rename_i h <;> first | rfl | (simp only [h]; done) | (simp only [h]; rfl)
@[simp] theorem exifs {c : E} {a b : List S} : exec C (.ifs c a b) ρ st = Fl.of ρ (ev C c ρ st) (kIfs C a b ρ) := by
  rw [exec] <;> first | rfl | (congr 1; done) | (congr 1; funext x st; cases x <;> rfl)
@[simp] theorem exret {e : E} : exec C (.ret e) ρ st = Fl.of ρ (ev C e ρ st) kRet := by rw [exec] <;> rfl
@[simp] theorem exretN : exec C .retN ρ st = .rt .non st := by rw [exec]
@[simp] theorem exexpr {e : E} : exec C (.expr e) ρ st = Fl.of ρ (ev C e ρ st) (kEx ρ) := by rw [exec] <;> rfl
@[simp] theorem exfor {tg : T} {ik : IK} {ie : List E} {body : List S} : exec C (.for tg ik ie body) ρ st = Fl.ofs ρ (evs C ie ρ st) (kFor C tg ik body ρ) := by
  rw [exec]
  congr 1
  funext ds st
  unfold kFor fopt kFor2 forE
  split <;> rename_i h <;> first | rfl | (simp only [h]; done) | (simp only [h]; rfl)
@[simp] theorem exwhile {c : E} {body : List S} : exec C (.while c body) ρ st = whileE C c body FU ρ st := by unfold whileE; rw [exec]
@[simp] theorem exapp {i : Nat} {e : E} : exec C (.app i e) ρ st = kApp C i e ρ st ρ[i]? := by
  rw [exec]
  unfold kApp
  split <;> rename_i h <;> first | rfl | (simp only [h]; done) | (simp only [h]; rfl)
@[simp] theorem exfrz {i : Nat} : exec C (.freeze i) ρ st = kFrz i ρ st ρ[i]? := by
  rw [exec]
  unfold kFrz
  split <;> rename_i h <;> first | rfl | (simp only [h]; done) | (simp only [h]; rfl)
@[simp] theorem evdic {ks : List Str} {es : List E} : ev C (.dic ks es) ρ st = (evs C es ρ st).bind (kDic ks) := by rw [ev] <;> rfl
@[simp] theorem evdget {e k d : E} : ev C (.dget e k d) ρ st = (ev C e ρ st).bind (kDg1 C k d ρ) := by
  rw [ev] <;> first | rfl | (congr 1; done) | (congr 1; funext x st; cases x <;> rfl)
@[simp] theorem k_Dic {ks : List Str} {ds : List TL.D} : kDic ks ds st = .ok (.dic (ks.zip ds)) st := by unfold kDic; rfl
@[simp] theorem k_Dg1 {k d : E} {kvs : List (Str × TL.D)} : kDg1 C k d ρ (.dic kvs) st = (ev C k ρ st).bind (kDg2 C d ρ kvs) := by unfold kDg1; rfl
@[simp] theorem k_Dg2 {d : E} {kvs : List (Str × TL.D)} {y : TL.D} : kDg2 C d ρ kvs y st = (ev C d ρ st).bind (kDg3 kvs y) := by unfold kDg2; rfl
@[simp] theorem k_Dg3 {kvs : List (Str × TL.D)} {y z : TL.D} : kDg3 kvs y z st = R.lift st (dGet kvs y z) := by unfold kDg3; rfl
@[simp] theorem own_dic {kvs : List (Str × TL.D)} : (TL.D.dic kvs).own = false := rfl
@[simp] theorem exext {i : Nat} {e : E} : exec C (.ext i e) ρ st = kExt C i e ρ st ρ[i]? := by
  rw [exec]
  unfold kExt
  split <;> rename_i h <;> first | rfl | (simp only [h]; done) | (simp only [h]; rfl) | (simp only [h]; congr 1; funext d st; cases d <;> rfl)
@[simp] theorem evin {neg : Bool} {e : E} {i : Nat} : ev C (.inOwn neg e i) ρ st = (ev C e ρ st).bind (kIn2 neg ρ[i]?) := by
  rw [ev] <;> first | rfl | (congr 1; done) | (congr 1; funext x st; unfold kIn2; split <;> rename_i h <;> first | rfl | (simp only [h]; done) | (simp only [h]; rfl))
@[simp] theorem k_Ext2 {i : Nat} {ds es : List TL.D} : kExt2 i ρ ds (.lst es) st = if ds.length + es.length ≤ sizeLine then .nx (ρ.set i (some (.mlst (ds ++ es)))) st else .fail := by unfold kExt2; rfl
@[simp] theorem k_Ext {i : Nat} {e : E} {ds : List TL.D} : kExt C i e ρ st (some (some (.mlst ds))) = Fl.of ρ (ev C e ρ st) (kExt2 i ρ ds) := by unfold kExt; rfl
@[simp] theorem k_In2 {neg : Bool} {x : TL.D} {ds : List TL.D} : kIn2 neg (some (some (.mlst ds))) x st = R.lift st ((inD x (.mlst ds)).map fun b => .bl (if neg then !b else b)) := by unfold kIn2; rfl
@[simp] theorem exunpL {is : List Nat} {e : E} : exec C (.unpackL is e) ρ st = Fl.of ρ (ev C e ρ st) (kUnpL is ρ) := by
  rw [exec] <;> first | rfl | (congr 1; done) | (congr 1; funext x st; cases x <;> rfl)
@[simp] theorem k_UnpL {is : List Nat} {ds : List TL.D} : kUnpL is ρ (.lst ds) st = if ds.length = is.length then .nx (setAll is ds ρ) st else .fail := by unfold kUnpL; rfl
@[simp] theorem evsrt {e : E} : ev C (.srt e) ρ st = (ev C e ρ st).bind kSrt := by rw [ev] <;> rfl
@[simp] theorem evminN {e : E} : ev C (.minN e) ρ st = (ev C e ρ st).bind kMinN := by rw [ev] <;> rfl
@[simp] theorem k_MinN {d : TL.D} : kMinN d st = R.lift st (o1 .minN d) := by unfold kMinN; rfl
@[simp] theorem evlm {o : O2} {a b : E} : ev C (.lm o a b) ρ st = (ev C a ρ st).bind (kLm C o b ρ) := by
  rw [ev] <;> first | rfl | (congr 1; done) | (congr 1; funext x st; cases x <;> rfl)
@[simp] theorem k_Srt {d : TL.D} : kSrt d st = R.lift st (o1 .sortedSet d) := by unfold kSrt; rfl
@[simp] theorem k_Lm {o : O2} {b : E} {x : List TL.D} : kLm C o b ρ (.lst x) st = (ev C b ρ st).bind (kO2b o (.lst x)) := by unfold kLm; rfl
@[simp] theorem exownd {i : Nat} {e : E} : exec C (.ownd i e) ρ st = Fl.of ρ (ev C e ρ st) (kOwnd i ρ) := by rw [exec] <;> rfl
@[simp] theorem k_Ownd {i : Nat} {d : TL.D} : kOwnd i ρ d st = if isKey d then .nx (ρ.set i (some (.mset [d]))) st else .fail := by unfold kOwnd; rfl
@[simp] theorem exput {i : Nat} {e : E} : exec C (.put i e) ρ st = kPut C i e ρ st ρ[i]? := by
  rw [exec]
  unfold kPut
  split <;> rename_i h <;> first | rfl | (simp only [h]; done) | (simp only [h]; rfl)
@[simp] theorem k_Put {i : Nat} {e : E} {ks : List TL.D} : kPut C i e ρ st (some (some (.mset ks))) = Fl.of ρ (ev C e ρ st) (kPut2 i ρ ks) := by unfold kPut; rfl
@[simp] theorem k_Put2 {i : Nat} {ks : List TL.D} {d : TL.D} : kPut2 i ρ ks d st = if isKey d && decide (ks.length < sizeLine) then .nx (ρ.set i (some (.mset (if ks.any fun y => y.eqv d then ks else ks ++ [d])))) st else .fail := by unfold kPut2; rfl
@[simp] theorem k_In2m {neg : Bool} {x : TL.D} {ks : List TL.D} : kIn2 neg (some (some (.mset ks))) x st = R.lift st ((inD x (.mset ks)).map fun b => .bl (if neg then !b else b)) := by unfold kIn2; rfl
@[simp] theorem k_Tup {ds : List TL.D} : kTup ds st = .ok (.tup ds) st := rfl
@[simp] theorem k_Lst {ds : List TL.D} : kLst ds st = .ok (.lst ds) st := rfl
@[simp] theorem k_O1 {o : O1} {d : TL.D} : kO1 o d st = R.lift st (o1 o d) := rfl
@[simp] theorem k_O2b {o : O2} {x y : TL.D} : kO2b o x y st = R.lift st (o2 o x y) := rfl
@[simp] theorem k_O2 {o : O2} {b : E} {x : TL.D} : kO2 C o b ρ x st = (ev C b ρ st).bind (kO2b o x) := rfl
@[simp] theorem k_Not {k : Bool} : kNot k st = .ok (.bl (!k)) st := rfl
@[simp] theorem k_If {a b : E} {k : Bool} : kIf C a b ρ k st = if k then ev C a ρ st else ev C b ρ st := rfl
@[simp] theorem k_Sl5 {d : TL.D} {l h : Option Int} : kSl5 d l h st = R.lift st (dCut d l h) := rfl
@[simp] theorem k_Sl4 {d : TL.D} {l : Option Int} {h : List TL.D} : kSl4 d l h st = (R.lift st (optI h)).bind (kSl5 d l) := rfl
@[simp] theorem k_Sl3 {hi : List E} {d : TL.D} {l : Option Int} : kSl3 C hi ρ d l st = (evs C hi ρ st).bind (kSl4 d l) := rfl
@[simp] theorem k_Sl2 {hi : List E} {d : TL.D} {l : List TL.D} : kSl2 C hi ρ d l st = (R.lift st (optI l)).bind (kSl3 C hi ρ d) := rfl
@[simp] theorem k_Sl1 {lo hi : List E} {d : TL.D} : kSl1 C lo hi ρ d st = (evs C lo ρ st).bind (kSl2 C hi ρ d) := rfl
@[simp] theorem k_And {es : List E} {k : Bool} : kAnd C es ρ k st = if k then evAnd C es ρ st else .ok (.bl false) st := rfl
@[simp] theorem k_Or {es : List E} {k : Bool} : kOr C es ρ k st = if k then .ok (.bl true) st else evOr C es ρ st := rfl
@[simp] theorem k_Esb {d : TL.D} {ds : List TL.D} : kEsb d ds st = .ok (d :: ds) st := rfl
@[simp] theorem k_Es {es : List E} {d : TL.D} : kEs C es ρ d st = (evs C es ρ st).bind (kEsb d) := rfl
@[simp] theorem k_Sm {o : O2} {b : E} {x : Str} : kSm C o b ρ (.str x) st = (ev C b ρ st).bind (kO2b o (.str x)) := rfl
@[simp] theorem k_Ch3 {o : O2} {c : E} {y : TL.D} {k : Bool} : kCh3 C o c ρ y k st = if k then (ev C c ρ st).bind (kO2b o y) else .ok (.bl false) st := rfl
@[simp] theorem k_Ch2 {o o' : O2} {c : E} {x y : TL.D} : kCh2 C o o' c ρ x y st = (R.lift st (o2 o x y)).bool (kCh3 C o' c ρ y) := rfl
@[simp] theorem k_Ch1 {o o' : O2} {b c : E} {x : TL.D} : kCh1 C o o' b c ρ x st = (ev C b ρ st).bind (kCh2 C o o' c ρ x) := rfl
@[simp] theorem k_Lc2 {elt : E} {tg : T} {cond : List E} {own : List Nat} {xs : List TL.D} : kLc2 C elt tg cond own ρ st xs = ((lcE C elt tg own cond xs ρ st).quiet).bind kLst := rfl
@[simp] theorem k_Lc {elt : E} {tg : T} {ik : IK} {cond : List E} {own : List Nat} {ds : List TL.D} : kLc C elt tg ik cond own ρ ds st = ropt (items ik ds) (kLc2 C elt tg cond own ρ st) := by rw [kLc]
@[simp] theorem k_Set {i : Nat} {d : TL.D} : kSet i ρ d st = if d.own then .fail else .nx (ρ.set i (some d)) st := rfl
@[simp] theorem k_Own {i : Nat} {ds : List TL.D} : kOwn i ρ ds st = .nx (ρ.set i (some (.mlst ds))) st := rfl
@[simp] theorem k_Nx : kNx st ρ = .nx ρ st := rfl
@[simp] theorem k_Unp {is : List Nat} {d : TL.D} : kUnp is ρ d st = fopt (bindT (.tp is) d ρ) (kNx st) := rfl
@[simp] theorem k_Ifs {a b : List S} {k : Bool} : kIfs C a b ρ (.bl k) st = if k then execs C a ρ st else execs C b ρ st := rfl
@[simp] theorem k_Ret {d : TL.D} : kRet d st = if d.own then .fail else .rt d st := rfl
@[simp] theorem k_Ex {d : TL.D} : kEx ρ d st = .nx ρ st := rfl
@[simp] theorem k_For2 {tg : T} {body : List S} {xs : List TL.D} : kFor2 C tg body ρ st xs = forE C tg body xs ρ st := rfl
@[simp] theorem k_For {tg : T} {ik : IK} {body : List S} {ds : List TL.D} : kFor C tg ik body ρ ds st = fopt (items ik ds) (kFor2 C tg body ρ st) := by rw [kFor]
@[simp] theorem k_App2 {i : Nat} {ds : List TL.D} {d : TL.D} : kApp2 i ρ ds d st = if d.own then .fail else if ds.length < sizeLine then .nx (ρ.set i (some (.mlst (ds ++ [d])))) st else .fail := rfl
@[simp] theorem k_App {i : Nat} {e : E} {ds : List TL.D} : kApp C i e ρ st (some (some (.mlst ds))) = Fl.of ρ (ev C e ρ st) (kApp2 i ρ ds) := rfl
@[simp] theorem k_Frz {i : Nat} {ds : List TL.D} : kFrz i ρ st (some (some (.mlst ds))) = .nx (ρ.set i (some (.lst ds))) st := rfl
@[simp] theorem atI0 {x : α} {xs : List α} : atI (x :: xs) 0 = some x := by
  unfold atI ixN
  simp
@[simp] theorem atI1 {x y : α} {xs : List α} : atI (x :: y :: xs) 1 = some y := by
  unfold atI ixN
  have : ((1 : Int) < ((xs.length : Int) + 1 + 1)) := by omega
  simp [this]
@[simp] theorem atI2 {x y z : α} {xs : List α} : atI (x :: y :: z :: xs) 2 = some z := by
  unfold atI ixN
  have : ((2 : Int) < ((xs.length : Int) + 1 + 1 + 1)) := by omega
  simp [this]
theorem atI_nat {xs : List α} {k : Int} {x : α} (h : 0 ≤ k) (e : xs[k.toNat]? = some x) : atI xs k = some x := by
  have hl : k.toNat < xs.length := (List.getElem?_eq_some_iff.mp e).1
  unfold atI ixN
  rw [if_pos h, if_pos (by omega)]
  exact e
@[simp] theorem oIx {xs : List TL.D} {i : Int} : o2 .ix (.tup xs) (.int i) = atI xs i := rfl
@[simp] theorem oIxl {xs : List TL.D} {i : Int} : o2 .ix (.lst xs) (.int i) = atI xs i := rfl
@[simp] theorem oIxf {xs : List TL.D} {i : Int} : o2 .ix (.fls xs) (.int i) = atI xs i := rfl
@[simp] theorem oAdd {i j : Int} : o2 .add (.int i) (.int j) = some (.int (i + j)) := rfl
@[simp] theorem oSub {i j : Int} : o2 .sub (.int i) (.int j) = some (.int (i - j)) := rfl
@[simp] theorem oLt {i j : Int} : o2 .lt (.int i) (.int j) = some (.bl (decide (i < j))) := rfl
@[simp] theorem oGt {i j : Int} : o2 .gt (.int i) (.int j) = some (.bl (decide (j < i))) := rfl
@[simp] theorem oLe {i j : Int} : o2 .le (.int i) (.int j) = some (.bl (decide (i ≤ j))) := rfl
@[simp] theorem oGe {i j : Int} : o2 .ge (.int i) (.int j) = some (.bl (decide (j ≤ i))) := rfl
@[simp] theorem oEq {a b : TL.D} : o2 .eq a b = dEq a b := rfl
@[simp] theorem oNe {a b : TL.D} : o2 .ne a b = dNe a b := rfl
@[simp] theorem oIn {a b : TL.D} : o2 .isIn a b = dIn a b := rfl
@[simp] theorem oNotIn {a b : TL.D} : o2 .notIn a b = dNotIn a b := rfl
@[simp] theorem dEqi {i j : Int} : dEq (.int i) (.int j) = some (.bl (decide (i = j))) := by
  rw [dEq_ok (okD_int 0 i) (okD_int 0 j) (by decide) (by decide), eqv_int]
@[simp] theorem dNei {i j : Int} : dNe (.int i) (.int j) = some (.bl (!decide (i = j))) := by
  rw [dNe_ok (okD_int 0 i) (okD_int 0 j) (by decide) (by decide), eqv_int]
theorem dEqs {x y : Str} (h : PyData.strOk x = true) (k : PyData.strOk y = true) : dEq (.str x) (.str y) = some (.bl (decide (x = y))) := by
  rw [dEq_ok (okD_str 0 h) (okD_str 0 k) (by decide) (by decide), eqv_str]
theorem dNes {x y : Str} (h : PyData.strOk x = true) (k : PyData.strOk y = true) : dNe (.str x) (.str y) = some (.bl (!decide (x = y))) := by
  rw [dNe_ok (okD_str 0 h) (okD_str 0 k) (by decide) (by decide), eqv_str]
@[simp] theorem strOk_of (x : String) : PyData.strOk (Str.ofString x) = true := by
  rw [Str.ofString_eq_toList]
  unfold PyData.strOk
  rw [← Array.all_toList]
  simp only [List.all_eq_true, List.mem_map]
  rintro _ ⟨c, _, rfl⟩
  have := c.valid
  simp only [decide_eq_true_eq]
  rcases this with h | h
  · exact Nat.lt_trans h (by decide)
  · exact h.2
@[simp] theorem oLent {ds : List TL.D} : o1 .len (.tup ds) = some (.int ds.length) := rfl
@[simp] theorem oLenl {ds : List TL.D} : o1 .len (.lst ds) = some (.int ds.length) := rfl
@[simp] theorem oLenf {ds : List TL.D} : o1 .len (.fls ds) = some (.int ds.length) := rfl
@[simp] theorem oTupl {ds : List TL.D} : o1 .tuple (.lst ds) = some (.tup ds) := rfl
@[simp] theorem oLstt {ds : List TL.D} : o1 .list (.tup ds) = some (.lst ds) := rfl
@[simp] theorem oLstl {ds : List TL.D} : o1 .list (.lst ds) = some (.lst ds) := rfl
@[simp] theorem oInt {b : Bool} : o1 .int (.bl b) = some (.int (if b then 1 else 0)) := rfl
@[simp] theorem oIsS {x : Str} : o1 .isStr (.str x) = some (.bl true) := rfl
@[simp] theorem oIsT {x : List TL.D} : o1 .isStr (.tup x) = some (.bl false) := rfl
@[simp] theorem oNone : o1 .isNone .non = some (.bl true) := rfl
@[simp] theorem oNonei {i : Int} : o1 .isNone (.int i) = some (.bl false) := rfl
@[simp] theorem oNonet {i : List TL.D} : o1 .isNone (.tup i) = some (.bl false) := rfl
@[simp] theorem oNNone : o1 .notNone .non = some (.bl false) := rfl
@[simp] theorem oNNonei {i : Int} : o1 .notNone (.int i) = some (.bl true) := rfl
@[simp] theorem oNNonet {i : List TL.D} : o1 .notNone (.tup i) = some (.bl true) := rfl
theorem oMod {i j : Int} (h : 0 < j) : o2 .mod (.int i) (.int j) = some (.int (i % j)) := by
  show TL.dMod (.int i) (.int j) = _
  unfold TL.dMod
  simp only [h, if_true]
theorem oDiv {i j : Int} (h : 0 < j) (k : j < 1073741824) : o2 .div (.int i) (.int j) = some (.int (i / j)) := by
  show TL.dDiv (.int i) (.int j) = _
  unfold TL.dDiv
  simp only [h, k, and_self, if_true]
theorem oMul {i j : Int} (h : (-(2 ^ 64) < i ∧ i < 2 ^ 64) ∨ (-(2 ^ 64) < j ∧ j < 2 ^ 64)) : o2 .mul (.int i) (.int j) = some (.int (i * j)) := by
  show TL.dMul (.int i) (.int j) = _
  unfold TL.dMul
  simp only [h, if_true]
theorem lcE_ex {elt : E} {tg : T} {own : List Nat} {cond : List E} {P : TL.D → Prop} {xs : List TL.D} (h : ∀ x ∈ xs, ∃ ρ' d, bindT tg x (wipeE ρ own) = some ρ' ∧ evAnd1 C cond ρ' st = .ok (.bl true) st ∧ ev C elt ρ' st = .ok d st ∧ d.own = false ∧ P d) :
    ∃ ds, lcE C elt tg own cond xs ρ st = .ok ds st ∧ ds.length = xs.length ∧ ∀ d ∈ ds, P d := lcGo_ex h
theorem lcE_map {elt : E} {tg : T} {own : List Nat} {cond : List E} {p : TL.D → Bool} {g : TL.D → TL.D} {xs : List TL.D} (h : ∀ x ∈ xs, ∃ ρ', bindT tg x (wipeE ρ own) = some ρ' ∧ evAnd1 C cond ρ' st = .ok (.bl (p x)) st ∧ (p x = true → ev C elt ρ' st = .ok (g x) st ∧ (g x).own = false)) :
    lcE C elt tg own cond xs ρ st = .ok ((xs.filter p).map g) st := lcGo_map h
theorem lcE_all {elt : E} {tg : T} {own : List Nat} {cond : List E} {g : TL.D → TL.D} {xs : List TL.D} (h : ∀ x ∈ xs, ∃ ρ', bindT tg x (wipeE ρ own) = some ρ' ∧ evAnd1 C cond ρ' st = .ok (.bl true) st ∧ ev C elt ρ' st = .ok (g x) st ∧ (g x).own = false) :
    lcE C elt tg own cond xs ρ st = .ok (xs.map g) st := lcGo_all h
theorem forE_nil {tg : T} {body : List S} : forE C tg body [] ρ st = .nx ρ st := rfl
theorem forE_cons {tg : T} {body : List S} {x : TL.D} {xs : List TL.D} {ρ1 : TL.Env} (h : bindT tg x ρ = some ρ1) : forE C tg body (x :: xs) ρ st = (execs C body ρ1 st).seq (forE C tg body xs) := by
  unfold forE
  rw [forGo, h]
/-- a turn of a for, and what is left -/
def kForS (C : Cal) (tg : T) (body : List S) (xs : List TL.D) (st : List TL.D) (ρ : TL.Env) : Fl := (execs C body ρ st).seq (forE C tg body xs)
theorem k_ForS {tg : T} {body : List S} {xs : List TL.D} : kForS C tg body xs st ρ = (execs C body ρ st).seq (forE C tg body xs) := by unfold kForS; rfl
theorem forE_c {tg : T} {body : List S} {x : TL.D} {xs : List TL.D} : forE C tg body (x :: xs) ρ st = fopt (bindT tg x ρ) (kForS C tg body xs st) := by
  cases h : bindT tg x ρ with
  | none => unfold forE; rw [forGo, h]; rfl
  | some ρ1 => rw [forE_cons h]; rfl
theorem ite_ok {p : Prop} [Decidable p] {a b : α} : (if p then R.ok a st else R.ok b st) = R.ok (if p then a else b) st := by split <;> rfl
theorem ite_bl {p : Prop} [Decidable p] {a b : Bool} : (if p then TL.D.bl a else TL.D.bl b) = TL.D.bl (if p then a else b) := by split <;> rfl
theorem ite_int {p : Prop} [Decidable p] {a b : Int} : (if p then TL.D.int a else TL.D.int b) = TL.D.int (if p then a else b) := by split <;> rfl
theorem ite_rt {p : Prop} [Decidable p] {a b : TL.D} : (if p then Fl.rt a st else Fl.rt b st) = Fl.rt (if p then a else b) st := by split <;> rfl
theorem of_ite {p : Prop} [Decidable p] {a b : R TL.D} {f : TL.D → List TL.D → Fl} : Fl.of ρ (if p then a else b) f = if p then Fl.of ρ a f else Fl.of ρ b f := by split <;> rfl
theorem bool_ite {p : Prop} [Decidable p] {a b : R TL.D} {f : Bool → List TL.D → R TL.D} : (if p then a else b).bool f = if p then a.bool f else b.bool f := by split <;> rfl
/-- a call -/
theorem run_c {P : List Fn} {n f : Nat} {F : Fn} {ds : List TL.D} {st : Sto} (h : P[f]? = some F) (k : ds.length = F.np) : TL.run P (n+1) f ds st = TL.finish (TL.execs (TL.run P n) F.body (enter F ds) st) := by
  simp only [TL.run, h, k, if_true]
theorem cut_from {α : Type} (xs : List α) (k : Nat) : cutD xs (some (k : Int)) none = xs.drop k := by
  have e : HT.sIx xs.length 0 (some (k : Int)) = min k xs.length := by
    show (if (k : Int) < 0 then ((k : Int) + (xs.length : Int)).toNat else min (k : Int).toNat xs.length) = _
    rw [if_neg (by omega), Int.toNat_natCast]
  have e2 : HT.sIx xs.length xs.length none = xs.length := rfl
  unfold cutD
  rw [e, e2]
  by_cases h : k ≤ xs.length
  · rw [Nat.min_eq_left h]
    exact List.take_of_length_le (by simp)
  · rw [Nat.min_eq_right (by omega), List.drop_of_length_le (Nat.le_refl _), List.drop_of_length_le (by omega), List.take_nil]
theorem cut_to {α : Type} (xs : List α) (k : Nat) : cutD xs none (some (k : Int)) = xs.take k := by
  have e : HT.sIx xs.length xs.length (some (k : Int)) = min k xs.length := by
    show (if (k : Int) < 0 then ((k : Int) + (xs.length : Int)).toNat else min (k : Int).toNat xs.length) = _
    rw [if_neg (by omega), Int.toNat_natCast]
  have e2 : HT.sIx xs.length 0 none = 0 := rfl
  unfold cutD
  rw [e, e2, List.drop_zero, Nat.sub_zero]
  by_cases h : k ≤ xs.length
  · rw [Nat.min_eq_left h]
  · rw [Nat.min_eq_right (by omega), List.take_of_length_le (Nat.le_refl _), List.take_of_length_le (by omega)]
@[simp] theorem cutT {ds : List TL.D} {lo hi : Option Int} : dCut (.tup ds) lo hi = some (.tup (cutD ds lo hi)) := rfl
@[simp] theorem cutL {ds : List TL.D} {lo hi : Option Int} : dCut (.lst ds) lo hi = some (.lst (cutD ds lo hi)) := rfl
@[simp] theorem opt0 : optI [] = some none := rfl
@[simp] theorem opt1 {i : Int} : optI [.int i] = some (some i) := rfl
@[simp] theorem cut_from1 {α : Type} (x : α) (xs : List α) : cutD (x :: xs) (some 1) none = xs := cut_from (x :: xs) 1
theorem oAddl {a b : List TL.D} (h : a.length + b.length ≤ 100000) : o2 .add (.lst a) (.lst b) = some (.lst (a ++ b)) := by
  show TL.dAdd (.lst a) (.lst b) = _
  unfold TL.dAdd
  simp only
  rw [if_pos (by unfold sizeLine; omega)]
theorem oAddt {a b : List TL.D} (h : a.length + b.length ≤ 100000) : o2 .add (.tup a) (.tup b) = some (.tup (a ++ b)) := by
  show TL.dAdd (.tup a) (.tup b) = _
  unfold TL.dAdd
  simp only
  rw [if_pos (by unfold sizeLine; omega)]
@[simp] theorem bnm {i : Nat} {d : TL.D} : bindT (.nm i) d ρ = if d.own then none else some (ρ.set i (some d)) := rfl
@[simp] theorem btp {is : List Nat} {ds : List TL.D} : bindT (.tp is) (.tup ds) ρ = if ds.length = is.length then some (setAll is ds ρ) else none := rfl
@[simp] theorem sa0 {ds : List TL.D} : setAll [] ds ρ = ρ := by unfold setAll; rfl
@[simp] theorem sa1 {i : Nat} {is : List Nat} {d : TL.D} {ds : List TL.D} : setAll (i :: is) (d :: ds) ρ = setAll is ds (ρ.set i (some d)) := rfl
@[simp] theorem wi0 : wipeE ρ [] = ρ := rfl
@[simp] theorem wi1 {v : Nat} {vs : List Nat} : wipeE ρ (v :: vs) = (wipeE ρ vs).set v none := rfl
end simps
end TL

namespace TP
open TL
open PySem (Str PyData)
open L2 (atI)
theorem w__law_cell_at {N : Nat} (hN : 1 ≤ N) (s : List Int) (k : Nat) (st : Sto) : TL.run Pg N 18 [.fls (s.map .int), .int k] st = .ok (.int (s.getD k 0)) st := by
  obtain ⟨M, rfl⟩ : ∃ M, N = M + 1 := ⟨N - 1, by omega⟩
  rw [run_c (F := c__law_cell_at) rfl rfl]
  simp [c__law_cell_at, enter]
  split
  · next h =>
    rw [atI_nat (x := .int (s[k]'h)) (by omega) (by simp [h])]
    simp [h]
  · next h =>
    have : s[k]? = none := List.getElem?_eq_none (by omega)
    simp [this]
/-- what _law_mixed gives -/
def mixZ (s : List Int) (k : Nat) : Int := let h := (s.getD k 0 + 7919 * k + 1) * 48271 % 2147483647; (h * h + 7 * h + k) % 2147483629
theorem mixZ_nn (s : List Int) (k : Nat) : 0 ≤ mixZ s k := Int.emod_nonneg _ (by decide)
theorem w__law_mixed {N : Nat} (hN : 2 ≤ N) (s : List Int) (k : Nat) (st : Sto) : TL.run Pg N 19 [.fls (s.map .int), .int k] st = .ok (.int (mixZ s k)) st := by
  obtain ⟨M, rfl⟩ : ∃ M, N = M + 2 := ⟨N - 2, by omega⟩
  rw [run_c (F := c__law_mixed) rfl rfl]
  have a := w__law_cell_at (N := M+1) (by omega) s k
  have m1 := oMul (i := 7919) (j := k) (.inl (by decide))
  have m2 := oMul (i := s.getD k 0 + 7919 * k + 1) (j := 48271) (.inr (by decide))
  have r := oMod (i := (s.getD k 0 + 7919 * k + 1) * 48271) (j := 2147483647) (by decide)
  have hlo := Int.emod_nonneg ((s.getD k 0 + 7919 * k + 1) * 48271) (b := 2147483647) (by decide)
  have hhi := Int.emod_lt_of_pos ((s.getD k 0 + 7919 * k + 1) * 48271) (b := 2147483647) (by decide)
  show _ = R.ok (D.int ((((s.getD k 0 + 7919 * k + 1) * 48271 % 2147483647) * ((s.getD k 0 + 7919 * k + 1) * 48271 % 2147483647) + 7 * ((s.getD k 0 + 7919 * k + 1) * 48271 % 2147483647) + k) % 2147483629)) st
  generalize hz : s.getD k 0 = z at *
  generalize hh : (z + 7919 * (k : Int) + 1) * 48271 % 2147483647 = h at *
  have m3 := oMul (i := h) (j := h) (.inl (by omega))
  have m4 := oMul (i := 7) (j := h) (.inl (by decide))
  have r2 := oMod (i := h * h + 7 * h + k) (j := 2147483629) (by decide)
  simp [c__law_mixed, enter, a, m1, m2, m3, m4, r, r2]
def drawZ (z k : Int) : Int := let h := (z + 104729 * k + 17) * 69621 % 2147483647; (h * h + 3 * h + k) % 2147483629
theorem drawZ_nn (z k : Int) : 0 ≤ drawZ z k := Int.emod_nonneg _ (by decide)
theorem w__law_drawn {N : Nat} (hN : 1 ≤ N) (z k : Int) (st : Sto) : TL.run Pg N 20 [.int z, .int k] st = .ok (.int (drawZ z k)) st := by
  obtain ⟨M, rfl⟩ : ∃ M, N = M + 1 := ⟨N - 1, by omega⟩
  rw [run_c (F := c__law_drawn) rfl rfl]
  have m1 := oMul (i := 104729) (j := k) (.inl (by decide))
  have m2 := oMul (i := z + 104729 * k + 17) (j := 69621) (.inr (by decide))
  have r := oMod (i := (z + 104729 * k + 17) * 69621) (j := 2147483647) (by decide)
  have hlo := Int.emod_nonneg ((z + 104729 * k + 17) * 69621) (b := 2147483647) (by decide)
  have hhi := Int.emod_lt_of_pos ((z + 104729 * k + 17) * 69621) (b := 2147483647) (by decide)
  show _ = R.ok (D.int ((((z + 104729 * k + 17) * 69621 % 2147483647) * ((z + 104729 * k + 17) * 69621 % 2147483647) + 3 * ((z + 104729 * k + 17) * 69621 % 2147483647) + k) % 2147483629)) st
  generalize hh : (z + 104729 * k + 17) * 69621 % 2147483647 = h at *
  have m3 := oMul (i := h) (j := h) (.inl (by omega))
  have m4 := oMul (i := 3) (j := h) (.inl (by decide))
  have r2 := oMod (i := h * h + 3 * h + k) (j := 2147483629) (by decide)
  simp [c__law_drawn, enter, m1, m2, m3, m4, r, r2]
/-- a deed's name, as drawn -/
def nmOk (a : Str) : Prop := PyData.strOk a = true ∧ a ≠ "zz"
theorem letter3 (i : Int) : ∃ a, nmOk a ∧ o2 .ix (.str "abc") (.int (i % 3)) = some (.str a) := by
  have h1 := Int.emod_nonneg i (b := 3) (by decide)
  have h2 := Int.emod_lt_of_pos i (b := 3) (by decide)
  generalize i % 3 = j at *
  have : j = 0 ∨ j = 1 ∨ j = 2 := by omega
  rcases this with rfl | rfl | rfl
  · exact ⟨⟨#[97]⟩, ⟨by decide +kernel, by decide +kernel⟩, rfl⟩
  · exact ⟨⟨#[98]⟩, ⟨by decide +kernel, by decide +kernel⟩, rfl⟩
  · exact ⟨⟨#[99]⟩, ⟨by decide +kernel, by decide +kernel⟩, rfl⟩
theorem letter7 (i : Int) : ∃ a, PyData.strOk a = true ∧ o2 .ix (.str "abcabcd") (.int (i % 7)) = some (.str a) := by
  have h1 := Int.emod_nonneg i (b := 7) (by decide)
  have h2 := Int.emod_lt_of_pos i (b := 7) (by decide)
  generalize i % 7 = j at *
  have : j = 0 ∨ j = 1 ∨ j = 2 ∨ j = 3 ∨ j = 4 ∨ j = 5 ∨ j = 6 := by omega
  rcases this with rfl | rfl | rfl | rfl | rfl | rfl | rfl
  · exact ⟨⟨#[97]⟩, by decide +kernel, rfl⟩
  · exact ⟨⟨#[98]⟩, by decide +kernel, rfl⟩
  · exact ⟨⟨#[99]⟩, by decide +kernel, rfl⟩
  · exact ⟨⟨#[97]⟩, by decide +kernel, rfl⟩
  · exact ⟨⟨#[98]⟩, by decide +kernel, rfl⟩
  · exact ⟨⟨#[99]⟩, by decide +kernel, rfl⟩
  · exact ⟨⟨#[100]⟩, by decide +kernel, rfl⟩
theorem w__law_deeds {N : Nat} (hN : 2 ≤ N) (z : Int) (m : Nat) (hm : m ≤ 1000) (st : Sto) : ∃ as : List Str, (∀ a ∈ as, PyData.strOk a = true) ∧ as.length ≤ m ∧ TL.run Pg N 22 [.int z, .int m] st = .ok (.tup (as.map .str)) st := by
  obtain ⟨M, rfl⟩ : ∃ M, N = M + 2 := ⟨N - 2, by omega⟩
  rw [run_c (F := c__law_deeds) rfl rfl]
  have r := oMod (i := z) (j := (m : Int) + 1) (by omega)
  have h1 := Int.emod_nonneg z (b := (m : Int) + 1) (by omega)
  have h2 := Int.emod_lt_of_pos z (b := (m : Int) + 1) (by omega)
  generalize hk : z % ((m : Int) + 1) = k at *
  have it := itRng (k := k) h1 (by omega)
  obtain ⟨ds, e, hl, hp⟩ := lcE_ex (P := fun d => ∃ a, PyData.strOk a = true ∧ d = TL.D.str a) (C := TL.run Pg (M+1)) (st := st) (ρ := [some (.int z), some (.int m), none]) (tg := .nm 2) (own := [2]) (cond := [])
    (elt := .o2 .ix (.con (.str "abcabcd")) (.o2 .mod (.o2 .div (.call 20 [.var 0, .o2 .add (.con (.int 20)) (.var 2)]) (.con (.int 4))) (.con (.int 7))))
    (xs := (List.range k.toNat).map fun (i : Nat) => .int (i : Int)) (fun x hx => by
      obtain ⟨i, _, rfl⟩ := List.mem_map.mp hx
      obtain ⟨a, ha, ea⟩ := letter7 (drawZ z (20 + i) / 4)
      have w := w__law_drawn (N := M+1) (by omega) z (20 + i) st
      have d := oDiv (i := drawZ z (20 + i)) (j := 4) (by decide) (by decide)
      have r := oMod (i := drawZ z (20 + i) / 4) (j := 7) (by decide)
      exact ⟨_, .str a, by simp [bindT, wipeE]; rfl, by simp, by simp [w, d, r, ea], rfl, a, ha, rfl⟩)
  have : ∃ as : List Str, (∀ a ∈ as, PyData.strOk a = true) ∧ ds = as.map .str := by
    clear e hl
    induction ds with
    | nil => exact ⟨[], fun _ h => (nomatch h), rfl⟩
    | cons d ds ih =>
      obtain ⟨as, h1, rfl⟩ := ih fun d hd => hp d (List.mem_cons_of_mem _ hd)
      obtain ⟨a, ha, rfl⟩ := hp d (List.mem_cons_self ..)
      exact ⟨a :: as, fun x hx => by rcases List.mem_cons.mp hx with rfl | hx; exact ha; exact h1 x hx, rfl⟩
  obtain ⟨as, ha, rfl⟩ := this
  refine ⟨as, ha, ?_, ?_⟩
  · simp at hl
    omega
  · simp [c__law_deeds, enter, r, hk, it, e]

end TP

namespace TP
open TL
open PySem (Str PyData)
open L2 (atI)
/-- a task of depth at most n -/
def Good : Nat → TL.D → Prop
  | 0, _ => False
  | n + 1, d => (∃ a k, nmOk a ∧ 1 ≤ k ∧ d = .tup [.str "do", .str a, .int k]) ∨
      (∃ (w : String) (ts : List TL.D), (w = "all" ∨ w = "any" ∨ w = "then") ∧ ts ≠ [] ∧ ts.length ≤ 1000 ∧ (w = "then" → 2 ≤ ts.length) ∧ (∀ t ∈ ts, Good n t) ∧ d = .tup [.str w, .tup ts]) ∨
      (∃ a t, nmOk a ∧ Good n t ∧ d = .tup [.str "without", .str a, t]) ∨
      (∃ k t, (1 : Int) ≤ k ∧ Good n t ∧ d = .tup [.str "within", .int k, t])
theorem Good.succ : ∀ {n : Nat} {d : TL.D}, Good n d → Good (n + 1) d
  | 0, _, h => h.elim
  | n + 1, d, h => by
    rcases h with h | ⟨w, ts, a, b, b2, c, e, f⟩ | ⟨a, t, b, c, e⟩ | ⟨k, t, b, c, e⟩
    · exact .inl h
    · exact .inr (.inl ⟨w, ts, a, b, b2, c, fun t ht => (e t ht).succ, f⟩)
    · exact .inr (.inr (.inl ⟨a, t, b, c.succ, e⟩))
    · exact .inr (.inr (.inr ⟨k, t, b, c.succ, e⟩))
theorem Good.mono {n m : Nat} {d : TL.D} (h : Good n d) (k : n ≤ m) : Good m d := by
  induction k with
  | refl => exact h
  | step _ ih => exact ih.succ
theorem Good.ok : ∀ {n : Nat} {d : TL.D}, Good n d → okD (2 * n) d
  | 0, _, h => h.elim
  | n + 1, d, h => by
    rcases h with ⟨a, k, b, _, rfl⟩ | ⟨w, ts, a, b, b2, c, e, rfl⟩ | ⟨a, t, b, c, rfl⟩ | ⟨k, t, b, c, rfl⟩
    · refine okD_tup (n := 2 * n + 1) fun x hx => ?_
      simp at hx
      rcases hx with rfl | rfl | rfl
      · exact okD_str _ (strOk_of _)
      · exact okD_str _ b.1
      · exact okD_int _ _
    · refine okD_tup (n := 2 * n + 1) fun x hx => ?_
      simp at hx
      rcases hx with rfl | rfl
      · exact okD_str _ (strOk_of _)
      · exact okD_tup fun t ht => (e t ht).ok
    · refine okD_tup (n := 2 * n + 1) fun x hx => ?_
      simp at hx
      rcases hx with rfl | rfl | rfl
      · exact okD_str _ (strOk_of _)
      · exact okD_str _ b.1
      · exact c.ok.mono (by omega)
    · refine okD_tup (n := 2 * n + 1) fun x hx => ?_
      simp at hx
      rcases hx with rfl | rfl | rfl
      · exact okD_str _ (strOk_of _)
      · exact okD_int _ _
      · exact c.ok.mono (by omega)
theorem Good.isT {n : Nat} {d : TL.D} (h : Good n d) : ∃ ds, d = .tup ds := by
  cases n with
  | zero => exact h.elim
  | succ n => rcases h with ⟨a, k, b, _, rfl⟩ | ⟨w, ts, a, b, b2, c, e, rfl⟩ | ⟨a, t, b, c, rfl⟩ | ⟨k, t, b, c, rfl⟩ <;> exact ⟨_, rfl⟩
theorem w__law_task : ∀ (n N : Nat) (z : Int) (m : Nat) (st : Sto), 1 ≤ m → m ≤ 1000 → n + 2 ≤ N → ∃ d, Good (n + 1) d ∧ TL.run Pg N 21 [.int z, .int ((n : Int) + 1), .int m] st = .ok d st := by
  intro n
  induction n with
  | zero =>
    intro N z m st h1 h2 hN
    obtain ⟨N, rfl⟩ : ∃ M, N = M + 1 := ⟨N - 1, by omega⟩
    obtain ⟨a, ha, ea⟩ := letter3 (z / 8)
    have d8 := oDiv (i := z) (j := 8) (by decide) (by decide)
    have r3 := oMod (i := z / 8) (j := 3) (by decide)
    have r8 := oMod (i := z) (j := 8) (by decide)
    have d64 := oDiv (i := z) (j := 64) (by decide) (by decide)
    have rm := oMod (i := z / 64) (j := m) (by omega)
    have hm := Int.emod_nonneg (z / 64) (b := (m : Int)) (by omega)
    refine ⟨.tup [.str "do", .str a, .int (1 + z / 64 % m)], .inl ⟨a, _, ha, by omega, rfl⟩, ?_⟩
    rw [run_c (F := c__law_task) rfl rfl]
    simp [c__law_task, enter, d8, r3, r8, ea, d64, rm]
  | succ n ih =>
    intro N z m st h1 h2 hN
    obtain ⟨N, rfl⟩ : ∃ M, N = M + 1 := ⟨N - 1, by omega⟩
    obtain ⟨a, ha, ea⟩ := letter3 (z / 8)
    have d8 := oDiv (i := z) (j := 8) (by decide) (by decide)
    have r3 := oMod (i := z / 8) (j := 3) (by decide)
    have r8 := oMod (i := z) (j := 8) (by decide)
    have d64 := oDiv (i := z) (j := 64) (by decide) (by decide)
    have rm := oMod (i := z / 64) (j := m) (by omega)
    have hm := Int.emod_nonneg (z / 64) (b := (m : Int)) (by omega)
    have k0 := Int.emod_nonneg z (b := 8) (by decide)
    have k8 := Int.emod_lt_of_pos z (b := 8) (by decide)
    have sn : (((n + 1 : Nat) : Int) + 1 - 1) = (n : Int) + 1 := by omega
    have ne : ¬ (((n + 1 : Nat) : Int) + 1 = 1) := by omega
    rw [run_c (F := c__law_task) rfl rfl]
    generalize ((n + 1 : Nat) : Int) + 1 = nn at *
    generalize hk : z % 8 = k at *
    by_cases lt2 : k < 2
    · refine ⟨.tup [.str "do", .str a, .int (1 + z / 64 % m)], .inl ⟨a, _, ha, by omega, rfl⟩, ?_⟩
      simp [c__law_task, enter, d8, r3, r8, ea, d64, rm, ne, lt2]
    by_cases e6 : k = 6
    · subst e6
      have w := w__law_drawn (N := N) (by omega) z 1 st
      obtain ⟨t, gt, wt⟩ := ih N (drawZ z 1 / 4) m st h1 h2 (by omega)
      have gt0 := gt.ok.own
      have d4 := oDiv (i := drawZ z 1) (j := 4) (by decide) (by decide)
      refine ⟨.tup [.str "without", .str a, t], .inr (.inr (.inl ⟨a, t, ha, gt, rfl⟩)), ?_⟩
      simp [c__law_task, enter, d8, r3, r8, ea, d64, rm, ne, sn, w, d4, wt, gt0]
    by_cases e7 : k = 7
    · subst e7
      have w := w__law_drawn (N := N) (by omega) z 2 st
      obtain ⟨t, gt, wt⟩ := ih N (drawZ z 2 / 4) m st h1 h2 (by omega)
      have gt0 := gt.ok.own
      have d4 := oDiv (i := drawZ z 2) (j := 4) (by decide) (by decide)
      have d10 := oDiv (i := z) (j := 1024) (by decide) (by decide)
      have r2 := oMod (i := z / 1024) (j := 2) (by decide)
      have q0 := Int.emod_nonneg (z / 1024) (b := 2) (by decide)
      have q1 := Int.emod_lt_of_pos (z / 1024) (b := 2) (by decide)
      obtain ⟨y, hy, ey⟩ : ∃ y : Int, 1 ≤ y ∧ o2 .ix (.tup [.int 9, .int 4]) (.int (z / 1024 % 2)) = some (.int y) := by
        generalize z / 1024 % 2 = j at *
        have : j = 0 ∨ j = 1 := by omega
        rcases this with rfl | rfl
        · exact ⟨9, by decide, by simp⟩
        · exact ⟨4, by decide, by simp⟩
      rw [oIx] at ey
      have ry := oMod (i := z / 64) (j := y) (by omega)
      have hy0 := Int.emod_nonneg (z / 64) (b := y) (by omega)
      refine ⟨.tup [.str "within", .int (1 + z / 64 % y), t], .inr (.inr (.inr ⟨_, t, by omega, gt, rfl⟩)), ?_⟩
      simp [c__law_task, enter, d8, r3, r8, ea, d64, rm, ne, sn, w, d4, wt, gt0, d10, r2, ey, ry]
    have r3' := oMod (i := z / 64) (j := 3) (by decide)
    have p0 := Int.emod_nonneg (z / 64) (b := 3) (by decide)
    have p1 := Int.emod_lt_of_pos (z / 64) (b := 3) (by decide)
    obtain ⟨wd, hw, ew⟩ : ∃ w : String, (w = "all" ∨ w = "any" ∨ w = "then") ∧ atI [TL.D.str "all", .str "any", .str "then", .str "all"] (k - 2) = some (.str w) := by
      have : k = 2 ∨ k = 3 ∨ k = 4 ∨ k = 5 := by omega
      rcases this with rfl | rfl | rfl | rfl
      · exact ⟨"all", .inl rfl, rfl⟩
      · exact ⟨"any", .inr (.inl rfl), rfl⟩
      · exact ⟨"then", .inr (.inr rfl), rfl⟩
      · exact ⟨"all", .inl rfl, rfl⟩
    generalize hq : 1 + z / 64 % 3 = q at *
    have lc : ∀ (q : Int), 0 ≤ q → q ≤ 100 → ∃ ds, lcE (TL.run Pg N) (.call 21 [.o2 .div (.call 20 [.var 0, .o2 .add (.con (.int 3)) (.var 7)]) (.con (.int 4)), .o2 .sub (.var 1) (.con (.int 1)), .var 2]) (.nm 7) [7] [] ((List.range q.toNat).map fun (i : Nat) => .int (i : Int)) [some (.int z), some (.int nn), some (.int m), some (.str a), some (.int k), some (.int q), some (.str wd), none] st = .ok ds st ∧ ds.length = q.toNat ∧ ∀ d ∈ ds, Good (n + 1) d := by
      intro q h0 h100
      have z := lcE_ex (C := TL.run Pg N) (P := Good (n + 1)) (st := st) (ρ := [some (.int z), some (.int nn), some (.int m), some (.str a), some (.int k), some (.int q), some (.str wd), none]) (tg := .nm 7) (own := [7]) (cond := [])
        (elt := .call 21 [.o2 .div (.call 20 [.var 0, .o2 .add (.con (.int 3)) (.var 7)]) (.con (.int 4)), .o2 .sub (.var 1) (.con (.int 1)), .var 2])
        (xs := (List.range q.toNat).map fun (i : Nat) => .int (i : Int)) (fun x hx => by
          obtain ⟨i, _, rfl⟩ := List.mem_map.mp hx
          obtain ⟨t, gt, wt⟩ := ih N (drawZ z (3 + i) / 4) m st h1 h2 (by omega)
          have w := w__law_drawn (N := N) (by omega) z (3 + i) st
          have d4 := oDiv (i := drawZ z (3 + i)) (j := 4) (by decide) (by decide)
          exact ⟨_, t, by simp [bindT, wipeE]; rfl, by simp, by simp [w, d4, sn, wt], gt.ok.own, gt⟩)
      rw [List.length_map, List.length_range] at z
      exact z
    by_cases ht : wd = "then"
    · subst ht
      obtain ⟨ds, e, hl, hg⟩ := lc (max 2 q) (by omega) (by omega)
      have rg := itRng (k := max 2 q) (by omega) (by omega)
      have mx : o2 .max (.int 2) (.int q) = some (.int (max 2 q)) := by
        show some (TL.D.int _) = _
        congr 2
        split <;> omega
      refine ⟨.tup [.str "then", .tup ds], .inr (.inl ⟨"then", ds, hw, by rintro rfl; simp at hl; omega, by omega, fun _ => by omega, hg, rfl⟩), ?_⟩
      simp [c__law_task, enter, d8, r3, r8, ea, d64, rm, ne, sn, lt2, e6, e7, r3', hq, ew, mx, dEqs, rg, e]
    · obtain ⟨ds, e, hl, hg⟩ := lc q (by omega) (by omega)
      have rg := itRng (k := q) (by omega) (by omega)
      refine ⟨.tup [.str wd, .tup ds], .inr (.inl ⟨wd, ds, hw, by rintro rfl; simp at hl; omega, by omega, fun h => (ht h).elim, hg, rfl⟩), ?_⟩
      simp [c__law_task, enter, d8, r3, r8, ea, d64, rm, ne, sn, lt2, e6, e7, r3', hq, ew, ht, dEqs, rg, e, str_inj]

end TP

namespace TP
open TL
open PySem (Str PyData)
open L2 (atI)
/-- the names of deeds -/
def Nm (a : String) : Prop := a = "a" ∨ a = "b" ∨ a = "c" ∨ a = "d"
/-- drawn: at most n deep, each do at most m times -/
def DrP (P : String → Prop) (m : Nat) : Nat → TL.D → Prop
  | 0, _ => False
  | n + 1, d => (∃ (a : String) (k : Int), P a ∧ 1 ≤ k ∧ k ≤ m ∧ d = .tup [.str "do", .str a, .int k]) ∨
      (∃ (w : String) (ts : List TL.D), (w = "all" ∨ w = "any" ∨ w = "then") ∧ 1 ≤ ts.length ∧ ts.length ≤ 3 ∧ (w = "then" → 2 ≤ ts.length) ∧ (∀ t ∈ ts, DrP P m n t) ∧ d = .tup [.str w, .tup ts]) ∨
      (∃ (a : String) (t : TL.D), P a ∧ DrP P m n t ∧ d = .tup [.str "without", .str a, t]) ∨
      (∃ (k : Int) (t : TL.D), 1 ≤ k ∧ k ≤ 9 ∧ DrP P m n t ∧ d = .tup [.str "within", .int k, t])
abbrev Dr := DrP Nm
/-- the names of deeds that are drawn -/
def Nm3 (a : String) : Prop := a = "a" ∨ a = "b" ∨ a = "c"
theorem Nm3.nm {a : String} (h : Nm3 a) : Nm a := by
  rcases h with h | h | h
  · exact .inl h
  · exact .inr (.inl h)
  · exact .inr (.inr (.inl h))
theorem DrP.imp {P Q : String → Prop} (hpq : ∀ a, P a → Q a) {m : Nat} : ∀ {n : Nat} {d : TL.D}, DrP P m n d → DrP Q m n d
  | 0, _, h => h.elim
  | n + 1, d, h => by
    rcases h with ⟨a, k, ha, hk, hm, rfl⟩ | ⟨w, ts, hw, h1, h3, h2, hg, rfl⟩ | ⟨a, t, ha, hg, rfl⟩ | ⟨k, t, hk, h9, hg, rfl⟩
    · exact .inl ⟨a, k, hpq a ha, hk, hm, rfl⟩
    · exact .inr (.inl ⟨w, ts, hw, h1, h3, h2, fun t ht => (hg t ht).imp hpq, rfl⟩)
    · exact .inr (.inr (.inl ⟨a, t, hpq a ha, hg.imp hpq, rfl⟩))
    · exact .inr (.inr (.inr ⟨k, t, hk, h9, hg.imp hpq, rfl⟩))
theorem abc_ok {a : String} (h : Nm a) : nmOk a := by
  rcases h with rfl | rfl | rfl | rfl <;> exact ⟨strOk_of _, by decide +kernel⟩
theorem DrP.good {m : Nat} : ∀ {n : Nat} {d : TL.D}, DrP Nm m n d → Good n d
  | 0, _, h => h.elim
  | n + 1, d, h => by
    rcases h with ⟨a, k, ha, hk, _, rfl⟩ | ⟨w, ts, hw, h1, h3, h2, hg, rfl⟩ | ⟨a, t, ha, hg, rfl⟩ | ⟨k, t, hk, _, hg, rfl⟩
    · exact .inl ⟨_, k, abc_ok ha, hk, rfl⟩
    · exact .inr (.inl ⟨w, ts, hw, by rintro rfl; simp at h1, by omega, h2, fun t ht => (hg t ht).good, rfl⟩)
    · exact .inr (.inr (.inl ⟨_, t, abc_ok ha, hg.good, rfl⟩))
    · exact .inr (.inr (.inr ⟨k, t, hk, hg.good, rfl⟩))
theorem DrP.succ {P : String → Prop} {m : Nat} : ∀ {n : Nat} {d : TL.D}, DrP P m n d → DrP P m (n + 1) d
  | 0, _, h => h.elim
  | n + 1, d, h => by
    rcases h with h | ⟨w, ts, hw, h1, h3, h2, hg, rfl⟩ | ⟨a, t, ha, hg, rfl⟩ | ⟨k, t, hk, h9, hg, rfl⟩
    · exact .inl h
    · exact .inr (.inl ⟨w, ts, hw, h1, h3, h2, fun t ht => (hg t ht).succ, rfl⟩)
    · exact .inr (.inr (.inl ⟨a, t, ha, hg.succ, rfl⟩))
    · exact .inr (.inr (.inr ⟨k, t, hk, h9, hg.succ, rfl⟩))
theorem DrP.mono {P : String → Prop} {m n k : Nat} {d : TL.D} (h : DrP P m n d) (l : n ≤ k) : DrP P m k d := by
  induction l with
  | refl => exact h
  | step _ ih => exact ih.succ
theorem letter3' (i : Int) : ∃ a : String, Nm3 a ∧ o2 .ix (.str "abc") (.int (i % 3)) = some (.str a) := by
  have h1 := Int.emod_nonneg i (b := 3) (by decide)
  have h2 := Int.emod_lt_of_pos i (b := 3) (by decide)
  generalize i % 3 = j at *
  have : j = 0 ∨ j = 1 ∨ j = 2 := by omega
  rcases this with rfl | rfl | rfl
  · exact ⟨"a", .inl rfl, rfl⟩
  · exact ⟨"b", .inr (.inl rfl), rfl⟩
  · exact ⟨"c", .inr (.inr rfl), rfl⟩
theorem w__law_task3 : ∀ (n N : Nat) (z : Int) (m : Nat) (st : Sto), 1 ≤ m → m ≤ 1000 → n + 2 ≤ N → ∃ d, DrP Nm3 m (n + 1) d ∧ TL.run Pg N 21 [.int z, .int ((n : Int) + 1), .int m] st = .ok d st := by
  intro n
  induction n with
  | zero =>
    intro N z m st h1 h2 hN
    obtain ⟨N, rfl⟩ : ∃ M, N = M + 1 := ⟨N - 1, by omega⟩
    obtain ⟨a, ha, ea⟩ := letter3' (z / 8)
    have d8 := oDiv (i := z) (j := 8) (by decide) (by decide)
    have r3 := oMod (i := z / 8) (j := 3) (by decide)
    have r8 := oMod (i := z) (j := 8) (by decide)
    have d64 := oDiv (i := z) (j := 64) (by decide) (by decide)
    have rm := oMod (i := z / 64) (j := m) (by omega)
    have hm := Int.emod_nonneg (z / 64) (b := (m : Int)) (by omega)
    have hm' := Int.emod_lt_of_pos (z / 64) (b := (m : Int)) (by omega)
    refine ⟨.tup [.str "do", .str a, .int (1 + z / 64 % m)], .inl ⟨a, _, ha, by omega, by omega, rfl⟩, ?_⟩
    rw [run_c (F := c__law_task) rfl rfl]
    simp [c__law_task, enter, d8, r3, r8, ea, d64, rm]
  | succ n ih =>
    intro N z m st h1 h2 hN
    obtain ⟨N, rfl⟩ : ∃ M, N = M + 1 := ⟨N - 1, by omega⟩
    obtain ⟨a, ha, ea⟩ := letter3' (z / 8)
    have d8 := oDiv (i := z) (j := 8) (by decide) (by decide)
    have r3 := oMod (i := z / 8) (j := 3) (by decide)
    have r8 := oMod (i := z) (j := 8) (by decide)
    have d64 := oDiv (i := z) (j := 64) (by decide) (by decide)
    have rm := oMod (i := z / 64) (j := m) (by omega)
    have hm := Int.emod_nonneg (z / 64) (b := (m : Int)) (by omega)
    have hm' := Int.emod_lt_of_pos (z / 64) (b := (m : Int)) (by omega)
    have k0 := Int.emod_nonneg z (b := 8) (by decide)
    have k8 := Int.emod_lt_of_pos z (b := 8) (by decide)
    have sn : (((n + 1 : Nat) : Int) + 1 - 1) = (n : Int) + 1 := by omega
    have ne : ¬ (((n + 1 : Nat) : Int) + 1 = 1) := by omega
    rw [run_c (F := c__law_task) rfl rfl]
    generalize ((n + 1 : Nat) : Int) + 1 = nn at *
    generalize hk : z % 8 = k at *
    by_cases lt2 : k < 2
    · refine ⟨.tup [.str "do", .str a, .int (1 + z / 64 % m)], .inl ⟨a, _, ha, by omega, by omega, rfl⟩, ?_⟩
      simp [c__law_task, enter, d8, r3, r8, ea, d64, rm, ne, lt2]
    by_cases e6 : k = 6
    · subst e6
      have w := w__law_drawn (N := N) (by omega) z 1 st
      obtain ⟨t, gt, wt⟩ := ih N (drawZ z 1 / 4) m st h1 h2 (by omega)
      have gt0 := (gt.imp fun _ => Nm3.nm).good.ok.own
      have d4 := oDiv (i := drawZ z 1) (j := 4) (by decide) (by decide)
      refine ⟨.tup [.str "without", .str a, t], .inr (.inr (.inl ⟨a, t, ha, gt, rfl⟩)), ?_⟩
      simp [c__law_task, enter, d8, r3, r8, ea, d64, rm, ne, sn, w, d4, wt, gt0]
    by_cases e7 : k = 7
    · subst e7
      have w := w__law_drawn (N := N) (by omega) z 2 st
      obtain ⟨t, gt, wt⟩ := ih N (drawZ z 2 / 4) m st h1 h2 (by omega)
      have gt0 := (gt.imp fun _ => Nm3.nm).good.ok.own
      have d4 := oDiv (i := drawZ z 2) (j := 4) (by decide) (by decide)
      have d10 := oDiv (i := z) (j := 1024) (by decide) (by decide)
      have r2 := oMod (i := z / 1024) (j := 2) (by decide)
      have q0 := Int.emod_nonneg (z / 1024) (b := 2) (by decide)
      have q1 := Int.emod_lt_of_pos (z / 1024) (b := 2) (by decide)
      obtain ⟨y, hy, hy9, ey⟩ : ∃ y : Int, 1 ≤ y ∧ y ≤ 9 ∧ o2 .ix (.tup [.int 9, .int 4]) (.int (z / 1024 % 2)) = some (.int y) := by
        generalize z / 1024 % 2 = j at *
        have : j = 0 ∨ j = 1 := by omega
        rcases this with rfl | rfl
        · exact ⟨9, by decide, by decide, by simp⟩
        · exact ⟨4, by decide, by decide, by simp⟩
      rw [oIx] at ey
      have ry := oMod (i := z / 64) (j := y) (by omega)
      have hy0 := Int.emod_nonneg (z / 64) (b := y) (by omega)
      have hy1 := Int.emod_lt_of_pos (z / 64) (b := y) (by omega)
      refine ⟨.tup [.str "within", .int (1 + z / 64 % y), t], .inr (.inr (.inr ⟨_, t, by omega, by omega, gt, rfl⟩)), ?_⟩
      simp [c__law_task, enter, d8, r3, r8, ea, d64, rm, ne, sn, w, d4, wt, gt0, d10, r2, ey, ry]
    have r3' := oMod (i := z / 64) (j := 3) (by decide)
    have p0 := Int.emod_nonneg (z / 64) (b := 3) (by decide)
    have p1 := Int.emod_lt_of_pos (z / 64) (b := 3) (by decide)
    obtain ⟨wd, hw, ew⟩ : ∃ w : String, (w = "all" ∨ w = "any" ∨ w = "then") ∧ atI [TL.D.str "all", .str "any", .str "then", .str "all"] (k - 2) = some (.str w) := by
      have : k = 2 ∨ k = 3 ∨ k = 4 ∨ k = 5 := by omega
      rcases this with rfl | rfl | rfl | rfl
      · exact ⟨"all", .inl rfl, rfl⟩
      · exact ⟨"any", .inr (.inl rfl), rfl⟩
      · exact ⟨"then", .inr (.inr rfl), rfl⟩
      · exact ⟨"all", .inl rfl, rfl⟩
    generalize hq : 1 + z / 64 % 3 = q at *
    have lc : ∀ (q : Int), 0 ≤ q → q ≤ 100 → ∃ ds, lcE (TL.run Pg N) (.call 21 [.o2 .div (.call 20 [.var 0, .o2 .add (.con (.int 3)) (.var 7)]) (.con (.int 4)), .o2 .sub (.var 1) (.con (.int 1)), .var 2]) (.nm 7) [7] [] ((List.range q.toNat).map fun (i : Nat) => .int (i : Int)) [some (.int z), some (.int nn), some (.int m), some (.str a), some (.int k), some (.int q), some (.str wd), none] st = .ok ds st ∧ ds.length = q.toNat ∧ ∀ d ∈ ds, DrP Nm3 m (n + 1) d := by
      intro q h0 h100
      have z := lcE_ex (C := TL.run Pg N) (P := DrP Nm3 m (n + 1)) (st := st) (ρ := [some (.int z), some (.int nn), some (.int m), some (.str a), some (.int k), some (.int q), some (.str wd), none]) (tg := .nm 7) (own := [7]) (cond := [])
        (elt := .call 21 [.o2 .div (.call 20 [.var 0, .o2 .add (.con (.int 3)) (.var 7)]) (.con (.int 4)), .o2 .sub (.var 1) (.con (.int 1)), .var 2])
        (xs := (List.range q.toNat).map fun (i : Nat) => .int (i : Int)) (fun x hx => by
          obtain ⟨i, _, rfl⟩ := List.mem_map.mp hx
          obtain ⟨t, gt, wt⟩ := ih N (drawZ z (3 + i) / 4) m st h1 h2 (by omega)
          have w := w__law_drawn (N := N) (by omega) z (3 + i) st
          have d4 := oDiv (i := drawZ z (3 + i)) (j := 4) (by decide) (by decide)
          exact ⟨_, t, by simp [bindT, wipeE]; rfl, by simp, by simp [w, d4, sn, wt], (gt.imp fun _ => Nm3.nm).good.ok.own, gt⟩)
      rw [List.length_map, List.length_range] at z
      exact z
    by_cases ht : wd = "then"
    · subst ht
      obtain ⟨ds, e, hl, hg⟩ := lc (max 2 q) (by omega) (by omega)
      have rg := itRng (k := max 2 q) (by omega) (by omega)
      have mx : o2 .max (.int 2) (.int q) = some (.int (max 2 q)) := by
        show some (TL.D.int _) = _
        congr 2
        split <;> omega
      refine ⟨.tup [.str "then", .tup ds], .inr (.inl ⟨"then", ds, hw, by omega, by omega, fun _ => by omega, hg, rfl⟩), ?_⟩
      simp [c__law_task, enter, d8, r3, r8, ea, d64, rm, ne, sn, lt2, e6, e7, r3', hq, ew, mx, dEqs, rg, e]
    · obtain ⟨ds, e, hl, hg⟩ := lc q (by omega) (by omega)
      have rg := itRng (k := q) (by omega) (by omega)
      refine ⟨.tup [.str wd, .tup ds], .inr (.inl ⟨wd, ds, hw, by omega, by omega, fun h => (ht h).elim, hg, rfl⟩), ?_⟩
      simp [c__law_task, enter, d8, r3, r8, ea, d64, rm, ne, sn, lt2, e6, e7, r3', hq, ew, ht, dEqs, rg, e, str_inj]
theorem w__law_task' (n N : Nat) (z : Int) (m : Nat) (st : Sto) (h1 : 1 ≤ m) (h2 : m ≤ 1000) (hN : n + 2 ≤ N) : ∃ d, Dr m (n + 1) d ∧ TL.run Pg N 21 [.int z, .int ((n : Int) + 1), .int m] st = .ok d st := by
  obtain ⟨d, h, e⟩ := w__law_task3 n N z m st h1 h2 hN
  exact ⟨d, h.imp fun _ => Nm3.nm, e⟩

end TP

namespace TP
open TL
open PySem (Str PyData)
open L2 (atI)
def grp (w : Str) (ds : List TL.D) : TL.D := match ds with
  | [d] => d
  | ds => .tup [.str w, .tup ds]
def beh : Nat → TL.D → Str → TL.D
  | 0, _, _ => .non
  | n + 1, .tup [.str w, .tup ts], a =>
    if w = "then" then match ts with
      | [] => .non
      | t :: r => if (beh n t a).eqv (.str "failed") then .str "failed" else if (beh n t a).eqv (.str "done") then grp w r else grp w (beh n t a :: r)
    else
      let ss := ts.map fun t => beh n t a
      let gone : TL.D := if w = "any" then .str "failed" else .str "done"
      let whole : TL.D := if w = "any" then .str "done" else .str "failed"
      if ss.any fun s => s.eqv whole then whole
      else if (ss.filter fun s => !s.eqv gone) = [] then gone
      else grp w (ss.filter fun s => !s.eqv gone)
  | n + 1, .tup [.str w, .str b, .int k], a => if a = b then (if k = 1 then .str "done" else .tup [.str w, .str b, .int (k - 1)]) else .tup [.str w, .str b, .int k]
  | n + 1, .tup [.str w, .str b, t], a => if a = b then .str "failed" else if (beh n t a).isS then beh n t a else .tup [.str w, .str b, beh n t a]
  | n + 1, .tup [.str w, .int k, t], a => if (beh n t a).isS then beh n t a else if k = 1 then .str "failed" else .tup [.str w, .int (k - 1), beh n t a]
  | _, _, _ => .non
/-- done, failed, or a task -/
def Res (n : Nat) (d : TL.D) : Prop := d = .str "done" ∨ d = .str "failed" ∨ Good n d
theorem Res.mono {n m : Nat} {d : TL.D} (h : Res n d) (k : n ≤ m) : Res m d := h.imp id (.imp id fun g => g.mono k)
theorem Res.ok {n : Nat} {d : TL.D} (h : Res n d) : okD (2 * n) d := by
  rcases h with rfl | rfl | h
  · exact okD_str _ (strOk_of _)
  · exact okD_str _ (strOk_of _)
  · exact h.ok
theorem Res.good {n : Nat} {d : TL.D} (h : Res n d) (k : d.isS = false) : Good n d := by
  rcases h with rfl | rfl | h
  · cases k
  · cases k
  · exact h
theorem Good.isS {n : Nat} {d : TL.D} (h : Good n d) : d.isS = false := by
  obtain ⟨ds, rfl⟩ := h.isT
  rfl
theorem Good.eqvS {n : Nat} {d : TL.D} (h : Good n d) (x : Str) : d.eqv (.str x) = false := by
  obtain ⟨ds, rfl⟩ := h.isT
  exact eqv_tup_str _ _
theorem grp_good {n : Nat} {w : String} {ds : List TL.D} (hw : w = "all" ∨ w = "any" ∨ w = "then") (h : ds ≠ []) (l : ds.length ≤ 1000) (g : ∀ d ∈ ds, Good n d) : Good (n + 1) (grp w ds) := by
  match ds, h with
  | [d], _ => exact (g d (List.mem_singleton.mpr rfl)).succ
  | a :: b :: r, _ => exact .inr (.inl ⟨w, a :: b :: r, hw, by simp, l, fun _ => by simp, g, rfl⟩)
theorem beh_res : ∀ {n : Nat} {d : TL.D} {a : Str}, PyData.strOk a = true → Good n d → Res n (beh n d a)
  | 0, _, _, _, h => h.elim
  | n + 1, d, a, ha, h => by
    rcases h with ⟨b, k, hb, hk, rfl⟩ | ⟨w, ts, hw, h0, hl, h2, hg, rfl⟩ | ⟨b, t, hb, hg, rfl⟩ | ⟨k, t, hk, hg, rfl⟩
    · simp only [beh]
      split
      · split
        · exact .inl rfl
        · exact .inr (.inr (.inl ⟨b, k - 1, hb, by omega, rfl⟩))
      · exact .inr (.inr (.inl ⟨b, k, hb, hk, rfl⟩))
    · simp only [beh, str_inj]
      by_cases ht : w = "then"
      · rw [if_pos ht]
        match ts, h0 with
        | t :: r, _ =>
          have h2 := h2 ht
          simp at h2
          have hr : r ≠ [] := by rintro rfl; simp at h2
          have ih := beh_res ha (hg t (List.mem_cons_self ..))
          rcases ih with e | e | e
          · simp only [e, eqv_str, str_inj]
            simp
            refine .inr (.inr (grp_good hw hr (by simp at hl; omega) fun d hd => hg d (List.mem_cons_of_mem _ hd)))
          · simp only [e, eqv_str, str_inj]
            exact .inr (.inl rfl)
          · simp only [e.eqvS, Bool.false_eq_true, if_false]
            refine .inr (.inr (grp_good hw (by simp) (by simpa using hl) fun d hd => ?_))
            rcases List.mem_cons.mp hd with rfl | hd
            · exact e
            · exact hg d (List.mem_cons_of_mem _ hd)
      · rw [if_neg ht]
        have rs : ∀ s ∈ ts.map fun t => beh n t a, Res n s := by
          intro s hs
          obtain ⟨t, ht, rfl⟩ := List.mem_map.mp hs
          exact beh_res ha (hg t ht)
        have hll : (ts.map fun t => beh n t a).length ≤ 1000 := by simpa using hl
        generalize (ts.map fun t => beh n t a) = ss at *
        by_cases h : w = "any"
        · simp only [h, if_true]
          split
          · exact .inl rfl
          · next hn =>
            split
            · exact .inr (.inl rfl)
            · next he =>
              refine .inr (.inr (grp_good (.inr (.inl rfl)) he (Nat.le_trans (List.length_filter_le _ _) hll) fun d hd => ?_))
              have ⟨hd, hp⟩ := List.mem_filter.mp hd
              have hn : d.eqv (TL.D.str "done") = false := by
                cases e : d.eqv (TL.D.str "done") with
                | false => rfl
                | true => exact (hn (List.any_eq_true.mpr ⟨d, hd, e⟩)).elim
              rcases rs d hd with rfl | rfl | g
              · simp [eqv_str] at hn hp
              · simp [eqv_str] at hn hp
              · exact g
        · simp only [h, if_false]
          split
          · exact .inr (.inl rfl)
          · next hn =>
            split
            · exact .inl rfl
            · next he =>
              refine .inr (.inr (grp_good hw he (Nat.le_trans (List.length_filter_le _ _) hll) fun d hd => ?_))
              have ⟨hd, hp⟩ := List.mem_filter.mp hd
              have hn : d.eqv (TL.D.str "failed") = false := by
                cases e : d.eqv (TL.D.str "failed") with
                | false => rfl
                | true => exact (hn (List.any_eq_true.mpr ⟨d, hd, e⟩)).elim
              rcases rs d hd with rfl | rfl | g
              · simp [eqv_str] at hn hp
              · simp [eqv_str] at hn hp
              · exact g
    · have ih := beh_res ha hg
      obtain ⟨ds, rfl⟩ := hg.isT
      simp only [beh]
      split
      · exact .inr (.inl rfl)
      · split
        · exact ih.mono (Nat.le_succ n)
        · next h => exact .inr (.inr (.inr (.inr (.inl ⟨b, _, hb, ih.good (by simpa using h), rfl⟩))))
    · have ih := beh_res ha hg
      simp only [beh]
      split
      · exact ih.mono (Nat.le_succ n)
      · next h =>
        split
        · exact .inr (.inl rfl)
        · exact .inr (.inr (.inr (.inr (.inr ⟨k - 1, _, by omega, ih.good (by simpa using h), rfl⟩))))

end TP

namespace TP
open TL
open PySem (Str PyData)
open L2 (atI)
theorem inL {n : Nat} {x : Str} {ds : List TL.D} (hx : PyData.strOk x = true) (hn : n + 1 ≤ 64) (h : ∀ d ∈ ds, okD n d) : dIn (.str x) (.lst ds) = some (.bl (ds.any fun d => d.eqv (.str x))) := by
  have a := (okD_str 0 hx).shp (by decide)
  have b := (okD_lst h).shp hn
  simp [dIn, inD, a, b]
theorem inT {x : Str} (ys : List String) (hx : PyData.strOk x = true) : dIn (.str x) (.tup (ys.map fun y => TL.D.str (Str.ofString y))) = some (.bl (ys.any fun y => decide (Str.ofString y = x))) := by
  have a := (okD_str 0 hx).shp (by decide)
  have b := (okD_tup (n := 0) (ds := ys.map fun y => TL.D.str (Str.ofString y)) (fun d hd => by
    obtain ⟨y, _, rfl⟩ := List.mem_map.mp hd
    exact okD_str 0 (strOk_of y))).shp (by decide)
  simp [dIn, inD, a, b, Function.comp_def, eqv_str]
theorem inG {x : String} : dIn (.str x) (.tup [.str "all", .str "any", .str "then"]) = some (.bl (decide (x = "all") || (decide (x = "any") || decide (x = "then")))) := by
  have z := inT (x := x) ["all", "any", "then"] (strOk_of _)
  simp at z
  rw [z]
  congr 2
  simp only [eq_comm]

end TP

namespace TP
open TL
open PySem (Str PyData)
open L2 (atI)
mutual
def pl : TL.D → Bool
  | .str _ => true
  | .int _ => true
  | .tup ds => pls ds
  | _ => false
def pls : List TL.D → Bool
  | [] => true
  | d :: ds => pl d && pls ds
end
theorem eqv_cons (a b : TL.D) (as bs : List TL.D) : (TL.D.tup (a :: as)).eqv (.tup (b :: bs)) = (a.eqv b && (TL.D.tup as).eqv (.tup bs)) := by
  unfold TL.D.eqv
  simp only [TL.D.py, pys, PyData.eqv, PyData.eqvAll]
theorem eqv_nc (b : TL.D) (bs : List TL.D) : (TL.D.tup []).eqv (.tup (b :: bs)) = false := by
  unfold TL.D.eqv
  simp only [TL.D.py, pys, PyData.eqv, PyData.eqvAll]
theorem eqv_cn (b : TL.D) (bs : List TL.D) : (TL.D.tup (b :: bs)).eqv (.tup []) = false := by
  unfold TL.D.eqv
  simp only [TL.D.py, pys, PyData.eqv, PyData.eqvAll]
theorem eqv_ti (ds : List TL.D) (i : Int) : (TL.D.tup ds).eqv (.int i) = false := by
  unfold TL.D.eqv
  simp only [TL.D.py, PyData.eqv]
theorem eqv_it (ds : List TL.D) (i : Int) : (TL.D.int i).eqv (.tup ds) = false := by
  unfold TL.D.eqv
  simp only [TL.D.py, PyData.eqv]
theorem eqv_si (s : Str) (i : Int) : (TL.D.str s).eqv (.int i) = false := by
  unfold TL.D.eqv
  simp only [TL.D.py, PyData.eqv]
theorem eqv_is (s : Str) (i : Int) : (TL.D.int i).eqv (.str s) = false := by
  unfold TL.D.eqv
  simp only [TL.D.py, PyData.eqv]
mutual
theorem eqv_pl : ∀ (d e : TL.D), pl d = true → pl e = true → d.eqv e = true → d = e
  | .str s, .str t, _, _, h => by rw [eqv_str] at h; rw [of_decide_eq_true h]
  | .int s, .int t, _, _, h => by rw [eqv_int] at h; rw [of_decide_eq_true h]
  | .str s, .int t, _, _, h => by rw [eqv_si] at h; cases h
  | .int s, .str t, _, _, h => by rw [eqv_is] at h; cases h
  | .str s, .tup t, _, _, h => by rw [eqv_str_tup] at h; cases h
  | .int s, .tup t, _, _, h => by rw [eqv_it] at h; cases h
  | .tup ds, .str t, _, _, h => by rw [eqv_tup_str] at h; cases h
  | .tup ds, .int t, _, _, h => by rw [eqv_ti] at h; cases h
  | .tup ds, .tup es, hd, he, h => by rw [eqvs_pl ds es hd he h]
theorem eqvs_pl : ∀ (ds es : List TL.D), pls ds = true → pls es = true → (TL.D.tup ds).eqv (.tup es) = true → ds = es
  | [], [], _, _, _ => rfl
  | [], b :: bs, _, _, h => by rw [eqv_nc] at h; cases h
  | b :: bs, [], _, _, h => by rw [eqv_cn] at h; cases h
  | a :: as, b :: bs, hd, he, h => by
    rw [eqv_cons, Bool.and_eq_true] at h
    unfold pls at hd he
    rw [Bool.and_eq_true] at hd he
    rw [eqv_pl a b hd.1 he.1 h.1, eqvs_pl as bs hd.2 he.2 h.2]
end
theorem pls_of : ∀ {ds : List TL.D}, (∀ d ∈ ds, pl d = true) → pls ds = true
  | [], _ => rfl
  | d :: ds, h => by
    unfold pls
    rw [h d (List.mem_cons_self ..), pls_of fun x hx => h x (List.mem_cons_of_mem _ hx)]
    rfl
/-- a task, however many parts -/
def Tk : Nat → TL.D → Prop
  | 0, _ => False
  | n + 1, d => (∃ a k, PyData.strOk a = true ∧ d = .tup [.str "do", .str a, .int k]) ∨
      (∃ (w : String) (ts : List TL.D), (w = "all" ∨ w = "any" ∨ w = "then") ∧ ts ≠ [] ∧ (∀ t ∈ ts, Tk n t) ∧ d = .tup [.str w, .tup ts]) ∨
      (∃ a t, PyData.strOk a = true ∧ Tk n t ∧ d = .tup [.str "without", .str a, t]) ∨
      (∃ k t, Tk n t ∧ d = .tup [.str "within", .int k, t])
theorem Tk.succ : ∀ {n : Nat} {d : TL.D}, Tk n d → Tk (n + 1) d
  | 0, _, h => h.elim
  | n + 1, d, h => by
    rcases h with h | ⟨w, ts, a, b, e, f⟩ | ⟨a, t, b, c, e⟩ | ⟨k, t, c, e⟩
    · exact .inl h
    · exact .inr (.inl ⟨w, ts, a, b, fun t ht => (e t ht).succ, f⟩)
    · exact .inr (.inr (.inl ⟨a, t, b, c.succ, e⟩))
    · exact .inr (.inr (.inr ⟨k, t, c.succ, e⟩))
theorem Tk.mono {n m : Nat} {d : TL.D} (h : Tk n d) (k : n ≤ m) : Tk m d := by
  induction k with
  | refl => exact h
  | step _ ih => exact ih.succ
theorem Tk.pl : ∀ {n : Nat} {d : TL.D}, Tk n d → pl d = true
  | 0, _, h => h.elim
  | n + 1, d, h => by
    rcases h with ⟨a, k, _, rfl⟩ | ⟨w, ts, a, b, e, rfl⟩ | ⟨a, t, b, c, rfl⟩ | ⟨k, t, c, rfl⟩
    · rfl
    · have := pls_of fun t ht => (e t ht).pl
      simp [TP.pl, pls, this]
    · simp [TP.pl, pls, c.pl]
    · simp [TP.pl, pls, c.pl]
theorem Tk.eq {n m : Nat} {d e : TL.D} (h : Tk n d) (k : Tk m e) (x : d.eqv e = true) : d = e := eqv_pl d e h.pl k.pl x
theorem Tk.isT {n : Nat} {d : TL.D} (h : Tk n d) : ∃ ds, d = .tup ds := by
  cases n with
  | zero => exact h.elim
  | succ n => rcases h with ⟨a, k, b, rfl⟩ | ⟨w, ts, a, b, e, rfl⟩ | ⟨a, t, b, c, rfl⟩ | ⟨k, t, c, rfl⟩ <;> exact ⟨_, rfl⟩
theorem Tk.ok : ∀ {n : Nat} {d : TL.D}, Tk n d → okD (2 * n) d
  | 0, _, h => h.elim
  | n + 1, d, h => by
    rcases h with ⟨a, k, b, rfl⟩ | ⟨w, ts, a, b, e, rfl⟩ | ⟨a, t, b, c, rfl⟩ | ⟨k, t, c, rfl⟩
    · refine okD_tup (n := 2 * n + 1) fun x hx => ?_
      simp at hx
      rcases hx with rfl | rfl | rfl
      · exact okD_str _ (strOk_of _)
      · exact okD_str _ b
      · exact okD_int _ _
    · refine okD_tup (n := 2 * n + 1) fun x hx => ?_
      simp at hx
      rcases hx with rfl | rfl
      · exact okD_str _ (strOk_of _)
      · exact okD_tup fun t ht => (e t ht).ok
    · refine okD_tup (n := 2 * n + 1) fun x hx => ?_
      simp at hx
      rcases hx with rfl | rfl | rfl
      · exact okD_str _ (strOk_of _)
      · exact okD_str _ b
      · exact c.ok.mono (by omega)
    · refine okD_tup (n := 2 * n + 1) fun x hx => ?_
      simp at hx
      rcases hx with rfl | rfl | rfl
      · exact okD_str _ (strOk_of _)
      · exact okD_int _ _
      · exact c.ok.mono (by omega)
theorem Tk.refl {n : Nat} {d : TL.D} (h : Tk n d) : d.eqv d = true := h.ok.eqv_refl
/-- is it there already -/
def isInD (acc : List TL.D) (p : TL.D) : Bool := acc.any fun y => y.eqv p
theorem isIn_mem {n : Nat} {acc : List TL.D} {p : TL.D} (ha : ∀ a ∈ acc, Tk n a) (hp : Tk n p) : isInD acc p = true ↔ p ∈ acc := by
  constructor
  · intro h
    obtain ⟨y, hy, e⟩ := List.any_eq_true.mp h
    rw [← (ha y hy).eq hp e]
    exact hy
  · intro h
    exact List.any_eq_true.mpr ⟨p, h, hp.refl⟩
/-- each but once: the first of those that are the same -/
def dedGo : List TL.D → List TL.D → List TL.D
  | acc, [] => acc
  | acc, p :: ps => if isInD acc p then dedGo acc ps else dedGo (acc ++ [p]) ps
theorem ded_app : ∀ (as bs acc : List TL.D), dedGo acc (as ++ bs) = dedGo (dedGo acc as) bs
  | [], _, _ => rfl
  | a :: as, bs, acc => by
    show (if isInD acc a then dedGo acc (as ++ bs) else dedGo (acc ++ [a]) (as ++ bs)) = dedGo (if isInD acc a then dedGo acc as else dedGo (acc ++ [a]) as) bs
    split
    · exact ded_app as bs acc
    · exact ded_app as bs (acc ++ [a])
theorem ded_mem : ∀ {ps acc : List TL.D} {x : TL.D}, x ∈ dedGo acc ps → x ∈ acc ∨ x ∈ ps
  | [], _, _, h => .inl h
  | p :: ps, acc, x, h => by
    unfold dedGo at h
    split at h
    · exact (ded_mem h).imp id (List.mem_cons_of_mem _)
    · rcases ded_mem h with h | h
      · rcases List.mem_append.mp h with h | h
        · exact .inl h
        · rw [List.mem_singleton.mp h]; exact .inr (List.mem_cons_self ..)
      · exact .inr (List.mem_cons_of_mem _ h)
theorem ded_acc : ∀ {ps acc : List TL.D} {x : TL.D}, x ∈ acc → x ∈ dedGo acc ps
  | [], _, _, h => h
  | p :: ps, acc, x, h => by
    unfold dedGo
    split
    · exact ded_acc h
    · exact ded_acc (List.mem_append_left _ h)
theorem ded_all {n : Nat} : ∀ {ps acc : List TL.D}, (∀ a ∈ acc, Tk n a) → (∀ p ∈ ps, Tk n p) → ∀ x ∈ ps, x ∈ dedGo acc ps
  | p :: ps, acc, ha, hp, x, h => by
    have hp0 := hp p (List.mem_cons_self ..)
    have hp' : ∀ q ∈ ps, Tk n q := fun q hq => hp q (List.mem_cons_of_mem _ hq)
    have ha' : ∀ a ∈ acc ++ [p], Tk n a := fun a h => by
      rcases List.mem_append.mp h with h | h
      · exact ha a h
      · rw [List.mem_singleton.mp h]; exact hp0
    unfold dedGo
    rcases List.mem_cons.mp h with rfl | h
    · split
      · next hi => exact ded_acc ((isIn_mem ha hp0).mp hi)
      · exact ded_acc (List.mem_append_right _ (List.mem_singleton.mpr rfl))
    · split
      · exact ded_all ha hp' x h
      · exact ded_all ha' hp' x h
theorem ded_sub {n : Nat} : ∀ {ps acc : List TL.D}, (∀ a ∈ acc, Tk n a) → (∀ p ∈ ps, p ∈ acc) → dedGo acc ps = acc
  | [], _, _, _ => rfl
  | p :: ps, acc, ha, h => by
    have hm := h p (List.mem_cons_self ..)
    unfold dedGo
    rw [if_pos ((isIn_mem ha (ha p hm)).mpr hm)]
    exact ded_sub ha fun q hq => h q (List.mem_cons_of_mem _ hq)
theorem ded_ded {n : Nat} : ∀ {ps b acc : List TL.D}, (∀ a ∈ acc, Tk n a) → (∀ a ∈ b, Tk n a) → (∀ p ∈ ps, Tk n p) → dedGo acc (dedGo b ps) = dedGo (dedGo acc b) ps
  | [], _, _, _, _, _ => rfl
  | p :: ps, b, acc, ha, hb, hp => by
    have hp0 := hp p (List.mem_cons_self ..)
    have hp' : ∀ q ∈ ps, Tk n q := fun q hq => hp q (List.mem_cons_of_mem _ hq)
    have hb' : ∀ a ∈ b ++ [p], Tk n a := fun a h => by
      rcases List.mem_append.mp h with h | h
      · exact hb a h
      · rw [List.mem_singleton.mp h]; exact hp0
    have hab : ∀ a ∈ dedGo acc b, Tk n a := fun a h => by
      rcases ded_mem h with h | h
      · exact ha a h
      · exact hb a h
    have e : dedGo b (p :: ps) = if isInD b p then dedGo b ps else dedGo (b ++ [p]) ps := rfl
    have e2 : dedGo (dedGo acc b) (p :: ps) = if isInD (dedGo acc b) p then dedGo (dedGo acc b) ps else dedGo (dedGo acc b ++ [p]) ps := rfl
    rw [e, e2]
    by_cases hi : isInD b p = true
    · rw [if_pos hi, if_pos ((isIn_mem hab hp0).mpr (ded_all ha hb p ((isIn_mem hb hp0).mp hi)))]
      exact ded_ded ha hb hp'
    · rw [if_neg hi, ded_ded ha hb' hp', ded_app]
      show dedGo (if isInD (dedGo acc b) p then dedGo (dedGo acc b) [] else dedGo (dedGo acc b ++ [p]) []) ps = _
      split <;> rfl

end TP

namespace TP
open TL
open PySem (Str PyData)
open L2 (atI)
theorem Good.pl : ∀ {n : Nat} {d : TL.D}, Good n d → TP.pl d = true
  | 0, _, h => h.elim
  | n + 1, d, h => by
    rcases h with ⟨b, k, hb, hk, rfl⟩ | ⟨w, ts, hw, h0, hl, h2, hg, rfl⟩ | ⟨b, t, hb, hg, rfl⟩ | ⟨k, t, hk, hg, rfl⟩
    · rfl
    · have := pls_of fun t ht => (hg t ht).pl
      simp [TP.pl, pls, this]
    · have := hg.pl
      simp [TP.pl, pls, this]
    · have := hg.pl
      simp [TP.pl, pls, this]
mutual
theorem pl_hsb : ∀ {d : TL.D}, pl d = true → hsb d = true
  | .str _, _ => rfl
  | .int _, _ => rfl
  | .tup ds, h => pls_hsbs (ds := ds) h
  | .non, h => by cases h
  | .bl _, h => by cases h
  | .lst _, h => by cases h
  | .dic _, h => by cases h
  | .fls _, h => by cases h
  | .mlst _, h => by cases h
  | .mset _, h => by cases h
  | .mdic _, h => by cases h
  | .ins _ _, h => by cases h
theorem pls_hsbs : ∀ {ds : List TL.D}, pls ds = true → hsbs ds = true
  | [], _ => rfl
  | d :: ds, h => by
    unfold pls at h
    rw [Bool.and_eq_true] at h
    unfold hsbs
    rw [pl_hsb h.1, pls_hsbs h.2]
    rfl
end
theorem key_of {n : Nat} {ds : List TL.D} (p : pl (.tup ds) = true) (h : okD n (.tup ds)) (k : n ≤ 8) : isKey (.tup ds) = true := by
  unfold isKey
  rw [pl_hsb p]
  have := h.2
  simp
  omega
/-- depth, to the point -/
theorem Good.okS : ∀ {n : Nat} {d : TL.D}, Good (n + 1) d → okD (2 * n + 1) d := by
  intro n
  induction n with
  | zero =>
    intro d h
    rcases h with ⟨b, k, hb, hk, rfl⟩ | ⟨w, ts, hw, h0, hl, h2, hg, rfl⟩ | ⟨b, t, hb, hg, rfl⟩ | ⟨k, t, hk, hg, rfl⟩
    · refine okD_tup (n := 0) fun x hx => ?_
      simp at hx
      rcases hx with rfl | rfl | rfl
      · exact okD_str _ (strOk_of _)
      · exact okD_str _ hb.1
      · exact okD_int _ _
    · match ts, h0 with
      | t :: r, _ => exact (hg t (List.mem_cons_self ..)).elim
    · exact hg.elim
    · exact hg.elim
  | succ n ih =>
    intro d h
    rcases h with ⟨a, k, b, _, rfl⟩ | ⟨w, ts, a, b, b2, c, e, rfl⟩ | ⟨a, t, b, c, rfl⟩ | ⟨k, t, b, c, rfl⟩
    · refine okD_tup (n := 2 * (n + 1)) fun x hx => ?_
      simp at hx
      rcases hx with rfl | rfl | rfl
      · exact okD_str _ (strOk_of _)
      · exact okD_str _ b.1
      · exact okD_int _ _
    · refine okD_tup (n := 2 * (n + 1)) fun x hx => ?_
      simp at hx
      rcases hx with rfl | rfl
      · exact okD_str _ (strOk_of _)
      · exact okD_tup (n := 2 * n + 1) fun t ht => ih (e t ht)
    · refine okD_tup (n := 2 * (n + 1)) fun x hx => ?_
      simp at hx
      rcases hx with rfl | rfl | rfl
      · exact okD_str _ (strOk_of _)
      · exact okD_str _ b.1
      · exact (ih c).mono (by omega)
    · refine okD_tup (n := 2 * (n + 1)) fun x hx => ?_
      simp at hx
      rcases hx with rfl | rfl | rfl
      · exact okD_str _ (strOk_of _)
      · exact okD_int _ _
      · exact (ih c).mono (by omega)
theorem Good.keyS {n m : Nat} {d : TL.D} (h : Good n d) (o : okD m d) (k : m ≤ 8) : isKey d = true := by
  have p := h.pl
  obtain ⟨ds, rfl⟩ := h.isT
  exact key_of p o k
theorem Good.key {n : Nat} {d : TL.D} (h : Good n d) (k : n ≤ 4) : isKey d = true := h.keyS h.ok (by omega)
theorem Good.eq {n m : Nat} {d e : TL.D} (h : Good n d) (k : Good m e) : d.eqv e = true ↔ d = e := ⟨eqv_pl d e h.pl k.pl, fun x => by rw [← x]; exact h.ok.eqv_refl⟩

end TP

namespace TP
open TL
open PySem (Str PyData)
open L2 (atI)
section
variable (F : TL.D → List TL.D)
/-- of each task a state, or nothing -/
def chs : List TL.D → List (List TL.D)
  | [] => [[]]
  | t :: r => chs r ++ (F t).flatMap fun s => (chs r).map fun c => s :: c
def suf (w : Str) : List TL.D → List TL.D
  | [] => []
  | t :: r => (F t).map (fun s => grp w (s :: r)) ++ suf w r
end
def sts : Nat → TL.D → List TL.D
  | 0, _ => []
  | n + 1, .tup [.str w, .tup ts] => (if ts.length = 1 then [.tup [.str w, .tup ts]] else []) ++ if w = "then" then suf (sts n) w ts else ((chs (sts n) ts).filter fun c => !c.isEmpty).map (grp w)
  | _ + 1, .tup [.str w, .str b, .int k] => (List.range k.toNat).map fun (i : Nat) => .tup [.str w, .str b, .int ((i : Int) + 1)]
  | n + 1, .tup [.str w, .str b, t] => (sts n t).map fun s => .tup [.str w, .str b, s]
  | n + 1, .tup [.str w, .int k, t] => (List.range k.toNat).flatMap fun (i : Nat) => (sts n t).map fun s => .tup [.str w, .int ((i : Int) + 1), s]
  | _, _ => []
theorem chs_nil (F : TL.D → List TL.D) : ∀ ts, [] ∈ chs F ts
  | [] => by simp [chs]
  | t :: r => by
    unfold chs
    exact List.mem_append_left _ (chs_nil F r)
theorem chs_self {F : TL.D → List TL.D} : ∀ {ts}, (∀ t ∈ ts, t ∈ F t) → ts ∈ chs F ts
  | [], _ => by simp [chs]
  | t :: r, h => by
    unfold chs
    refine List.mem_append_right _ (List.mem_flatMap.mpr ⟨t, h t (List.mem_cons_self ..), List.mem_map.mpr ⟨r, chs_self fun s hs => h s (List.mem_cons_of_mem _ hs), rfl⟩⟩)
theorem chs_mem {F : TL.D → List TL.D} : ∀ {ts c}, c ∈ chs F ts → ∀ s ∈ c, ∃ t ∈ ts, s ∈ F t
  | [], c, h, s, hs => by
    simp [chs] at h
    rw [h] at hs
    cases hs
  | t :: r, c, h, s, hs => by
    unfold chs at h
    rcases List.mem_append.mp h with h | h
    · obtain ⟨u, hu, x⟩ := chs_mem h s hs
      exact ⟨u, List.mem_cons_of_mem _ hu, x⟩
    · obtain ⟨u, hu, h⟩ := List.mem_flatMap.mp h
      obtain ⟨c', hc, rfl⟩ := List.mem_map.mp h
      rcases List.mem_cons.mp hs with rfl | hs
      · exact ⟨t, List.mem_cons_self .., hu⟩
      · obtain ⟨v, hv, x⟩ := chs_mem hc s hs
        exact ⟨v, List.mem_cons_of_mem _ hv, x⟩
theorem chs_len {F : TL.D → List TL.D} {B : Nat} : ∀ {ts}, (∀ t ∈ ts, (F t).length ≤ B) → (chs F ts).length ≤ (B + 1) ^ ts.length
  | [], _ => by simp [chs]
  | t :: r, h => by
    have ih := chs_len (F := F) (B := B) fun s hs => h s (List.mem_cons_of_mem _ hs)
    have ht := h t (List.mem_cons_self ..)
    have e : ∀ l : List TL.D, (l.flatMap fun s => (chs F r).map fun c => s :: c).length = l.length * (chs F r).length := by
      intro l
      induction l with
      | nil => simp
      | cons x l ih => rw [List.flatMap_cons, List.length_append, ih, List.length_map, List.length_cons, Nat.add_mul, Nat.one_mul, Nat.add_comm]
    unfold chs
    rw [List.length_append, e, List.length_cons, Nat.pow_succ]
    calc (chs F r).length + (F t).length * (chs F r).length = (chs F r).length * ((F t).length + 1) := by rw [Nat.mul_add, Nat.mul_one, Nat.mul_comm, Nat.add_comm]
      _ ≤ (B + 1) ^ r.length * (B + 1) := Nat.mul_le_mul ih (by omega)
/-- some gone, some changed: a choice still -/
theorem chs_step {F : TL.D → List TL.D} {f : TL.D → TL.D} {p : TL.D → Bool} : ∀ {ts c}, c ∈ chs F ts → (∀ t ∈ ts, ∀ s ∈ F t, s ∈ c → p (f s) = true → f s ∈ F t) → (c.map f).filter p ∈ chs F ts
  | [], c, h, _ => by
    simp [chs] at h
    rw [h]
    simp [chs]
  | t :: r, c, h, k => by
    unfold chs at h ⊢
    rcases List.mem_append.mp h with h | h
    · exact List.mem_append_left _ (chs_step h fun u hu s hs => k u (List.mem_cons_of_mem _ hu) s hs)
    · obtain ⟨u, hu, h⟩ := List.mem_flatMap.mp h
      obtain ⟨c', hc, rfl⟩ := List.mem_map.mp h
      have ih := chs_step hc fun v hv s hs hm => k v (List.mem_cons_of_mem _ hv) s hs (List.mem_cons_of_mem _ hm)
      rw [List.map_cons, List.filter_cons]
      cases hp : p (f u) with
      | false => exact List.mem_append_left _ ih
      | true => exact List.mem_append_right _ (List.mem_flatMap.mpr ⟨f u, k t (List.mem_cons_self ..) u hu (List.mem_cons_self ..) hp, List.mem_map.mpr ⟨_, ih, rfl⟩⟩)
/-- a task's own list holds it -/
theorem sts_self : ∀ {n : Nat} {d : TL.D}, Good n d → d ∈ sts n d
  | 0, _, h => h.elim
  | n + 1, d, h => by
    rcases h with ⟨b, k, hb, hk, rfl⟩ | ⟨w, ts, hw, h0, hl, h2, hg, rfl⟩ | ⟨b, t, hb, hg, rfl⟩ | ⟨k, t, hk, hg, rfl⟩
    · unfold sts
      exact List.mem_map.mpr ⟨k.toNat - 1, List.mem_range.mpr (by omega), by rw [show (((k.toNat - 1 : Nat) : Int) + 1) = k from by omega]⟩
    · unfold sts
      by_cases l1 : ts.length = 1
      · rw [if_pos l1]
        exact List.mem_append_left _ (List.mem_singleton.mpr rfl)
      · have eg : grp w ts = .tup [.str w, .tup ts] := by
          match ts, h0 with
          | [d], _ => simp at l1
          | _ :: _ :: _, _ => rfl
        refine List.mem_append_right _ ?_
        split
        · match ts, h0 with
          | t :: r, _ =>
            unfold suf
            exact List.mem_append_left _ (List.mem_map.mpr ⟨t, sts_self (hg t (List.mem_cons_self ..)), eg⟩)
        · exact List.mem_map.mpr ⟨ts, List.mem_filter.mpr ⟨chs_self fun t ht => sts_self (hg t ht), by cases ts <;> first | exact absurd rfl h0 | rfl⟩, eg⟩
    · obtain ⟨ds, rfl⟩ := hg.isT
      unfold sts
      exact List.mem_map.mpr ⟨_, sts_self hg, rfl⟩
    · obtain ⟨ds, rfl⟩ := hg.isT
      unfold sts
      exact List.mem_flatMap.mpr ⟨k.toNat - 1, List.mem_range.mpr (by omega), List.mem_map.mpr ⟨_, sts_self hg, by rw [show (((k.toNat - 1 : Nat) : Int) + 1) = k from by omega]⟩⟩
theorem suf_mem {F : TL.D → List TL.D} {w : Str} {x : TL.D} : ∀ {ts}, x ∈ suf F w ts → ∃ t r s, t :: r <:+ ts ∧ s ∈ F t ∧ x = grp w (s :: r)
  | [], h => by cases h
  | t :: r, h => by
    unfold suf at h
    rcases List.mem_append.mp h with h | h
    · obtain ⟨s, hs, rfl⟩ := List.mem_map.mp h
      exact ⟨t, r, s, List.suffix_refl _, hs, rfl⟩
    · obtain ⟨t', r', s, a, b, c⟩ := suf_mem h
      exact ⟨t', r', s, List.suffix_cons_iff.mpr (.inr a), b, c⟩
theorem mem_suf {F : TL.D → List TL.D} {w : Str} {t s : TL.D} {r : List TL.D} : ∀ {ts}, t :: r <:+ ts → s ∈ F t → grp w (s :: r) ∈ suf F w ts
  | [], h, _ => by simp at h
  | u :: us, h, hs => by
    unfold suf
    rcases List.suffix_cons_iff.mp h with h | h
    · cases h
      exact List.mem_append_left _ (List.mem_map.mpr ⟨s, hs, rfl⟩)
    · exact List.mem_append_right _ (mem_suf h hs)
/-- the states are tasks -/
theorem sts_good : ∀ {n : Nat} {d s : TL.D}, Good n d → s ∈ sts n d → Good n s
  | 0, _, _, h, _ => h.elim
  | n + 1, d, s, h, hs => by
    have h' := h
    rcases h with ⟨b, k, hb, hk, rfl⟩ | ⟨w, ts, hw, h0, hl, h2, hg, rfl⟩ | ⟨b, t, hb, hg, rfl⟩ | ⟨k, t, hk, hg, rfl⟩
    · unfold sts at hs
      obtain ⟨i, hi, rfl⟩ := List.mem_map.mp hs
      exact .inl ⟨b, _, hb, by omega, rfl⟩
    · unfold sts at hs
      rcases List.mem_append.mp hs with hs | hs
      · split at hs
        · rw [List.mem_singleton.mp hs]
          exact h'
        · cases hs
      · split at hs
        · obtain ⟨t, r, x, a, b, rfl⟩ := suf_mem hs
          have le := a.length_le
          refine grp_good hw (by simp) (by simp at le ⊢; omega) fun y hy => ?_
          rcases List.mem_cons.mp hy with rfl | hy
          · exact sts_good (hg t (a.subset (List.mem_cons_self ..))) b
          · exact hg y (a.subset (List.mem_cons_of_mem _ hy))
        · obtain ⟨c, hc, rfl⟩ := List.mem_map.mp hs
          obtain ⟨hc, hn⟩ := List.mem_filter.mp hc
          have ln : ∀ {ts c : List TL.D}, c ∈ chs (sts n) ts → c.length ≤ ts.length := by
            intro ts
            induction ts with
            | nil => intro c h; simp [chs] at h; rw [h]; simp
            | cons t r ih =>
              intro c h
              unfold chs at h
              rcases List.mem_append.mp h with h | h
              · exact Nat.le_succ_of_le (ih h)
              · obtain ⟨u, hu, h⟩ := List.mem_flatMap.mp h
                obtain ⟨c', hc, rfl⟩ := List.mem_map.mp h
                exact Nat.succ_le_succ (ih hc)
          refine grp_good hw (by cases c <;> first | (simp at hn; done) | simp) (Nat.le_trans (ln hc) hl) fun y hy => ?_
          obtain ⟨t, ht, hy⟩ := chs_mem hc y hy
          exact sts_good (hg t ht) hy
    · obtain ⟨ds, rfl⟩ := hg.isT
      unfold sts at hs
      obtain ⟨x, hx, rfl⟩ := List.mem_map.mp hs
      exact .inr (.inr (.inl ⟨b, x, hb, sts_good hg hx, rfl⟩))
    · obtain ⟨ds, rfl⟩ := hg.isT
      unfold sts at hs
      obtain ⟨i, hi, hs⟩ := List.mem_flatMap.mp hs
      obtain ⟨x, hx, rfl⟩ := List.mem_map.mp hs
      exact .inr (.inr (.inr ⟨_, x, by omega, sts_good hg hx, rfl⟩))

end TP

namespace TP
open TL
open PySem (Str PyData)
open L2 (atI)
theorem beh_succ : ∀ {n : Nat} {d : TL.D} {a : Str}, Good n d → beh (n + 1) d a = beh n d a
  | 0, _, _, h => h.elim
  | n + 1, d, a, h => by
    rcases h with ⟨b, k, hb, hk, rfl⟩ | ⟨w, ts, hw, h0, hl, h2, hg, rfl⟩ | ⟨b, t, hb, hg, rfl⟩ | ⟨k, t, hk, hg, rfl⟩
    · simp only [beh]
    · have e : (ts.map fun t => beh (n + 1) t a) = ts.map fun t => beh n t a := List.map_congr_left fun t ht => beh_succ (hg t ht)
      match ts, h0 with
      | t :: r, _ =>
        have et := beh_succ (a := a) (hg t (List.mem_cons_self ..))
        simp only [beh, e, et]
    · have e := beh_succ (a := a) hg
      obtain ⟨ds, rfl⟩ := hg.isT
      simp only [beh, e]
    · have e := beh_succ (a := a) hg
      simp only [beh, e]
/-- who decides, and where: outcome and place, counted on from i -/
def decI (n : Nat) : TL.D → List Str → Int → Option (TL.D × Int)
  | _, [], _ => none
  | t, a :: as, i => if (beh n t a).isS then some (beh n t a, i + 1) else decI n (beh n t a) as (i + 1)
theorem decI_cons {n : Nat} {t d : TL.D} {a : Str} {as : List Str} {i : Int} (e : beh n t a = d) : decI n t (a :: as) i = if d.isS then some (d, i + 1) else decI n d as (i + 1) := by
  subst e
  rfl
theorem Res.isS {n : Nat} {d : TL.D} (r : Res n d) (h : d.isS = true) : d = .str "done" ∨ d = .str "failed" := by
  rcases r with e | e | g
  · exact .inl e
  · exact .inr e
  · rw [g.isS] at h; cases h
theorem decI_bd {n : Nat} : ∀ {as : List Str} {t : TL.D} {i p : Int} {o : TL.D}, (∀ a ∈ as, PyData.strOk a = true) → Good n t → decI n t as i = some (o, p) → i + 1 ≤ p ∧ p ≤ i + as.length ∧ (o = .str "done" ∨ o = .str "failed")
  | [], _, _, _, _, _, _, h => by cases h
  | a :: as, t, i, p, o, ha, g, h => by
    have r := beh_res (ha a (List.mem_cons_self ..)) g
    unfold decI at h
    cases hs : (beh n t a).isS with
    | true =>
      rw [if_pos hs] at h
      cases h
      exact ⟨Int.le_refl _, by simp only [List.length_cons]; omega, r.isS hs⟩
    | false =>
      rw [if_neg (by simp [hs])] at h
      have z := decI_bd (fun b hb => ha b (List.mem_cons_of_mem _ hb)) (r.good hs) h
      exact ⟨by omega, by simp only [List.length_cons]; omega, z.2.2⟩
/-- where b is done, counted on from i -/
def occ (b : Str) : List Str → Int → List Int
  | [], _ => []
  | a :: as, i => if a = b then (i + 1) :: occ b as (i + 1) else occ b as (i + 1)
theorem occ_cons {b a : Str} {as : List Str} {i : Int} : occ b (a :: as) i = if a = b then (i + 1) :: occ b as (i + 1) else occ b as (i + 1) := rfl
theorem occ_lt {b : Str} : ∀ {as : List Str} {i p : Int}, p ∈ occ b as i → i + 1 ≤ p
  | [], _, _, h => nomatch h
  | a :: as, i, p, h => by
    unfold occ at h
    split at h
    · rcases List.mem_cons.mp h with rfl | h
      · exact Int.le_refl _
      · have := occ_lt h; omega
    · have := occ_lt h; omega
theorem decI_do {n : Nat} {b : Str} : ∀ {as : List Str} {k i : Int}, 1 ≤ k → decI (n + 1) (.tup [.str "do", .str b, .int k]) as i = ((occ b as i)[k.toNat - 1]?).map fun p => (TL.D.str "done", p)
  | [], _, _, _ => rfl
  | a :: as, k, i, hk => by
    have eb : beh (n + 1) (.tup [.str "do", .str b, .int k]) a = if a = b then (if k = 1 then .str "done" else .tup [.str "do", .str b, .int (k - 1)]) else .tup [.str "do", .str b, .int k] := by
      simp only [beh]
    rw [decI_cons eb, occ_cons]
    by_cases hab : a = b
    · rw [if_pos hab, if_pos hab]
      by_cases h1 : k = 1
      · subst h1
        simp [TL.D.isS]
      · have := decI_do (n := n) (b := b) (as := as) (k := k - 1) (i := i + 1) (by omega)
        rw [if_neg h1, if_neg (by simp [TL.D.isS]), this]
        have : k.toNat - 1 = (k - 1).toNat - 1 + 1 := by omega
        rw [this, List.getElem?_cons_succ]
    · rw [if_neg hab, if_neg hab, if_neg (by simp [TL.D.isS])]
      exact decI_do hk
def woD (os : List Int) (x : Option (TL.D × Int)) : Option (TL.D × Int) := match os, x with
  | [], x => x
  | q :: _, none => some (.str "failed", q)
  | q :: _, some (o, p) => if q ≤ p then some (.str "failed", q) else some (o, p)
theorem decI_wo {n : Nat} {b : Str} : ∀ {as : List Str} {t : TL.D} {i : Int}, (∀ a ∈ as, PyData.strOk a = true) → Good n t → decI (n + 1) (.tup [.str "without", .str b, t]) as i = woD (occ b as i) (decI (n + 1) t as i)
  | [], _, _, _, _ => rfl
  | a :: as, t, i, ha, g => by
    have r := beh_res (ha a (List.mem_cons_self ..)) g
    have e := beh_succ (a := a) g
    obtain ⟨ds, ed⟩ := g.isT
    have eb : beh (n + 1) (.tup [.str "without", .str b, t]) a = if a = b then .str "failed" else if (beh n t a).isS then beh n t a else .tup [.str "without", .str b, beh n t a] := by
      subst ed
      simp only [beh]
    rw [decI_cons eb, occ_cons, decI_cons e]
    by_cases hab : a = b
    · rw [if_pos hab, if_pos hab, if_pos (by rfl)]
      cases hd : (if (beh n t a).isS = true then some (beh n t a, i + 1) else decI (n + 1) (beh n t a) as (i + 1)) with
      | none => rfl
      | some x =>
        obtain ⟨o, p⟩ := x
        have : i + 1 ≤ p := by
          by_cases hs : (beh n t a).isS = true
          · rw [if_pos hs] at hd; cases hd; exact Int.le_refl _
          · rw [if_neg hs] at hd
            have := decI_bd (fun b hb => ha b (List.mem_cons_of_mem _ hb)) (r.good (by simpa using hs)).succ hd
            omega
        simp only [woD]
        rw [if_pos this]
    · rw [if_neg hab, if_neg hab]
      by_cases hs : (beh n t a).isS = true
      · rw [if_pos hs, if_pos hs]
        cases ho : occ b as (i + 1) with
        | nil => rfl
        | cons q os =>
          have : i + 1 + 1 ≤ q := occ_lt (b := b) (as := as) (by rw [ho]; exact List.mem_cons_self ..)
          simp only [woD]
          rw [if_neg (by omega)]
      · rw [if_neg hs, if_neg hs, if_neg (by simp [TL.D.isS])]
        exact decI_wo (fun b hb => ha b (List.mem_cons_of_mem _ hb)) (r.good (by simpa using hs))
def wiD (e len : Int) (x : Option (TL.D × Int)) : Option (TL.D × Int) :=
  match x with
  | some (o, p) => if p ≤ e then some (o, p) else if e ≤ len then some (.str "failed", e) else none
  | none => if e ≤ len then some (.str "failed", e) else none
theorem decI_wi {n : Nat} : ∀ {as : List Str} {t : TL.D} {k i : Int}, 1 ≤ k → (∀ a ∈ as, PyData.strOk a = true) → Good n t → decI (n + 1) (.tup [.str "within", .int k, t]) as i = wiD (i + k) (i + as.length) (decI (n + 1) t as i)
  | [], _, k, i, hk, _, _ => by
    unfold decI wiD
    simp only [List.length_nil]
    rw [if_neg (by omega)]
  | a :: as, t, k, i, hk, ha, g => by
    have r := beh_res (ha a (List.mem_cons_self ..)) g
    have e := beh_succ (a := a) g
    have eb : beh (n + 1) (.tup [.str "within", .int k, t]) a = if (beh n t a).isS then beh n t a else if k = 1 then .str "failed" else .tup [.str "within", .int (k - 1), beh n t a] := by
      simp only [beh]
    rw [decI_cons eb, decI_cons e]
    by_cases hs : (beh n t a).isS = true
    · rw [if_pos hs, if_pos hs]
      simp only [wiD]
      rw [if_pos (by omega)]
    · rw [if_neg hs, if_neg hs]
      have gr := r.good (by simpa using hs)
      by_cases h1 : k = 1
      · rw [if_pos h1, if_pos (by rfl)]
        subst h1
        cases hd : decI (n + 1) (beh n t a) as (i + 1) with
        | none =>
          simp only [wiD, List.length_cons]
          rw [if_pos (by omega)]
        | some x =>
          obtain ⟨o, p⟩ := x
          have := decI_bd (fun b hb => ha b (List.mem_cons_of_mem _ hb)) gr.succ hd
          simp only [wiD, List.length_cons]
          rw [if_neg (by omega), if_pos (by omega)]
      · rw [if_neg h1, if_neg (by simp [TL.D.isS])]
        rw [decI_wi (by omega) (fun b hb => ha b (List.mem_cons_of_mem _ hb)) gr]
        congr 1
        · omega
        · simp only [List.length_cons]; omega
theorem maxL_mem : ∀ {xs : List Int}, xs ≠ [] → maxL xs ∈ xs
  | [x], _ => List.mem_singleton.mpr rfl
  | x :: y :: r, _ => by
    have := maxL_mem (xs := y :: r) (by simp)
    show (if maxL (y :: r) > x then maxL (y :: r) else x) ∈ _
    split
    · exact List.mem_cons_of_mem _ this
    · exact List.mem_cons_self ..
theorem maxL_ge : ∀ {xs : List Int} {x : Int}, x ∈ xs → x ≤ maxL xs
  | [y], x, h => by cases List.mem_singleton.mp h; exact Int.le_refl _
  | z :: y :: r, x, h => by
    show x ≤ (if maxL (y :: r) > z then maxL (y :: r) else z)
    rcases List.mem_cons.mp h with rfl | h
    · split <;> omega
    · have := maxL_ge (xs := y :: r) h
      split <;> omega
theorem minL_mem : ∀ {xs : List Int}, xs ≠ [] → minL xs ∈ xs
  | [x], _ => List.mem_singleton.mpr rfl
  | x :: y :: r, _ => by
    have := minL_mem (xs := y :: r) (by simp)
    show (if minL (y :: r) < x then minL (y :: r) else x) ∈ _
    split
    · exact List.mem_cons_of_mem _ this
    · exact List.mem_cons_self ..
theorem minL_le : ∀ {xs : List Int} {x : Int}, x ∈ xs → minL xs ≤ x
  | [y], x, h => by cases List.mem_singleton.mp h; exact Int.le_refl _
  | z :: y :: r, x, h => by
    show (if minL (y :: r) < z then minL (y :: r) else z) ≤ x
    rcases List.mem_cons.mp h with rfl | h
    · split <;> omega
    · have := minL_le (xs := y :: r) h
      split <;> omega
/-- the outcome that ends a group at once, and the other one -/
def enW (w : String) : TL.D := if w = "any" then .str "done" else .str "failed"
def otW (w : String) : TL.D := if w = "any" then .str "failed" else .str "done"
def posE (w : String) (xs : List (Option (TL.D × Int))) : List Int := xs.filterMap fun x => x.bind fun q => if q.1.eqv (enW w) then some q.2 else none
def posA (xs : List (Option (TL.D × Int))) : List Int := xs.filterMap fun x => x.map fun q => q.2
def grpD (w : String) (xs : List (Option (TL.D × Int))) : Option (TL.D × Int) :=
  if posE w xs ≠ [] then some (enW w, minL (posE w xs)) else if xs.any (·.isNone) then none else some (otW w, maxL (posA xs))
theorem en_ot (w : String) {o : TL.D} (h : o = .str "done" ∨ o = .str "failed") : o = enW w ∧ o.eqv (enW w) = true ∧ o.eqv (otW w) = false ∨ o = otW w ∧ o.eqv (enW w) = false ∧ o.eqv (otW w) = true := by
  unfold enW otW
  by_cases hw : w = "any"
  · rw [if_pos hw, if_pos hw]
    rcases h with rfl | rfl
    · exact .inl ⟨rfl, by simp [eqv_str], by simp [eqv_str]⟩
    · exact .inr ⟨rfl, by simp [eqv_str], by simp [eqv_str]⟩
  · rw [if_neg hw, if_neg hw]
    rcases h with rfl | rfl
    · exact .inr ⟨rfl, by simp [eqv_str], by simp [eqv_str]⟩
    · exact .inl ⟨rfl, by simp [eqv_str], by simp [eqv_str]⟩
theorem grpD_one (w : String) {x : Option (TL.D × Int)} (h : ∀ q, x = some q → q.1 = .str "done" ∨ q.1 = .str "failed") : grpD w [x] = x := by
  unfold grpD posE posA
  cases x with
  | none => rfl
  | some q =>
    obtain ⟨o, p⟩ := q
    rcases en_ot w (h _ rfl) with ⟨e, e1, e2⟩ | ⟨e, e1, e2⟩
    · simp only [List.filterMap_cons, Option.bind, e1, if_true, List.filterMap_nil]
      simp only at e
      rw [if_pos (by simp), e]
      rfl
    · simp only [List.filterMap_cons, Option.bind, e1, Bool.false_eq_true, if_false, List.filterMap_nil]
      simp only at e
      rw [if_neg (by simp), e]
      rfl

end TP

namespace TP
open TL
open PySem (Str PyData)
open L2 (atI)
/-- what is left of a group, of two parts or more, or of one -/
theorem beh_grp {n : Nat} {w : String} {c : List TL.D} {a : Str} (hw : w = "all" ∨ w = "any") (R : ∀ t ∈ c, Res n (beh n t a)) :
    (beh (n + 1) (.tup [.str w, .tup c]) a).isS = true ∨ (((c.map fun t => beh n t a).filter fun s => !s.isS) ≠ [] ∧ beh (n + 1) (.tup [.str w, .tup c]) a = grp w ((c.map fun t => beh n t a).filter fun s => !s.isS)) := by
  have wt : w ≠ "then" := by rcases hw with rfl | rfl <;> decide
  simp only [beh, str_inj, wt, if_false]
  have rs : ∀ s ∈ c.map fun t => beh n t a, Res n s := by
    intro s hs
    obtain ⟨t, ht, rfl⟩ := List.mem_map.mp hs
    exact R t ht
  generalize (c.map fun t => beh n t a) = ss at *
  have key : ∀ (wh go : TL.D), (wh = .str "done" ∧ go = .str "failed" ∨ wh = .str "failed" ∧ go = .str "done") → (ss.any fun s => s.eqv wh) = false → (ss.filter fun s => !s.eqv go) = ss.filter fun s => !s.isS := by
    intro wh go hg ha
    refine List.filter_congr fun s hs => ?_
    have n1 : s.eqv wh = false := by
      cases e : s.eqv wh with
      | false => rfl
      | true => rw [List.any_eq_true.mpr ⟨s, hs, e⟩] at ha; cases ha
    rcases rs s hs with rfl | rfl | g
    · rcases hg with ⟨rfl, rfl⟩ | ⟨rfl, rfl⟩
      · simp [eqv_str] at n1
      · simp [eqv_str, TL.D.isS]
    · rcases hg with ⟨rfl, rfl⟩ | ⟨rfl, rfl⟩
      · simp [eqv_str, TL.D.isS]
      · simp [eqv_str] at n1
    · rcases hg with ⟨rfl, rfl⟩ | ⟨rfl, rfl⟩ <;> rw [g.eqvS, g.isS]
  rcases hw with rfl | rfl
  · simp only [show ((if ("all" : String) = "any" then TL.D.str "done" else TL.D.str "failed") = TL.D.str "failed") from by simp, show ((if ("all" : String) = "any" then TL.D.str "failed" else TL.D.str "done") = TL.D.str "done") from by simp]
    cases ha : ss.any fun s => s.eqv (.str "failed") with
    | true => exact .inl rfl
    | false =>
      simp only [Bool.false_eq_true, if_false]
      rw [key _ (.str "done") (.inr ⟨rfl, rfl⟩) ha]
      split
      · exact .inl rfl
      · next h => exact .inr ⟨h, rfl⟩
  · simp only [if_true]
    cases ha : ss.any fun s => s.eqv (.str "done") with
    | true => exact .inl rfl
    | false =>
      simp only [Bool.false_eq_true, if_false]
      rw [key _ (.str "failed") (.inl ⟨rfl, rfl⟩) ha]
      split
      · exact .inl rfl
      · next h => exact .inr ⟨h, rfl⟩
theorem chs_all : ∀ {F : TL.D → List TL.D} {ts c : List TL.D}, c ∈ chs F ts → c.length ≤ ts.length
  | F, [], c, h => by simp [chs] at h; rw [h]; simp
  | F, t :: r, c, h => by
    unfold chs at h
    rcases List.mem_append.mp h with h | h
    · exact Nat.le_succ_of_le (chs_all h)
    · obtain ⟨u, hu, h⟩ := List.mem_flatMap.mp h
      obtain ⟨c', hc, rfl⟩ := List.mem_map.mp h
      exact Nat.succ_le_succ (chs_all hc)
theorem sts_beh : ∀ {n : Nat} {d s : TL.D} {a : Str}, PyData.strOk a = true → Good n d → s ∈ sts n d → (beh n s a).isS = false → beh n s a ∈ sts n d
  | 0, _, _, _, _, h, _, _ => h.elim
  | n + 1, d, s, a, ha, h, hs, hi => by
    have gs := sts_good h hs
    rcases h with ⟨b, k, hb, hk, rfl⟩ | ⟨w, ts, hw, h0, hl, h2, hg, rfl⟩ | ⟨b, t, hb, hg, rfl⟩ | ⟨k, t, hk, hg, rfl⟩
    · unfold sts at hs ⊢
      obtain ⟨i, hi', rfl⟩ := List.mem_map.mp hs
      have := List.mem_range.mp hi'
      have eb : beh (n + 1) (.tup [.str "do", .str b, .int ((i : Int) + 1)]) a = if a = b then (if (i : Int) + 1 = 1 then .str "done" else .tup [.str "do", .str b, .int ((i : Int) + 1 - 1)]) else .tup [.str "do", .str b, .int ((i : Int) + 1)] := by
        simp only [beh]
      rw [eb] at hi ⊢
      split at hi
      · next hab =>
        rw [if_pos hab]
        split at hi
        · cases hi
        · next h1 =>
          rw [if_neg h1]
          exact List.mem_map.mpr ⟨i - 1, List.mem_range.mpr (by omega), by rw [show (((i - 1 : Nat) : Int) + 1) = (i : Int) + 1 - 1 from by omega]⟩
      · next hab =>
        rw [if_neg hab]
        exact hs
    · have IH : ∀ t ∈ ts, ∀ s ∈ sts n t, (beh n s a).isS = false → beh n s a ∈ sts n t := fun t ht s hs hi => sts_beh ha (hg t ht) hs hi
      have GS : ∀ t ∈ ts, ∀ s ∈ sts n t, Good n s := fun t ht s hs => sts_good (hg t ht) hs
      have gr : ∀ c : List TL.D, (∀ s ∈ c, Good n s) → ∀ s, s ∈ c → Res n (beh n s a) := fun c h s hs => beh_res ha (h s hs)
      by_cases ht : w = "then"
      · subst ht
        unfold sts at hs ⊢
        rw [if_neg (by have := h2 rfl; omega), if_pos rfl, List.nil_append] at hs ⊢
        obtain ⟨t, r, x, hsf, hx, rfl⟩ := suf_mem hs
        have mt : t ∈ ts := hsf.subset (List.mem_cons_self ..)
        have gx := GS t mt x hx
        match r with
        | [] =>
          have e : beh (n + 1) (grp "then" [x]) a = beh n x a := beh_succ gx
          rw [e] at hi ⊢
          exact mem_suf (w := "then") hsf (IH t mt x hx hi)
        | u :: r =>
          have e : beh (n + 1) (grp "then" (x :: u :: r)) a = if (beh n x a).eqv (.str "failed") then .str "failed" else if (beh n x a).eqv (.str "done") then grp "then" (u :: r) else grp "then" (beh n x a :: u :: r) := by
            show beh (n + 1) (.tup [.str "then", .tup (x :: u :: r)]) a = _
            simp only [beh, if_true]
          rw [e] at hi ⊢
          have sf2 : u :: r <:+ ts := (List.suffix_cons t (u :: r)).trans hsf
          rcases beh_res ha gx with eb | eb | eb
          · rw [eb]
            simp only [eqv_str, str_inj]
            simp
            exact mem_suf sf2 (sts_self (hg u (sf2.subset (List.mem_cons_self ..))))
          · rw [eb] at hi
            simp [eqv_str, TL.D.isS] at hi
          · rw [eb.eqvS, eb.eqvS]
            exact mem_suf hsf (IH t mt x hx eb.isS)
      · have hw' : w = "all" ∨ w = "any" := by rcases hw with h | h | h; exact .inl h; exact .inr h; exact (ht h).elim
        have fin : ∀ c ∈ chs (sts n) ts, ((c.map fun t => beh n t a).filter fun s => !s.isS) ≠ [] → grp w ((c.map fun t => beh n t a).filter fun s => !s.isS) ∈ sts (n + 1) (.tup [.str w, .tup ts]) := by
          intro c hc hne
          unfold sts
          rw [if_neg (show ¬ (w : Str) = "then" by simpa using ht)]
          refine List.mem_append_right _ (List.mem_map.mpr ⟨_, List.mem_filter.mpr ⟨chs_step (f := fun t => beh n t a) (p := fun s => !s.isS) hc fun t ht s hs _ hp => IH t ht s hs (by simpa using hp), ?_⟩, rfl⟩)
          cases hq : ((c.map fun t => beh n t a).filter fun s => !s.isS) with
          | nil => exact (hne hq).elim
          | cons _ _ => rfl
        unfold sts at hs
        rw [if_neg (show ¬ (w : Str) = "then" by simpa using ht)] at hs
        rcases List.mem_append.mp hs with hs | hs
        · split at hs
          · next l1 =>
            rw [List.mem_singleton.mp hs] at hi ⊢
            rcases beh_grp hw' (gr ts hg) with e | ⟨e1, e2⟩
            · rw [e] at hi; cases hi
            · rw [e2]
              exact fin ts (chs_self fun t ht => sts_self (hg t ht)) e1
          · cases hs
        · obtain ⟨c, hc, rfl⟩ := List.mem_map.mp hs
          obtain ⟨hc, hn⟩ := List.mem_filter.mp hc
          have gc : ∀ s ∈ c, Good n s := fun s hs => by
            obtain ⟨t, ht, hs⟩ := chs_mem hc s hs
            exact GS t ht s hs
          match c, hn with
          | [x], _ =>
            have e : beh (n + 1) (grp w [x]) a = beh n x a := beh_succ (gc x (List.mem_singleton.mpr rfl))
            rw [e] at hi ⊢
            have z := fin [x] hc (by simp [hi])
            simp [hi] at z
            exact z
          | x :: y :: r, _ =>
            rcases beh_grp hw' (gr _ gc) with e | ⟨e1, e2⟩
            · have e : (beh (n + 1) (grp w (x :: y :: r)) a).isS = true := e
              rw [e] at hi; cases hi
            · have e2 : beh (n + 1) (grp w (x :: y :: r)) a = _ := e2
              rw [e2]
              exact fin _ hc e1
    · have g0 := hg
      obtain ⟨ds, rfl⟩ := g0.isT
      unfold sts at hs ⊢
      obtain ⟨x, hx, rfl⟩ := List.mem_map.mp hs
      have gx := sts_good hg hx
      have e : beh (n + 1) (.tup [.str "without", .str b, x]) a = if a = b then .str "failed" else if (beh n x a).isS then beh n x a else .tup [.str "without", .str b, beh n x a] := by
        obtain ⟨xs, rfl⟩ := gx.isT
        simp only [beh]
      rw [e] at hi ⊢
      split at hi
      · cases hi
      · next hab =>
        rw [if_neg hab]
        split at hi
        · next q => rw [q] at hi; cases hi
        · next q =>
          rw [if_neg q]
          exact List.mem_map.mpr ⟨_, sts_beh ha hg hx (by simpa using q), rfl⟩
    · have g0 := hg
      obtain ⟨ds, rfl⟩ := g0.isT
      unfold sts at hs ⊢
      obtain ⟨i, hi', hs⟩ := List.mem_flatMap.mp hs
      obtain ⟨x, hx, rfl⟩ := List.mem_map.mp hs
      have := List.mem_range.mp hi'
      have e : beh (n + 1) (.tup [.str "within", .int ((i : Int) + 1), x]) a = if (beh n x a).isS then beh n x a else if (i : Int) + 1 = 1 then .str "failed" else .tup [.str "within", .int ((i : Int) + 1 - 1), beh n x a] := by
        simp only [beh]
      rw [e] at hi ⊢
      split at hi
      · next q => rw [q] at hi; cases hi
      · next q =>
        rw [if_neg q]
        split at hi
        · cases hi
        · next h1 =>
          rw [if_neg h1]
          exact List.mem_flatMap.mpr ⟨i - 1, List.mem_range.mpr (by omega), List.mem_map.mpr ⟨_, sts_beh ha hg hx (by simpa using q), by rw [show (((i - 1 : Nat) : Int) + 1) = (i : Int) + 1 - 1 from by omega]⟩⟩
theorem suf_len {F : TL.D → List TL.D} {w : Str} {L : Nat} : ∀ {ts}, (∀ t ∈ ts, (F t).length ≤ L) → (suf F w ts).length ≤ ts.length * L
  | [], _ => by simp [suf]
  | t :: r, h => by
    have ih := suf_len (F := F) (w := w) fun s hs => h s (List.mem_cons_of_mem _ hs)
    have := h t (List.mem_cons_self ..)
    unfold suf
    rw [List.length_append, List.length_map, List.length_cons, Nat.add_mul]
    omega
theorem flatm_len {L : Nat} {g : Nat → List TL.D} (h : ∀ i, (g i).length ≤ L) : ∀ k : Nat, ((List.range k).flatMap g).length ≤ k * L := by
  intro k
  rw [List.length_flatMap]
  induction k with
  | zero => simp
  | succ k ih =>
    rw [List.range_succ, List.map_append, List.sum_append, Nat.add_mul]
    have := h k
    simp
    omega
theorem sts_step {m n L : Nat} (h1' : 1 ≤ L) (hm : m ≤ L) (h3 : 9 * L + 1 ≤ (L + 1) ^ 3) (ih : ∀ d, Dr m n d → (sts n d).length ≤ L) {d : TL.D} (h : Dr m (n + 1) d) : (sts (n + 1) d).length ≤ (L + 1) ^ 3 - 1 := by
  rcases h with ⟨a, k, ha, hk, hkm, rfl⟩ | ⟨w, ts, hw, h1, hl, h2, hg, rfl⟩ | ⟨a, t, ha, hg, rfl⟩ | ⟨k, t, hk, hk9, hg, rfl⟩
  · unfold sts
    rw [List.length_map, List.length_range]
    omega
  · have ih' := fun t ht => ih t (hg t ht)
    unfold sts
    split
    · next l1 =>
      have s2 := h2
      rw [if_neg]
      · have cl := chs_len ih'
        have lt : ((chs (sts n) ts).filter fun c => !c.isEmpty).length < (chs (sts n) ts).length := List.length_filter_lt_length_iff_exists.mpr ⟨[], chs_nil _ _, by simp⟩
        rw [l1] at cl
        simp only [Nat.pow_one] at cl
        simp
        omega
      · intro e
        have := h2 (by simpa using e)
        omega
    · split
      · have := suf_len (w := w) ih'
        have : ts.length * L ≤ 3 * L := Nat.mul_le_mul_right _ hl
        simp
        omega
      · have cl := chs_len ih'
        have lt : ((chs (sts n) ts).filter fun c => !c.isEmpty).length < (chs (sts n) ts).length := List.length_filter_lt_length_iff_exists.mpr ⟨[], chs_nil _ _, by simp⟩
        have := Nat.pow_le_pow_right (n := L + 1) (by omega) hl
        simp
        omega
  · have := ih t hg
    obtain ⟨ds, rfl⟩ := hg.good.isT
    unfold sts
    rw [List.length_map]
    omega
  · have := ih t hg
    obtain ⟨ds, rfl⟩ := hg.good.isT
    unfold sts
    have z := flatm_len (g := fun (i : Nat) => (sts n (.tup ds)).map fun s => TL.D.tup [.str "within", .int ((i : Int) + 1), s]) (L := L) (fun i => by simpa using this) k.toNat
    have : k.toNat * L ≤ 9 * L := Nat.mul_le_mul_right _ (by omega)
    omega
theorem sts_len1 {d : TL.D} {m : Nat} (h : Dr m 1 d) : (sts 1 d).length ≤ m := by
  rcases h with ⟨a, k, ha, hk, hkm, rfl⟩ | ⟨w, ts, hw, h1, hl, h2, hg, rfl⟩ | ⟨a, t, ha, hg, rfl⟩ | ⟨k, t, hk, hk9, hg, rfl⟩
  · unfold sts
    rw [List.length_map, List.length_range]
    omega
  · match ts, h1 with
    | t :: r, _ => exact (hg t (List.mem_cons_self ..)).elim
  · exact hg.elim
  · exact hg.elim
theorem sts_len2 {d : TL.D} (h : Dr 2 2 d) : (sts 2 d).length ≤ 26 := sts_step (L := 2) (by decide) (by decide) (by decide) (fun _ h => sts_len1 h) h
theorem sts_len3 {d : TL.D} (h : Dr 2 3 d) : (sts 3 d).length ≤ 19682 := sts_step (L := 26) (by decide) (by decide) (by decide) (fun _ h => sts_len2 h) h

end TP

namespace TP
open TL
open PySem (Str PyData)
open L2 (atI)
inductive Hop where
  | hit | over | go (x : TL.D)
section
variable (f : TL.D → Str → Hop)
def inn (s : TL.D) (w : List Str) : List Str → List TL.D → List (TL.D × List Str) → List Str ⊕ (List TL.D × List (TL.D × List Str))
  | [], sn, mo => .inr (sn, mo)
  | a :: as, sn, mo => match f s a with
    | .hit => .inl (w ++ [a])
    | .over => inn s w as sn mo
    | .go x => if sn.any fun y => y.eqv x then inn s w as sn mo else inn s w as (sn ++ [x]) (mo ++ [(x, w ++ [a])])
def lay (as : List Str) : List (TL.D × List Str) → List TL.D → List (TL.D × List Str) → List Str ⊕ (List TL.D × List (TL.D × List Str))
  | [], sn, mo => .inr (sn, mo)
  | (s, w) :: l, sn, mo => match inn f s w as sn mo with
    | .inl r => .inl r
    | .inr (sn, mo) => lay as l sn mo
def bfs (as : List Str) : Nat → List TL.D → List (TL.D × List Str) → Option (Option (List Str))
  | 0, _, _ => none
  | _ + 1, _, [] => some none
  | n + 1, sn, e :: l => match lay f as (e :: l) sn [] with
    | .inl r => some (some r)
    | .inr (sn, mo) => bfs as n sn mo
/-- a row that hits, with its last deed -/
def Hits : TL.D → List Str → Prop
  | _, [] => False
  | s, a :: as => match f s a with
    | .hit => as = []
    | .over => False
    | .go x => Hits x as
/-- a row that leads on -/
def Lead : TL.D → List Str → TL.D → Prop
  | s, [], x => s = x
  | s, a :: as, x => ∃ y, f s a = .go y ∧ Lead y as x
end
section
variable {f : TL.D → Str → Hop}
theorem Lead.snoc : ∀ {w : List Str} {s x y : TL.D} {a : Str}, Lead f s w x → f x a = .go y → Lead f s (w ++ [a]) y
  | [], s, x, y, a, h, k => by cases h; exact ⟨y, k, rfl⟩
  | b :: w, s, x, y, a, ⟨z, h1, h2⟩, k => ⟨z, h1, h2.snoc k⟩
theorem Lead.hit : ∀ {w : List Str} {s x : TL.D} {a : Str}, Lead f s w x → f x a = .hit → Hits f s (w ++ [a])
  | [], s, x, a, h, k => by cases h; simp [Hits, k]
  | b :: w, s, x, a, ⟨z, h1, h2⟩, k => by
    simp only [List.cons_append, Hits, h1]
    exact h2.hit k
theorem Hits.split : ∀ {w : List Str} {s : TL.D}, Hits f s w → ∃ v a x, w = v ++ [a] ∧ Lead f s v x ∧ f x a = .hit
  | [], _, h => h.elim
  | b :: w, s, h => by
    unfold Hits at h
    cases e : f s b with
    | hit =>
      rw [e] at h
      cases h
      exact ⟨[], b, s, rfl, rfl, e⟩
    | over =>
      rw [e] at h
      exact h.elim
    | go y =>
      rw [e] at h
      obtain ⟨v, a, x, rfl, h1, h2⟩ := Hits.split h
      exact ⟨b :: v, a, x, rfl, ⟨y, e, h1⟩, h2⟩
/-- seen to its end -/
def Cl (f : TL.D → Str → Hop) (as : List Str) (sn : List TL.D) (s : TL.D) : Prop := ∀ a ∈ as, f s a ≠ .hit ∧ ∀ x, f s a = .go x → x ∈ sn
theorem Cl.mono {as : List Str} {sn sn' : List TL.D} {s : TL.D} (h : Cl f as sn s) (k : ∀ x ∈ sn, x ∈ sn') : Cl f as sn' s := fun a ha => ⟨(h a ha).1, fun x e => k x ((h a ha).2 x e)⟩
/-- where it goes -/
structure Room (f : TL.D → Str → Hop) (as : List Str) (X : List TL.D) : Prop where
  go : ∀ s ∈ X, ∀ a ∈ as, ∀ x, f s a = .go x → x ∈ X
  eq : ∀ x ∈ X, ∀ y ∈ X, x.eqv y = true ↔ x = y
structure Snd (X : List TL.D) (sn : List TL.D) : Prop where
  sub : ∀ s ∈ sn, s ∈ X
  nd : sn.Nodup
theorem nd_len {α : Type} : ∀ {l m : List α}, l.Nodup → (∀ x ∈ l, x ∈ m) → l.length ≤ m.length
  | [], _, _, _ => Nat.zero_le _
  | x :: l, m, h, k => by
    obtain ⟨h1, h2⟩ := List.nodup_cons.mp h
    obtain ⟨p, q, rfl⟩ := List.append_of_mem (k x (List.mem_cons_self ..))
    have := nd_len (m := p ++ q) h2 fun y hy => by
      have := k y (List.mem_cons_of_mem _ hy)
      rcases List.mem_append.mp this with h | h
      · exact List.mem_append_left _ h
      · rcases List.mem_cons.mp h with rfl | h
        · exact (h1 hy).elim
        · exact List.mem_append_right _ h
    simp at this ⊢
    omega
theorem Snd.len {X sn : List TL.D} (h : Snd X sn) : sn.length ≤ X.length := nd_len h.nd h.sub
/-- what a piece of the way keeps -/
structure Kp (f : TL.D → Str → Hop) (as : List Str) (s0 : TL.D) (k : Nat) (mo : List (TL.D × List Str)) (sn : List TL.D) : Prop where
  mem : ∀ e ∈ mo, e.1 ∈ sn ∧ Lead f s0 e.2 e.1 ∧ e.2.length = k ∧ ∀ a ∈ e.2, a ∈ as
theorem any_in {as : List Str} {X sn : List TL.D} {x : TL.D} (R : Room f as X) (hx : x ∈ X) (m : x ∈ sn) : (sn.any fun y => y.eqv x) = true := List.any_eq_true.mpr ⟨x, m, (R.eq x hx x hx).mpr rfl⟩
theorem any_out {as : List Str} {X sn : List TL.D} {x : TL.D} (R : Room f as X) (h : Snd X sn) (hx : x ∈ X) (m : x ∉ sn) : (sn.any fun y => y.eqv x) = false := by
  refine Bool.eq_false_iff.mpr fun e => ?_
  obtain ⟨y, hy, ey⟩ := List.any_eq_true.mp e
  exact m ((R.eq y (h.sub y hy) x hx).mp ey ▸ hy)
theorem Snd.snoc {X sn : List TL.D} {x : TL.D} (h : Snd X sn) (hx : x ∈ X) (n : x ∉ sn) : Snd X (sn ++ [x]) := by
  refine ⟨fun s hs => ?_, ?_⟩
  · rcases List.mem_append.mp hs with hs | hs
    · exact h.sub s hs
    · rw [List.mem_singleton.mp hs]; exact hx
  · refine List.nodup_append.mpr ⟨h.nd, by simp, fun a ha b hb e => ?_⟩
    rw [List.mem_singleton.mp hb] at e
    exact n (e ▸ ha)
theorem inn_spec {as : List Str} {X : List TL.D} {s0 s : TL.D} {w : List Str} {k : Nat} (R : Room f as X) (hs : s ∈ X) (hl : Lead f s0 w s) (hk : w.length = k) (hw : ∀ a ∈ w, a ∈ as) : ∀ (bs : List Str) (sn : List TL.D) (mo : List (TL.D × List Str)), (∀ b ∈ bs, b ∈ as) → Snd X sn → Kp f as s0 (k + 1) mo sn →
    match inn f s w bs sn mo with
    | .inl r => Hits f s0 r ∧ r.length = k + 1 ∧ ∀ a ∈ r, a ∈ as
    | .inr (sn', mo') => Snd X sn' ∧ Kp f as s0 (k + 1) mo' sn' ∧ (∀ x ∈ sn, x ∈ sn') ∧ (∀ x ∈ sn', x ∈ sn ∨ x ∈ mo'.map (·.1)) ∧ (∀ e ∈ mo, e ∈ mo') ∧ sn'.length + mo.length = sn.length + mo'.length ∧ ∀ b ∈ bs, f s b ≠ .hit ∧ ∀ x, f s b = .go x → x ∈ sn'
  | [], sn, mo, _, hsn, hmo => ⟨hsn, hmo, fun _ h => h, fun _ h => .inl h, fun _ h => h, rfl, fun _ h => nomatch h⟩
  | b :: bs, sn, mo, hb, hsn, hmo => by
    have hb0 := hb b (List.mem_cons_self ..)
    have hb' := fun c hc => hb c (List.mem_cons_of_mem _ hc)
    unfold inn
    cases e : f s b with
    | hit =>
      refine ⟨hl.hit e, by simp [hk], fun a ha => ?_⟩
      rcases List.mem_append.mp ha with ha | ha
      · exact hw a ha
      · rw [List.mem_singleton.mp ha]; exact hb0
    | over =>
      have ih := inn_spec R hs hl hk hw bs sn mo hb' hsn hmo
      simp only
      cases hi : inn f s w bs sn mo with
      | inl r => rw [hi] at ih; exact ih
      | inr p =>
        obtain ⟨sn', mo'⟩ := p
        rw [hi] at ih
        obtain ⟨i1, i2, i3, i4, i5, i6, i7⟩ := ih
        refine ⟨i1, i2, i3, i4, i5, i6, fun c hc => ?_⟩
        rcases List.mem_cons.mp hc with rfl | hc
        · rw [e]
          exact ⟨Hop.noConfusion, fun x h => Hop.noConfusion h⟩
        · exact i7 c hc
    | go x =>
      have hx := R.go s hs b hb0 x e
      by_cases m : x ∈ sn
      · have ih := inn_spec R hs hl hk hw bs sn mo hb' hsn hmo
        simp only [any_in R hx m, if_true]
        cases hi : inn f s w bs sn mo with
        | inl r => rw [hi] at ih; exact ih
        | inr p =>
          obtain ⟨sn', mo'⟩ := p
          rw [hi] at ih
          obtain ⟨i1, i2, i3, i4, i5, i6, i7⟩ := ih
          refine ⟨i1, i2, i3, i4, i5, i6, fun c hc => ?_⟩
          rcases List.mem_cons.mp hc with rfl | hc
          · rw [e]
            exact ⟨Hop.noConfusion, fun y h => by cases h; exact i3 _ m⟩
          · exact i7 c hc
      · have k2 : Kp f as s0 (k + 1) (mo ++ [(x, w ++ [b])]) (sn ++ [x]) := by
          refine ⟨fun d hd => ?_⟩
          rcases List.mem_append.mp hd with hd | hd
          · obtain ⟨a1, a2⟩ := hmo.mem d hd
            exact ⟨List.mem_append_left _ a1, a2⟩
          · rw [List.mem_singleton.mp hd]
            refine ⟨List.mem_append_right _ (List.mem_singleton.mpr rfl), hl.snoc e, by simp [hk], fun a ha => ?_⟩
            rcases List.mem_append.mp ha with ha | ha
            · exact hw a ha
            · rw [List.mem_singleton.mp ha]; exact hb0
        have ih := inn_spec R hs hl hk hw bs _ _ hb' (hsn.snoc hx m) k2
        simp only [any_out R hsn hx m, Bool.false_eq_true, if_false]
        cases hi : inn f s w bs (sn ++ [x]) (mo ++ [(x, w ++ [b])]) with
        | inl r => rw [hi] at ih; exact ih
        | inr p =>
          obtain ⟨sn', mo'⟩ := p
          rw [hi] at ih
          obtain ⟨i1, i2, i3, i4, i5, i6, i7⟩ := ih
          refine ⟨i1, i2, fun y hy => i3 y (List.mem_append_left _ hy), fun y hy => ?_, fun d hd => i5 d (List.mem_append_left _ hd), ?_, fun c hc => ?_⟩
          · rcases i4 y hy with h | h
            · rcases List.mem_append.mp h with h | h
              · exact .inl h
              · rw [List.mem_singleton.mp h]
                exact .inr (List.mem_map.mpr ⟨_, i5 (x, w ++ [b]) (List.mem_append_right _ (List.mem_singleton.mpr rfl)), rfl⟩)
            · exact .inr h
          · simp at i6
            omega
          · rcases List.mem_cons.mp hc with rfl | hc
            · rw [e]
              exact ⟨Hop.noConfusion, fun y h => by cases h; exact i3 _ (List.mem_append_right _ (List.mem_singleton.mpr rfl))⟩
            · exact i7 c hc
theorem lay_spec {as : List Str} {X : List TL.D} {s0 : TL.D} {k : Nat} (R : Room f as X) : ∀ (l : List (TL.D × List Str)) (sn : List TL.D) (mo : List (TL.D × List Str)), Kp f as s0 k l sn → Snd X sn → Kp f as s0 (k + 1) mo sn →
    match lay f as l sn mo with
    | .inl r => Hits f s0 r ∧ r.length = k + 1 ∧ ∀ a ∈ r, a ∈ as
    | .inr (sn', mo') => Snd X sn' ∧ Kp f as s0 (k + 1) mo' sn' ∧ (∀ x ∈ sn, x ∈ sn') ∧ (∀ x ∈ sn', x ∈ sn ∨ x ∈ mo'.map (·.1)) ∧ (∀ e ∈ mo, e ∈ mo') ∧ sn'.length + mo.length = sn.length + mo'.length ∧ ∀ e ∈ l, Cl f as sn' e.1
  | [], sn, mo, _, hsn, hmo => ⟨hsn, hmo, fun _ h => h, fun _ h => .inl h, fun _ h => h, rfl, fun _ h => nomatch h⟩
  | (s, w) :: l, sn, mo, hl, hsn, hmo => by
    obtain ⟨h1, h2, h3, h4⟩ := hl.mem _ (List.mem_cons_self ..)
    have i := inn_spec R (hsn.sub s h1) h2 h3 h4 as sn mo (fun _ h => h) hsn hmo
    unfold lay
    cases hi : inn f s w as sn mo with
    | inl r => rw [hi] at i; exact i
    | inr p =>
      obtain ⟨sn1, mo1⟩ := p
      rw [hi] at i
      obtain ⟨i1, i2, i3, i4, i5, i6, i7⟩ := i
      have ih := lay_spec R l sn1 mo1 ⟨fun e he => by obtain ⟨a, b⟩ := hl.mem e (List.mem_cons_of_mem _ he); exact ⟨i3 _ a, b⟩⟩ i1 i2
      simp only
      cases hj : lay f as l sn1 mo1 with
      | inl r => rw [hj] at ih; exact ih
      | inr p =>
        obtain ⟨sn2, mo2⟩ := p
        rw [hj] at ih
        obtain ⟨j1, j2, j3, j4, j5, j6, j7⟩ := ih
        refine ⟨j1, j2, fun x hx => j3 x (i3 x hx), fun x hx => ?_, fun e he => j5 e (i5 e he), by omega, fun e he => ?_⟩
        · rcases j4 x hx with h | h
          · rcases i4 x h with h | h
            · exact .inl h
            · obtain ⟨d, hd, rfl⟩ := List.mem_map.mp h
              exact .inr (List.mem_map.mpr ⟨d, j5 d hd, rfl⟩)
          · exact .inr h
        · rcases List.mem_cons.mp he with rfl | he
          · exact fun a ha => ⟨(i7 a ha).1, fun x hx => j3 x ((i7 a ha).2 x hx)⟩
          · exact j7 e he
/-- the whole: at layer k -/
structure Lyr (f : TL.D → Str → Hop) (as : List Str) (X : List TL.D) (s0 : TL.D) (k : Nat) (sn : List TL.D) (l : List (TL.D × List Str)) : Prop where
  snd : Snd X sn
  kp : Kp f as s0 k l sn
  st : s0 ∈ sn
  cl : ∀ s ∈ sn, Cl f as sn s ∨ s ∈ l.map (·.1)
  ld : ∀ w x, Lead f s0 w x → w.length ≤ k → (∀ a ∈ w, a ∈ as) → x ∈ sn
  nh : ∀ w, Hits f s0 w → w.length ≤ k → ¬ ∀ a ∈ w, a ∈ as
  kl : l ≠ [] → k < sn.length
theorem Lyr.first {as : List Str} {X : List TL.D} {s0 : TL.D} (h : s0 ∈ X) : Lyr f as X s0 0 [s0] [(s0, [])] := by
  refine ⟨⟨fun s hs => by rw [List.mem_singleton.mp hs]; exact h, by simp⟩, ⟨fun e he => ?_⟩, by simp, fun s hs => .inr (by simpa using hs), fun w x hl hw _ => ?_, fun w hh hw _ => ?_, fun _ => by simp⟩
  · rw [List.mem_singleton.mp he]
    exact ⟨by simp, rfl, rfl, fun _ h => nomatch h⟩
  · rw [List.length_eq_zero_iff.mp (Nat.le_zero.mp hw)] at hl
    cases hl
    simp
  · rw [List.length_eq_zero_iff.mp (Nat.le_zero.mp hw)] at hh
    exact hh
theorem lead_split : ∀ {w : List Str} {s x : TL.D} {a : Str}, Lead f s (w ++ [a]) x → ∃ y, Lead f s w y ∧ f y a = .go x
  | [], s, x, a, ⟨y, h1, h2⟩ => by cases h2; exact ⟨s, rfl, h1⟩
  | b :: w, s, x, a, ⟨y, h1, h2⟩ => by
    obtain ⟨z, k1, k2⟩ := lead_split h2
    exact ⟨z, ⟨y, h1, k1⟩, k2⟩
theorem Lyr.next {as : List Str} {X : List TL.D} {s0 : TL.D} {k : Nat} {sn : List TL.D} {l : List (TL.D × List Str)} (R : Room f as X) (L : Lyr f as X s0 k sn l) (hl : l ≠ []) :
    match lay f as l sn [] with
    | .inl r => Hits f s0 r ∧ r.length = k + 1 ∧ ∀ a ∈ r, a ∈ as
    | .inr (sn', mo') => Lyr f as X s0 (k + 1) sn' mo' ∧ sn'.length = sn.length + mo'.length := by
  have z := lay_spec R l sn [] L.kp L.snd ⟨fun _ h => nomatch h⟩
  cases hj : lay f as l sn [] with
  | inl r => rw [hj] at z; exact z
  | inr p =>
    obtain ⟨sn', mo'⟩ := p
    rw [hj] at z
    obtain ⟨j1, j2, j3, j4, j5, j6, j7⟩ := z
    have cl : ∀ s ∈ sn, Cl f as sn' s := fun s hs => by
      rcases L.cl s hs with h | h
      · exact h.mono j3
      · obtain ⟨e, he, rfl⟩ := List.mem_map.mp h
        exact j7 e he
    have ap : ∀ {w : List Str} {n : Nat}, w.length = n + 1 → ∃ v a, w = v ++ [a] ∧ v.length = n := by
      intro w n h
      have h0 : w ≠ [] := by rintro rfl; simp at h
      exact ⟨w.dropLast, w.getLast h0, (List.dropLast_concat_getLast h0).symm, by simp [h]⟩
    refine ⟨⟨j1, j2, j3 _ L.st, fun s hs => ?_, fun w x hw hlen ha => ?_, fun w hw hlen ha => ?_, fun hm => ?_⟩, by simp at j6; omega⟩
    · rcases j4 s hs with h | h
      · exact .inl (cl s h)
      · exact .inr h
    · by_cases hk : w.length ≤ k
      · exact j3 _ (L.ld w x hw hk ha)
      · obtain ⟨v, a, rfl, hv⟩ := ap (show w.length = k + 1 by omega)
        obtain ⟨y, h1, h2⟩ := lead_split hw
        have my := L.ld v y h1 (by omega) fun b hb => ha b (List.mem_append_left _ hb)
        exact (cl y my a (ha a (List.mem_append_right _ (List.mem_singleton.mpr rfl)))).2 x h2
    · by_cases hk : w.length ≤ k
      · exact L.nh w hw hk ha
      · obtain ⟨v, a, y, rfl, h1, h2⟩ := hw.split
        have my := L.ld v y h1 (by simp at hlen; omega) fun b hb => ha b (List.mem_append_left _ hb)
        exact (cl y my a (ha a (List.mem_append_right _ (List.mem_singleton.mpr rfl)))).1 h2
    · have := L.kl hl
      have : mo'.length ≠ 0 := fun e => hm (List.length_eq_zero_iff.mp e)
      simp at j6
      omega
/-- what is found: a least one, or none at all -/
def Fnd (f : TL.D → Str → Hop) (as : List Str) (s0 : TL.D) : Option (List Str) → Prop
  | some r => Hits f s0 r ∧ (∀ a ∈ r, a ∈ as) ∧ ∀ w, Hits f s0 w → (∀ a ∈ w, a ∈ as) → r.length ≤ w.length
  | none => ∀ w, (∀ a ∈ w, a ∈ as) → ¬ Hits f s0 w
theorem bfs_spec {as : List Str} {X : List TL.D} {s0 : TL.D} (R : Room f as X) : ∀ (n k : Nat) (sn : List TL.D) (l : List (TL.D × List Str)), Lyr f as X s0 k sn l → X.length + 1 ≤ n + sn.length ∧ 1 ≤ n ∧ (l ≠ [] → X.length + 2 ≤ n + sn.length) → ∃ r, bfs f as n sn l = some r ∧ Fnd f as s0 r
  | 0, _, _, _, _, h => by omega
  | n + 1, k, sn, [], L, _ => by
    refine ⟨none, rfl, fun w hw hh => ?_⟩
    have all : ∀ (w : List Str) (x : TL.D), (∀ a ∈ w, a ∈ as) → ∀ s ∈ sn, Lead f s w x → x ∈ sn := by
      intro w
      induction w with
      | nil => intro x _ s hs h; cases h; exact hs
      | cons a w ih =>
        intro x ha s hs ⟨y, h1, h2⟩
        rcases L.cl s hs with c | c
        · exact ih x (fun b hb => ha b (List.mem_cons_of_mem _ hb)) y ((c a (ha a (List.mem_cons_self ..))).2 y h1) h2
        · simp at c
    obtain ⟨v, a, x, rfl, h1, h2⟩ := hh.split
    have mx := all v x (fun b hb => hw b (List.mem_append_left _ hb)) s0 L.st h1
    rcases L.cl x mx with c | c
    · exact (c a (hw a (List.mem_append_right _ (List.mem_singleton.mpr rfl)))).1 h2
    · simp at c
  | n + 1, k, sn, e :: l, L, h => by
    have z := L.next R (by simp)
    unfold bfs
    cases hj : lay f as (e :: l) sn [] with
    | inl r =>
      rw [hj] at z
      obtain ⟨z1, z2, z3⟩ := z
      refine ⟨some r, rfl, z1, z3, fun w hw ha => ?_⟩
      rw [z2]
      refine Nat.lt_of_not_le fun hk => L.nh w hw hk ha
    | inr p =>
      obtain ⟨sn', mo'⟩ := p
      rw [hj] at z
      obtain ⟨z1, z2⟩ := z
      have h3 := h.2.2 (by simp)
      have := L.snd.len
      refine bfs_spec R n (k + 1) sn' mo' z1 ⟨by omega, by omega, fun hm => ?_⟩
      have : mo'.length ≠ 0 := fun e => hm (List.length_eq_zero_iff.mp e)
      omega
theorem bfs_len {as : List Str} {X : List TL.D} {s0 : TL.D} (R : Room f as X) : ∀ (n k : Nat) (sn : List TL.D) (l : List (TL.D × List Str)) (q : List Str), Lyr f as X s0 k sn l → bfs f as n sn l = some (some q) → q.length ≤ X.length
  | 0, _, _, _, _, _, h => by cases h
  | n + 1, k, sn, [], q, L, h => by
    unfold bfs at h
    cases h
  | n + 1, k, sn, e :: l, q, L, h => by
    have z := L.next R (by simp)
    have kl := L.kl (by simp)
    have xl := L.snd.len
    unfold bfs at h
    cases hj : lay f as (e :: l) sn [] with
    | inl r =>
      rw [hj] at z h
      cases h
      have := z.2.1
      omega
    | inr p =>
      obtain ⟨sn', mo'⟩ := p
      rw [hj] at z h
      exact bfs_len R n (k + 1) sn' mo' q z.1 h
theorem Fnd.len {as : List Str} {X : List TL.D} {s0 : TL.D} {q : List Str} (R : Room f as X) (hs : s0 ∈ X) (h : Fnd f as s0 (some q)) : q.length ≤ X.length := by
  obtain ⟨r, e, k⟩ := bfs_spec R (X.length + 2) 0 [s0] [(s0, [])] (Lyr.first hs) ⟨by simp, by omega, fun _ => by simp⟩
  cases r with
  | none => exact (k q h.2.1 h.1).elim
  | some p =>
    have := bfs_len R _ 0 _ _ p (Lyr.first hs) e
    have := h.2.2 p k.1 k.2.1
    omega
/-- two ways of finding the same -/
theorem Fnd.same {as : List Str} {s0 : TL.D} {x y : Option (List Str)} (h : Fnd f as s0 x) (k : Fnd f as s0 y) : x.map (·.length) = y.map (·.length) := by
  cases x with
  | none => cases y with
    | none => rfl
    | some r => exact (h r k.2.1 k.1).elim
  | some q => cases y with
    | none => exact (k q h.2.1 h.1).elim
    | some r => exact congrArg some (Nat.le_antisymm (h.2.2 r k.1 k.2.1) (k.2.2 q h.1 h.2.1))
end
theorem whileE_t {C : Cal} {c : E} {body : List S} {n : Nat} {ρ : TL.Env} {st : Sto} (h : ev C c ρ st = .ok (.bl true) st) : whileE C c body (n + 1) ρ st = (execs C body ρ st).seq (whileE C c body n) := by
  show whileGo _ _ (n + 1) _ _ = _
  unfold whileGo
  simp only [h]
  rfl
theorem whileE_f {C : Cal} {c : E} {body : List S} {n : Nat} {ρ : TL.Env} {st : Sto} (h : ev C c ρ st = .ok (.bl false) st) : whileE C c body (n + 1) ρ st = .nx ρ st := by
  show whileGo _ _ (n + 1) _ _ = _
  unfold whileGo
  simp only [h]
  rfl
theorem execs_app {C : Cal} : ∀ (a b : List S) (ρ : TL.Env) (st : Sto), execs C (a ++ b) ρ st = (execs C a ρ st).seq (execs C b)
  | [], b, ρ, st => by simp
  | s :: a, b, ρ, st => by
    rw [List.cons_append, ex1, ex1]
    cases h : exec C s ρ st with
    | nx ρ2 st2 =>
      simp only [seq_nx]
      exact execs_app a b ρ2 st2
    | rt d st2 => rfl
    | ex c ρ2 st2 => rfl
    | fail => rfl

end TP

namespace TP
open TL
open PySem (Str PyData)
open L2 (atI)
theorem w_is_over {N : Nat} (hN : 1 ≤ N) {n : Nat} {d : TL.D} (h : Res n d) (st : Sto) : TL.run Pg N 8 [d] st = .ok (.bl d.isS) st := by
  obtain ⟨N, rfl⟩ : ∃ M, N = M + 1 := ⟨N - 1, by omega⟩
  rw [run_c (F := c_is_over) rfl rfl]
  rcases h with rfl | rfl | h
  · simp [c_is_over, enter, TL.D.isS]
  · simp [c_is_over, enter, TL.D.isS]
  · obtain ⟨ds, rfl⟩ := h.isT
    simp [c_is_over, enter, TL.D.isS]
theorem w_grouped {N : Nat} (hN : 1 ≤ N) (w : Str) {ds : List TL.D} (h0 : ds ≠ []) (h : ∀ d ∈ ds, d.own = false) (st : Sto) : TL.run Pg N 9 [.str w, .lst ds] st = .ok (grp w ds) st := by
  obtain ⟨N, rfl⟩ : ∃ M, N = M + 1 := ⟨N - 1, by omega⟩
  rw [run_c (F := c_grouped) rfl rfl]
  match ds, h0 with
  | [d], _ =>
    have := h d (List.mem_singleton.mpr rfl)
    simp [c_grouped, enter, grp, this]
  | a :: b :: r, _ =>
    have : ¬ ((r.length : Int) + 1 + 1 = 1) := by omega
    simp [c_grouped, enter, grp, this]
theorem dEqD {n : Nat} {d : TL.D} {x : Str} (h : Res n d) (hn : 2 * n ≤ 64) (hx : PyData.strOk x = true) : dEq d (.str x) = some (.bl (d.eqv (.str x))) := dEq_ok h.ok (okD_str 0 hx) hn (by decide)
theorem dNeD {n : Nat} {d : TL.D} {x : Str} (h : Res n d) (hn : 2 * n ≤ 64) (hx : PyData.strOk x = true) : dNe d (.str x) = some (.bl (!d.eqv (.str x))) := dNe_ok h.ok (okD_str 0 hx) hn (by decide)
theorem w_group_behind {N n : Nat} (hN : 1 ≤ N) {w : String} {ts : List TL.D} {a : Str} (hw : w = "all" ∨ w = "any") (hn : 2 * n + 1 ≤ 64) {st : Sto} (G : ∀ t ∈ ts, Good n t) (H : ∀ t ∈ ts, TL.run Pg N 12 [t, .str a] st = .ok (beh n t a) st) (R : ∀ t ∈ ts, Res n (beh n t a)) :
    TL.run Pg (N + 1) 10 [.tup [.str w, .tup ts], .str a] st = .ok (beh (n + 1) (.tup [.str w, .tup ts]) a) st := by
  rw [run_c (F := c_group_behind) rfl rfl]
  have wt : w ≠ "then" := by rcases hw with rfl | rfl <;> decide
  have rs : ∀ s ∈ ts.map fun t => beh n t a, Res n s := by
    intro s hs
    obtain ⟨t, ht, rfl⟩ := List.mem_map.mp hs
    exact R t ht
  rcases hw with rfl | rfl
  · -- all
    simp [c_group_behind, enter, dEqs, bindT, setAll]
    rw [lcE_all (g := fun t => beh n t a) (fun t ht => ⟨_, by simp [bindT, wipeE, (G t ht).ok.own]; rfl, by simp, by simp [(G t ht).ok.own, H t ht], (R t ht).ok.own⟩)]
    simp only [beh, str_inj, wt, if_false, if_true]
    generalize (ts.map fun t => beh n t a) = ss at *
    have i := inL (x := "failed") (strOk_of _) (by omega) fun d hd => (rs d hd).ok
    have eb : ∃ b, (ss.any fun d => d.eqv (.str "failed")) = b := ⟨_, rfl⟩
    obtain ⟨b, hb⟩ := eb
    try simp only [show ((if ("all" : String) = "any" then TL.D.str "done" else TL.D.str "failed") = TL.D.str "failed") from by simp, show ((if ("all" : String) = "any" then TL.D.str "failed" else TL.D.str "done") = TL.D.str "done") from by simp]
    obtain ⟨ff, hff⟩ : ∃ ff, (ss.filter fun s => !s.eqv (.str "done")) = ff := ⟨_, rfl⟩
    have ro : ∀ s ∈ ff, s.own = false := by
      rw [← hff]
      exact fun s hs => (rs s (List.mem_filter.mp hs).1).ok.own
    rw [hb] at i ⊢
    rw [hff]
    cases b with
    | true => simp [i]
    | false =>
      simp [i]
      have dn := fun s hs => dNeD (x := "done") (rs s hs) (by omega) (strOk_of _)
      rw [lcE_map (p := fun s => !s.eqv (.str "done")) (g := id) (fun s hs => ⟨_, by simp [bindT, wipeE, (rs s hs).ok.own]; rfl, by simp [(rs s hs).ok.own, dn s hs], fun _ => ⟨by simp [(rs s hs).ok.own], (rs s hs).ok.own⟩⟩)]
      simp only [List.map_id, hff]
      by_cases h0 : ff = []
      · subst h0
        simp
      · have g := w_grouped hN (Str.ofString "all") h0 ro st
        have go : (grp (Str.ofString "all") ff).own = false := by
          match ff, h0 with
          | [d], _ => exact ro d (List.mem_singleton.mpr rfl)
          | _ :: _ :: _, _ => rfl
        have l0 : ¬ ff.length = 0 := fun e => h0 (List.length_eq_zero_iff.mp e)
        simp [g, go, h0, l0]
  · -- any
    simp [c_group_behind, enter, dEqs, bindT, setAll]
    rw [lcE_all (g := fun t => beh n t a) (fun t ht => ⟨_, by simp [bindT, wipeE, (G t ht).ok.own]; rfl, by simp, by simp [(G t ht).ok.own, H t ht], (R t ht).ok.own⟩)]
    simp only [beh, str_inj, wt, if_false, if_true]
    generalize (ts.map fun t => beh n t a) = ss at *
    have i := inL (x := "done") (strOk_of _) (by omega) fun d hd => (rs d hd).ok
    have eb : ∃ b, (ss.any fun d => d.eqv (.str "done")) = b := ⟨_, rfl⟩
    obtain ⟨b, hb⟩ := eb
    try simp only [show ((if ("any" : String) = "any" then TL.D.str "done" else TL.D.str "failed") = TL.D.str "done") from by simp, show ((if ("any" : String) = "any" then TL.D.str "failed" else TL.D.str "done") = TL.D.str "failed") from by simp]
    obtain ⟨ff, hff⟩ : ∃ ff, (ss.filter fun s => !s.eqv (.str "failed")) = ff := ⟨_, rfl⟩
    have ro : ∀ s ∈ ff, s.own = false := by
      rw [← hff]
      exact fun s hs => (rs s (List.mem_filter.mp hs).1).ok.own
    rw [hb] at i ⊢
    rw [hff]
    cases b with
    | true => simp [i]
    | false =>
      simp [i]
      have dn := fun s hs => dNeD (x := "failed") (rs s hs) (by omega) (strOk_of _)
      rw [lcE_map (p := fun s => !s.eqv (.str "failed")) (g := id) (fun s hs => ⟨_, by simp [bindT, wipeE, (rs s hs).ok.own]; rfl, by simp [(rs s hs).ok.own, dn s hs], fun _ => ⟨by simp [(rs s hs).ok.own], (rs s hs).ok.own⟩⟩)]
      simp only [List.map_id, hff]
      by_cases h0 : ff = []
      · subst h0
        simp
      · have g := w_grouped hN (Str.ofString "any") h0 ro st
        have go : (grp (Str.ofString "any") ff).own = false := by
          match ff, h0 with
          | [d], _ => exact ro d (List.mem_singleton.mpr rfl)
          | _ :: _ :: _, _ => rfl
        have l0 : ¬ ff.length = 0 := fun e => h0 (List.length_eq_zero_iff.mp e)
        simp [g, go, h0, l0]

theorem w_then_behind {N n : Nat} (hN : 1 ≤ N) {ts : List TL.D} {a : Str} (hl : ts.length ≤ 1000) (h2 : 2 ≤ ts.length) (hn : 2 * n + 1 ≤ 64) {st : Sto} (G : ∀ t ∈ ts, Good n t) (H : ∀ t ∈ ts, TL.run Pg N 12 [t, .str a] st = .ok (beh n t a) st) (R : ∀ t ∈ ts, Res n (beh n t a)) :
    TL.run Pg (N + 1) 11 [.tup [.str "then", .tup ts], .str a] st = .ok (beh (n + 1) (.tup [.str "then", .tup ts]) a) st := by
  rw [run_c (F := c_then_behind) rfl rfl]
  match ts, h2 with
  | t :: u :: r, _ =>
    have Ht := H t (List.mem_cons_self ..)
    have Rt := R t (List.mem_cons_self ..)
    have gr : ∀ d ∈ u :: r, Good n d := fun d hd => G d (List.mem_cons_of_mem _ hd)
    have e1 := dEqD (x := "failed") Rt (by omega) (strOk_of _)
    have e2 := dNeD (x := "done") Rt (by omega) (strOk_of _)
    have g1 := w_grouped hN "then" (ds := u :: r) (by simp) (fun d hd => (gr d hd).ok.own) st
    have g2 := w_grouped hN "then" (ds := beh n t a :: u :: r) (by simp) (fun d hd => by rcases List.mem_cons.mp hd with rfl | hd; exact Rt.ok.own; exact (gr d hd).ok.own) st
    have o1 : (grp "then" (u :: r)).own = false := by
      cases r with
      | nil => exact (gr u (List.mem_cons_self ..)).ok.own
      | cons _ _ => rfl
    have ad := oAddl (a := [beh n t a]) (b := u :: r) (by simp at hl ⊢; omega)
    have l0 : ¬ ((r.length : Int) + 1 = 0) := by omega
    have ro := Rt.ok.own
    simp [c_then_behind, enter, Ht, ro, e1, e2, beh]
    by_cases f : (beh n t a).eqv (.str "failed") = true
    · simp [f]
    · simp only [Bool.not_eq_true] at f
      by_cases g : (beh n t a).eqv (.str "done") = true
      · simp [f, g, g1, l0, o1]
      · simp only [Bool.not_eq_true] at g
        simp at ad
        simp [f, g, g2, ad, ro]
        simp [grp]
theorem w_behind : ∀ (n N : Nat) {d : TL.D} {a : Str} (st : Sto), n ≤ 30 → 2 * n + 1 ≤ N → PyData.strOk a = true → Good n d → TL.run Pg N 12 [d, .str a] st = .ok (beh n d a) st
  | 0, _, _, _, _, _, _, _, h => h.elim
  | n + 1, N, d, a, st, h30, hN, ha, h => by
    obtain ⟨N, rfl⟩ : ∃ M, N = M + 1 := ⟨N - 1, by omega⟩
    have hr := beh_res ha h
    rw [run_c (F := c_behind) rfl rfl]
    have aa := inT (x := "all") ["all", "any"] (strOk_of _)
    have an := inT (x := "any") ["all", "any"] (strOk_of _)
    have ath := inT (x := "then") ["all", "any"] (strOk_of _)
    have aw := inT (x := "without") ["all", "any"] (strOk_of _)
    have ai := inT (x := "within") ["all", "any"] (strOk_of _)
    simp at aa an ath aw ai
    rcases h with ⟨b, k, hb, hk, rfl⟩ | ⟨w, ts, hw, h0, hl, h2, hg, rfl⟩ | ⟨b, t, hb, hg, rfl⟩ | ⟨k, t, hk, hg, rfl⟩
    · simp [c_behind, enter, dEqs, dNes, ha, hb.1, beh]
      (repeat' split) <;> simp_all
    · have H : ∀ M, 2 * n + 1 ≤ M → ∀ t ∈ ts, TL.run Pg M 12 [t, .str a] st = .ok (beh n t a) st := fun M hM t ht => w_behind n M st (by omega) hM ha (hg t ht)
      obtain ⟨N, rfl⟩ : ∃ M, N = M + 1 := ⟨N - 1, by omega⟩
      by_cases ht : w = "then"
      · subst ht
        have g := w_then_behind (N := N) (by omega) hl (h2 rfl) (by omega) hg (H N (by omega)) fun t ht => beh_res ha (hg t ht)
        have ro := hr.ok.own
        simp [c_behind, enter, dEqs, ath, g, ro]
      · have hw' : w = "all" ∨ w = "any" := by rcases hw with h | h | h; exact .inl h; exact .inr h; exact (ht h).elim
        have g := w_group_behind (N := N) (by omega) hw' (by omega) hg (H N (by omega)) fun t ht => beh_res ha (hg t ht)
        have ro := hr.ok.own
        rcases hw' with rfl | rfl
        · simp [c_behind, enter, dEqs, aa, g, ro]
        · simp [c_behind, enter, dEqs, an, g, ro]
    · have ih := w_behind n N (d := t) (a := a) st (by omega) (by omega) ha hg
      have io := w_is_over (N := N) (by omega) (beh_res ha hg) st
      have ro := (beh_res ha hg).ok.own
      obtain ⟨ds, rfl⟩ := hg.isT
      simp [c_behind, enter, dEqs, dNes, ha, hb.1, beh, aw, ih, io, ro]
      (repeat' split) <;> simp_all
    · have ih := w_behind n N (d := t) (a := a) st (by omega) (by omega) ha hg
      have io := w_is_over (N := N) (by omega) (beh_res ha hg) st
      have ro := (beh_res ha hg).ok.own
      have rk : dEq (.int k) (.int 1) = some (.bl (decide (k = 1))) := dEqi
      simp [c_behind, enter, dEqs, dNes, ha, beh, ai, ih, io, ro]
      (repeat' split) <;> simp_all

end TP

namespace TP
open TL
open PySem (Str PyData)
open L2 (atI)
def named : Nat → TL.D → List Str
  | 0, _ => []
  | n + 1, .tup [.str _, .tup ts] => ts.flatMap (named n)
  | _ + 1, .tup [.str _, .str b, .int _] => [b]
  | n + 1, .tup [.str _, .str b, t] => b :: named n t
  | n + 1, .tup [.str _, .int _, t] => named n t
  | _ + 1, _ => []
/-- sorted, each once -/
def srt (xs : List Str) : List Str := sortS (dedS xs)
theorem srt_mem {x : Str} (xs : List Str) : x ∈ srt xs ↔ x ∈ xs := by
  unfold srt
  rw [(TStr.sortS_perm _).mem_iff, TStr.dedS_mem]
theorem srt_nd (xs : List Str) : (srt xs).Nodup := by
  unfold srt
  exact (TStr.sortS_perm _).nodup_iff.mpr (TStr.dedS_nodup _)
theorem srt_ext {xs ys : List Str} (h : ∀ x, x ∈ xs ↔ x ∈ ys) : srt xs = srt ys := by
  unfold srt
  refine TStr.sortS_of_perm (TStr.perm_of_sub (TStr.dedS_nodup _) (fun x hx => (TStr.dedS_mem _).mpr ((h x).mpr ((TStr.dedS_mem _).mp hx))) (nd_len (TStr.dedS_nodup _) fun x hx => (TStr.dedS_mem _).mpr ((h x).mp ((TStr.dedS_mem _).mp hx))))
def abc : List Str := ["a", "b", "c", "d"]
theorem named_abc {m : Nat} : ∀ {n : Nat} {d : TL.D}, Dr m n d → ∀ x ∈ named n d, x ∈ abc
  | 0, _, h => h.elim
  | n + 1, d, h => by
    have k : ∀ {a : String}, Nm a → (a : Str) ∈ abc := by
      intro a h
      rcases h with rfl | rfl | rfl | rfl <;> simp [abc]
    rcases h with ⟨a, k', ha, hk, hkm, rfl⟩ | ⟨w, ts, hw, h1, hl, h2, hg, rfl⟩ | ⟨a, t, ha, hg, rfl⟩ | ⟨k', t, hk, hk9, hg, rfl⟩
    · intro x hx
      simp only [named, List.mem_singleton] at hx
      rw [hx]
      exact k ha
    · intro x hx
      simp only [named] at hx
      obtain ⟨t, ht, hx⟩ := List.mem_flatMap.mp hx
      exact named_abc (hg t ht) x hx
    · obtain ⟨ds, rfl⟩ := hg.good.isT
      intro x hx
      simp only [named] at hx
      rcases List.mem_cons.mp hx with rfl | hx
      · exact k ha
      · exact named_abc hg x hx
    · intro x hx
      simp only [named] at hx
      exact named_abc hg x hx
theorem srt_abc {m n : Nat} {d : TL.D} (h : Dr m n d) : (∀ x ∈ srt (named n d), x ∈ abc) ∧ (srt (named n d)).length ≤ 4 :=
  have k : ∀ x ∈ srt (named n d), x ∈ abc := fun x hx => named_abc h x ((srt_mem _).mp hx)
  ⟨k, nd_len (m := abc) (srt_nd _) k⟩
theorem strsOf_map : ∀ xs : List Str, strsOf (xs.map TL.D.str) = some xs
  | [] => rfl
  | x :: r => by
    have := strsOf_map r
    simp [strsOf, this]
theorem oSrt {xs : List Str} (h : xs.length < 64) : o1 .sortedSet (.lst (xs.map .str)) = some (.lst ((srt xs).map .str)) := by
  show (strsOf _).bind _ = _
  rw [strsOf_map]
  show (if xs.length < 64 then _ else none) = _
  rw [if_pos h]
  rfl
theorem k_Ext2t {ρ : TL.Env} {st : Sto} {i : Nat} {ds es : List TL.D} : kExt2 i ρ ds (.tup es) st = if ds.length + es.length ≤ PySem.sizeLine then .nx (ρ.set i (some (.mlst (ds ++ es)))) st else .fail := by unfold kExt2; rfl
theorem inG4 {x : String} : dIn (.str x) (.tup [.str "all", .str "any", .str "then"]) = some (.bl (decide (x = "all") || (decide (x = "any") || decide (x = "then")))) := by
  have z := inT (x := x) ["all", "any", "then"] (strOk_of _)
  simp at z
  rw [z]
  congr 2
  simp only [eq_comm]
theorem inDW {x : String} : dIn (.str x) (.tup [.str "do", .str "without"]) = some (.bl (decide (x = "do") || decide (x = "without"))) := by
  have z := inT (x := x) ["do", "without"] (strOk_of _)
  simp at z
  rw [z]
  congr 2
  simp only [eq_comm]
/-- a task's own name, and its parts -/
def ownN : TL.D → List Str
  | .tup [.str _, .str b, _] => [b]
  | _ => []
def parts : TL.D → List TL.D
  | .tup [.str _, .tup ts] => ts
  | .tup [.str _, .str _, .int _] => []
  | .tup [.str _, _, t] => [t]
  | _ => []
theorem parts_dr {m n : Nat} {t : TL.D} (g : Dr m (n + 1) t) : (∀ s ∈ parts t, Dr m n s) ∧ (parts t).length ≤ 3 ∧ (ownN t).length ≤ 1 ∧ ∀ x, x ∈ named (n + 1) t ↔ x ∈ ownN t ++ (parts t).flatMap fun s => srt (named n s) := by
  rcases g with ⟨a, k', ha, hk, hkm, rfl⟩ | ⟨w, ts, hw, h1, hl, h2, hg, rfl⟩ | ⟨a, t, ha, hg, rfl⟩ | ⟨k', t, hk, hk9, hg, rfl⟩
  · simp [parts, ownN, named]
  · refine ⟨hg, hl, by simp [ownN], fun x => ?_⟩
    simp [parts, ownN, named, srt_mem]
  · obtain ⟨ds, rfl⟩ := hg.good.isT
    refine ⟨by simpa [parts] using hg, by simp [parts], by simp [ownN], fun x => ?_⟩
    simp [parts, ownN, named, srt_mem]
  · obtain ⟨ds, rfl⟩ := hg.good.isT
    refine ⟨by simpa [parts] using hg, by simp [parts], by simp [ownN], fun x => ?_⟩
    simp [parts, ownN, named, srt_mem]
theorem w_tasks_in' {N m n : Nat} (hN : 1 ≤ N) {t : TL.D} (g : Dr m (n + 1) t) (st : Sto) : TL.run Pg N 0 [t] st = .ok (.tup (parts t)) st := by
  obtain ⟨N, rfl⟩ : ∃ M, N = M + 1 := ⟨N - 1, by omega⟩
  have cf := fun (x y z : TL.D) => cut_from [x, y, z] 2
  simp at cf
  rw [run_c (F := c_tasks_in) rfl rfl]
  rcases g with ⟨a, k', ha, hk, hkm, rfl⟩ | ⟨w, ts, hw, h1, hl, h2, hg, rfl⟩ | ⟨a, t, ha, hg, rfl⟩ | ⟨k', t, hk, hk9, hg, rfl⟩
  · simp [c_tasks_in, enter, dEqs, inG4, parts]
  · rcases hw with rfl | rfl | rfl <;> simp [c_tasks_in, enter, dEqs, inG4, parts]
  · obtain ⟨ds, rfl⟩ := hg.good.isT
    simp [c_tasks_in, enter, dEqs, inG4, cf, parts]
  · obtain ⟨ds, rfl⟩ := hg.good.isT
    simp [c_tasks_in, enter, dEqs, inG4, cf, parts]
theorem deeds_go {N m n : Nat} {st : Sto} {t0 : TL.D} (H : ∀ t, Dr m n t → TL.run Pg N 14 [t] st = .ok (.tup ((srt (named n t)).map .str)) st) : ∀ (ts : List TL.D) (xs : List Str) (v : Option TL.D), (∀ t ∈ ts, Dr m n t) → xs.length + 4 * ts.length ≤ 40 →
    ∃ v', forE (TL.run Pg N) (.nm 2) [.ext 1 (.call 14 [.var 2])] ts [some t0, some (.mlst (xs.map .str)), v] st = .nx [some t0, some (.mlst ((xs ++ ts.flatMap fun s => srt (named n s)).map .str)), v'] st ∧ (xs ++ ts.flatMap fun s => srt (named n s)).length ≤ 40
  | [], xs, v, _, hl => ⟨v, by simp [forE_nil], by simp at hl ⊢; omega⟩
  | t :: ts, xs, v, h, hl => by
    have g := h t (List.mem_cons_self ..)
    have go := g.good.ok.own
    have w := H t g
    have l3 := (srt_abc g).2
    simp at hl
    obtain ⟨v', e, l⟩ := deeds_go H (t0 := t0) ts (xs ++ srt (named n t)) (some t) (fun s hs => h s (List.mem_cons_of_mem _ hs)) (by simp; omega)
    refine ⟨v', ?_, by simpa using l⟩
    have sl : xs.length + (srt (named n t)).length ≤ PySem.sizeLine := by unfold PySem.sizeLine; omega
    simp only [List.map_append] at e
    rw [forE_cons (ρ1 := [some t0, some (.mlst (xs.map .str)), some t]) (by simp [go])]
    simp [go, w, k_Ext2t, sl]
    rw [e]
    simp
theorem w_deeds_of {m : Nat} : ∀ (n N : Nat) {t : TL.D} (st : Sto), n + 1 ≤ N → Dr m n t → TL.run Pg N 14 [t] st = .ok (.tup ((srt (named n t)).map .str)) st := by
  intro n
  induction n with
  | zero => intro N t st _ g; exact g.elim
  | succ n IH =>
    intro N t st hN g
    obtain ⟨N, rfl⟩ : ∃ M, N = M + 1 := ⟨N - 1, by omega⟩
    have hp := w_tasks_in' (N := N) (by omega) g st
    obtain ⟨p1, p2, p3, p4⟩ := parts_dr g
    rw [srt_ext p4]
    obtain ⟨v', e, l⟩ := deeds_go (N := N) (m := m) (n := n) (st := st) (t0 := t) (fun s gs => IH N st (by omega) gs) (parts t) (ownN t) none p1 (by omega)
    have os := oSrt (xs := ownN t ++ (parts t).flatMap fun s => srt (named n s)) (by omega)
    simp only [List.map_append] at os
    have go := g.good.ok.own
    rw [run_c (F := c_deeds_of) rfl rfl]
    have fin : TL.finish ((forE (TL.run Pg N) (.nm 2) [.ext 1 (.call 14 [.var 2])] (parts t) [some t, some (.mlst ((ownN t).map .str)), none] st).seq (TL.execs (TL.run Pg N) [.freeze 1, .ret (.o1 .tuple (.srt (.var 1)))])) = .ok (.tup ((srt (ownN t ++ (parts t).flatMap fun s => srt (named n s))).map .str)) st := by
      rw [e]
      simp [os]
    rcases g with ⟨a, k', ha, hk, hkm, rfl⟩ | ⟨w, ts, hw, h1, hl, h2, hg, rfl⟩ | ⟨a, s, ha, hg, rfl⟩ | ⟨k', s, hk, hk9, hg, rfl⟩
    · simp [c_deeds_of, enter, inDW, hp, ownN, parts, PySem.sizeLine] at fin ⊢
      exact fin
    · rcases hw with rfl | rfl | rfl <;> (simp [c_deeds_of, enter, inDW, hp, ownN, parts] at fin ⊢; exact fin)
    · obtain ⟨ds, rfl⟩ := hg.good.isT
      simp [c_deeds_of, enter, inDW, hp, ownN, parts, PySem.sizeLine] at fin ⊢
      exact fin
    · obtain ⟨ds, rfl⟩ := hg.good.isT
      simp [c_deeds_of, enter, inDW, hp, ownN, parts] at fin ⊢
      exact fin

end TP

namespace TP
open TL
open PySem (Str PyData)
open L2 (atI)
def az : List Nat := [97, 98, 99, 100, 101, 102, 103, 104, 105, 106, 107, 108, 109, 110, 111, 112, 113, 114, 115, 116, 117, 118, 119, 120, 121, 122]
theorem itAz : items .str [.str "abcdefghijklmnopqrstuvwxyz"] = some (az.map fun c => TL.D.str ⟨#[c]⟩) := by
  rfl
theorem add2 {x y : Nat} : o2 .add (.str ⟨#[x]⟩) (.str ⟨#[y]⟩) = some (.str ⟨#[x, y]⟩) := by
  rfl
theorem abc_two {x : Str} (h : x ∈ abc) (p q : Nat) : x ≠ ⟨#[p, q]⟩ := by
  rintro rfl
  simp only [abc, List.mem_cons, List.not_mem_nil, or_false] at h
  rcases h with h | h | h | h <;> (have := congrArg (fun s : Str => s.cps.size) h; exact absurd (show (2 : Nat) = _ from this) (by decide +kernel))
theorem other_in {ds : List Str} (hd : ∀ x ∈ ds, x ∈ abc) {p q : Nat} (hp : p < 200) (hq : q < 200) : dNotIn (.str ⟨#[p, q]⟩) (.tup (ds.map .str)) = some (.bl true) := by
  have ok : PyData.strOk ⟨#[p, q]⟩ = true := by
    simp [PyData.strOk]
    omega
  have a := (okD_str 0 ok).shp (by decide)
  have b := (okD_tup (n := 0) (ds := ds.map TL.D.str) (fun d h => by
    obtain ⟨x, hx, rfl⟩ := List.mem_map.mp h
    refine okD_str 0 ?_
    have := hd x hx
    simp only [abc, List.mem_cons, List.not_mem_nil, or_false] at this
    rcases this with rfl | rfl | rfl | rfl <;> exact strOk_of _)).shp (by decide)
  have c : (ds.map TL.D.str).any (fun d => d.eqv (.str ⟨#[p, q]⟩)) = false := by
    rw [List.any_eq_false]
    intro d h
    obtain ⟨x, hx, rfl⟩ := List.mem_map.mp h
    rw [eqv_str]
    simp [abc_two (hd x hx) p q]
  simp only [dNotIn, inD, a, b, Bool.true_and, if_true, Option.map, c, Bool.not_false]
  try rfl
theorem az_lt : ∀ p ∈ az, p < 200 := by decide
theorem other_lc {N : Nat} {ds : List Str} (hd : ∀ x ∈ ds, x ∈ abc) {st : Sto} {p : Nat} (hp : p < 200) {y z : Option TL.D} :
    lcE (TL.run Pg N) (.o2 .add (.var 2) (.var 3)) (.nm 3) [3] [.o2 .notIn (.o2 .add (.var 2) (.var 3)) (.var 0)] (az.map fun c => TL.D.str ⟨#[c]⟩) [some (.tup (ds.map .str)), y, some (.str ⟨#[p]⟩), z] st = .ok (az.map fun c => TL.D.str ⟨#[p, c]⟩) st := by
  have e := lcE_map (C := TL.run Pg N) (st := st) (ρ := [some (.tup (ds.map .str)), y, some (.str ⟨#[p]⟩), z]) (tg := .nm 3) (own := [3]) (elt := .o2 .add (.var 2) (.var 3)) (cond := [.o2 .notIn (.o2 .add (.var 2) (.var 3)) (.var 0)])
    (xs := az.map fun c => TL.D.str ⟨#[c]⟩) (p := fun _ => true) (g := fun x => match x with | .str s => .str ⟨#[p] ++ s.cps⟩ | d => d) (fun x hx => by
      obtain ⟨q, hq, rfl⟩ := List.mem_map.mp hx
      have o := other_in hd hp (az_lt q hq)
      exact ⟨[some (.tup (ds.map .str)), y, some (.str ⟨#[p]⟩), some (.str ⟨#[q]⟩)], by simp, by simp [add2, o], fun _ => ⟨by simp [add2], rfl⟩⟩)
  rw [e, List.filter_eq_self.mpr fun _ _ => rfl, List.map_map]
  rfl
theorem other_go {N : Nat} {ds : List Str} (hd : ∀ x ∈ ds, x ∈ abc) {st : Sto} : ∀ (ps : List Nat) (xs : List TL.D) (y z : Option TL.D), (∀ p ∈ ps, p < 200) → xs.length + 26 * ps.length ≤ 5000 →
    ∃ ys y', forE (TL.run Pg N) (.nm 2) [.ext 1 (.lc (.o2 .add (.var 2) (.var 3)) (.nm 3) .str [.con (.str "abcdefghijklmnopqrstuvwxyz")] [.o2 .notIn (.o2 .add (.var 2) (.var 3)) (.var 0)] [3])] (ps.map fun c => TL.D.str ⟨#[c]⟩) [some (.tup (ds.map .str)), some (.mlst xs), y, z] st = .nx [some (.tup (ds.map .str)), some (.mlst (xs ++ ys)), y', z] st ∧ ys = ps.flatMap fun p => az.map fun c => TL.D.str ⟨#[p, c]⟩
  | [], xs, y, z, _, _ => ⟨[], y, by simp [forE_nil], rfl⟩
  | p :: ps, xs, y, z, h, hl => by
    have hp := h p (List.mem_cons_self ..)
    simp at hl
    have al : (az.map fun c => TL.D.str ⟨#[p, c]⟩).length = 26 := rfl
    obtain ⟨ys, y', e, ey⟩ := other_go (N := N) hd (st := st) ps (xs ++ az.map fun c => TL.D.str ⟨#[p, c]⟩) (some (.str ⟨#[p]⟩)) z (fun q hq => h q (List.mem_cons_of_mem _ hq)) (by rw [List.length_append, al]; omega)
    refine ⟨_, y', ?_, rfl⟩
    have lc := other_lc (N := N) hd (st := st) hp (y := some (.mlst xs)) (z := z)
    have sl : xs.length + (az.map fun c => TL.D.str ⟨#[p, c]⟩).length ≤ PySem.sizeLine := by rw [al]; unfold PySem.sizeLine; omega
    rw [List.map_cons, forE_cons (ρ1 := [some (.tup (ds.map .str)), some (.mlst xs), some (.str ⟨#[p]⟩), z]) (by simp)]
    simp only [ex1, exext, evlc, evs1, evc, bind_ok, evs0, k_Es, k_Esb, k_Lc, itAz, ropt_some, k_Lc2, List.getElem?_cons_succ, List.getElem?_cons_zero, k_Ext, lc, quiet_ok, k_Lst, of_ok, k_Ext2, sl, if_true, seq_nx, ex0, List.set_cons_succ, List.set_cons_zero]
    rw [e, ey, List.flatMap_cons, List.append_assoc]
theorem w_other_deed {N : Nat} (hN : 1 ≤ N) {ds : List Str} (hd : ∀ x ∈ ds, x ∈ abc) (st : Sto) : TL.run Pg N 15 [.tup (ds.map .str)] st = .ok (.str "aa") st := by
  obtain ⟨N, rfl⟩ : ∃ M, N = M + 1 := ⟨N - 1, by omega⟩
  rw [run_c (F := c_other_deed) rfl rfl]
  obtain ⟨ys, y', e, ey⟩ := other_go (N := N) hd (st := st) az [] none none az_lt (by decide)
  have h0 : ∃ r, ys = .str "aa" :: r := by
    rw [ey]
    exact ⟨_, rfl⟩
  obtain ⟨r, rfl⟩ := h0
  rw [List.nil_append] at e
  simp only [c_other_deed, enter, ex1, exown, evs0, ofs_ok, k_Own, seq_nx, exfor, evs1, evc, bind_ok, k_Es, k_Esb, k_For, itAz, fopt_some, k_For2, List.replicate, List.map_cons, List.map_nil, List.cons_append, List.nil_append, List.set_cons_succ, List.set_cons_zero]
  simp [e]

end TP

namespace TP
open TL
open PySem (Str PyData)
open L2 (atI)
theorem oAddt' {a b : List TL.D} (h : a.length + b.length ≤ PySem.sizeLine) : o2 .add (.tup a) (.tup b) = some (.tup (a ++ b)) := by
  show TL.dAdd (.tup a) (.tup b) = _
  unfold TL.dAdd
  simp only
  rw [if_pos h]
/-- where a deed leads -/
def hop (n : Nat) (g : TL.D) (t : TL.D) (a : Str) : Hop := if (beh n t a).eqv g then .hit else if (beh n t a).isS then .over else .go (beh n t a)
def encE (e : TL.D × List Str) : TL.D := .tup [e.1, .tup (e.2.map .str)]
/-- what the walks rest on -/
structure Rm (n : Nat) (as : List Str) (X : List TL.D) : Prop where
  n4 : n ≤ 20
  key : ∀ s ∈ X, isKey s = true
  ok : ∀ a ∈ as, PyData.strOk a = true
  good : ∀ s ∈ X, Good n s
  cl : ∀ s ∈ X, ∀ a ∈ as, (beh n s a).isS = false → beh n s a ∈ X
  few : X.length ≤ 900000
theorem Rm.room {n : Nat} {as : List Str} {X : List TL.D} (R : Rm n as X) (g : TL.D) : Room (hop n g) as X := by
  refine ⟨fun s hs a ha x e => ?_, fun x hx y hy => (R.good x hx).eq (R.good y hy)⟩
  unfold hop at e
  split at e
  · cases e
  · split at e
    · cases e
    · next h =>
      cases e
      exact R.cl s hs a ha (by simpa using h)
theorem goal_eq {n : Nat} {d g : TL.D} (r : Res n d) (h : 2 * n ≤ 64) (hg : g = .str "done" ∨ g = .str "failed") : dEq d g = some (.bl (d.eqv g)) := by
  rcases hg with rfl | rfl
  · exact dEqD r h (strOk_of _)
  · exact dEqD r h (strOk_of _)
theorem inD_key {x : TL.D} {ks : List TL.D} (h : isKey x = true) : inD x (.mset ks) = some (ks.any fun y => y.eqv x) := by
  unfold inD
  simp only [h, if_true]

end TP

namespace TP
open TL
open PySem (Str PyData)
open L2 (atI)
def tol (n : Nat) : TL.D → List Str → Nat → TL.D
  | t, [], _ => .tup [t, .non]
  | t, a :: as, i => if (beh n t a).isS then .tup [beh n t a, .int ((i : Int) + 1)] else tol n (beh n t a) as (i + 1)
def enm (as : List Str) (i : Nat) : List TL.D := ((as.map TL.D.str).zipIdx i).map fun p => .tup [.int (p.2 : Nat), p.1]
theorem enm_nil (i : Nat) : enm [] i = [] := rfl
theorem enm_cons (a : Str) (as : List Str) (i : Nat) : enm (a :: as) i = .tup [.int i, .str a] :: enm as (i + 1) := rfl
theorem told_go {N n : Nat} (hn : n ≤ 30) (hN : 2 * n + 1 ≤ N) {st : Sto} {X : TL.D} (body : List S)
    (hb : body = [.set 0 (.call 12 [.var 0, .var 3]), .ifs (.call 8 [.var 0]) [.ret (.tup [.var 0, .o2 .add (.var 2) (.con (.int 1))])] []]) :
    ∀ (as : List Str) (i : Nat) (t : TL.D) (x y : Option TL.D), (∀ a ∈ as, PyData.strOk a = true) → Good n t →
    TL.finish ((forE (TL.run Pg N) (.tp [2, 3]) body (enm as i) [some t, some X, x, y] st).seq (TL.execs (TL.run Pg N) [.ret (.tup [.var 0, .con .non])])) = .ok (tol n t as i) st := by
  intro as
  induction as with
  | nil =>
    intro i t x y _ g
    have := g.ok.own
    simp [enm_nil, forE_nil, tol, this]
  | cons a as ih =>
    intro i t x y ha g
    have h1 := w_behind n N (d := t) (a := a) st hn hN (ha a (List.mem_cons_self ..)) g
    have r := beh_res (ha a (List.mem_cons_self ..)) g
    have h2 := w_is_over (N := N) (by omega) r st
    have o := r.ok.own
    have o' := g.ok.own
    have ih' := ih (i + 1) (beh n t a) (some (.int i)) (some (.str a)) fun b hb => ha b (List.mem_cons_of_mem _ hb)
    subst hb
    rw [enm_cons, forE_cons (ρ1 := [some t, some X, some (.int i), some (.str a)]) (by simp)]
    simp [h1, h2, o, o', tol]
    cases hs : (beh n t a).isS with
    | true => simp
    | false =>
      have ih' := ih' (r.good hs)
      try simp at ih'
      simp [ih']
theorem w_told {N n : Nat} (hn : n ≤ 30) (hN : 2 * n + 2 ≤ N) {st : Sto} {t : TL.D} {as : List Str} (ha : ∀ a ∈ as, PyData.strOk a = true) (g : Good n t) : TL.run Pg N 13 [t, .tup (as.map .str)] st = .ok (tol n t as 0) st := by
  obtain ⟨N, rfl⟩ : ∃ M, N = M + 1 := ⟨N - 1, by omega⟩
  rw [run_c (F := c_told) rfl rfl]
  have z := told_go (N := N) hn (by omega) (st := st) (X := .tup (as.map .str)) _ rfl as 0 t none none ha g
  have e : ((as.map TL.D.str).zipIdx.map fun p => TL.D.tup [.int (p.2 : Nat), p.1]) = enm as 0 := rfl
  simp [c_told, enter, -List.map_map]
  try simp [-List.map_map] at z
  rw [e]
  exact z
/-- not decided by these deeds: what is left -/
def Und (n : Nat) : TL.D → List Str → TL.D → Prop
  | t, [], h => h = t
  | t, a :: as, h => (beh n t a).isS = false ∧ Und n (beh n t a) as h
theorem Und.good {n : Nat} : ∀ {as : List Str} {t h : TL.D}, (∀ a ∈ as, PyData.strOk a = true) → Good n t → Und n t as h → Good n h
  | [], t, h, _, g, u => by cases u; exact g
  | a :: as, t, h, ha, g, u => Und.good (fun b hb => ha b (List.mem_cons_of_mem _ hb)) ((beh_res (ha a (List.mem_cons_self ..)) g).good u.1) u.2
theorem tol_app {n : Nat} : ∀ {as : List Str} {t h : TL.D} (bs : List Str) (i : Nat), Und n t as h → tol n t (as ++ bs) i = tol n h bs (i + as.length)
  | [], t, h, bs, i, u => by cases u; rfl
  | a :: as, t, h, bs, i, u => by
    simp only [List.cons_append, tol, u.1, Bool.false_eq_true, if_false]
    rw [tol_app bs (i + 1) u.2]
    simp only [List.length_cons]
    congr 1
    omega
theorem Und.snoc {n : Nat} {a : Str} : ∀ {as : List Str} {t h : TL.D}, Und n t as h → (beh n h a).isS = false → Und n t (as ++ [a]) (beh n h a)
  | [], t, h, u, k => by cases u; exact ⟨k, rfl⟩
  | b :: as, t, h, u, k => ⟨u.1, u.2.snoc k⟩
theorem tol_res {n : Nat} : ∀ {as : List Str} {t : TL.D} (i : Nat), (∀ a ∈ as, PyData.strOk a = true) → Good n t → ∃ d k, tol n t as i = .tup [d, k] ∧ Res n d ∧ (k = .non ∨ ∃ j : Nat, k = .int j)
  | [], t, i, _, g => ⟨t, .non, rfl, .inr (.inr g), .inl rfl⟩
  | a :: as, t, i, ha, g => by
    have r := beh_res (ha a (List.mem_cons_self ..)) g
    unfold tol
    cases hs : (beh n t a).isS with
    | true => exact ⟨_, _, rfl, r, .inr ⟨i + 1, by simp⟩⟩
    | false => exact tol_res (i + 1) (fun b hb => ha b (List.mem_cons_of_mem _ hb)) (r.good hs)
theorem pair_ok {n : Nat} {d k : TL.D} (r : Res n d) (hk : k = .non ∨ ∃ j : Int, k = .int j) : okD (2 * n + 1) (.tup [d, k]) := okD_tup fun x hx => by
  simp at hx
  rcases hx with rfl | rfl
  · exact r.ok
  · rcases hk with rfl | ⟨j, rfl⟩
    · exact okD_non _
    · exact okD_int _ _

end TP

namespace TP
open TL
open PySem (Str PyData)
open L2 (atI)
theorem grp_drop {w : String} {F G : TL.D → Option (TL.D × Int)} {i : Int} : ∀ {ss : List TL.D}, (∀ s ∈ ss, (s.eqv (otW w) = true ∧ F s = some (otW w, i)) ∨ (s.eqv (otW w) = false ∧ F s = G s)) →
    posE w (ss.map F) = posE w ((ss.filter fun s => !s.eqv (otW w)).map G) ∧ (ss.map F).any (·.isNone) = ((ss.filter fun s => !s.eqv (otW w)).map G).any (·.isNone) ∧
    (∀ x ∈ posA (ss.map F), x = i ∨ x ∈ posA ((ss.filter fun s => !s.eqv (otW w)).map G)) ∧ (∀ x ∈ posA ((ss.filter fun s => !s.eqv (otW w)).map G), x ∈ posA (ss.map F)) := by
  intro ss
  have eo : (otW w).eqv (enW w) = false := by
    have h : otW w = .str "done" ∨ otW w = .str "failed" := by unfold otW; split; exact .inr rfl; exact .inl rfl
    rcases en_ot w h with ⟨e, e1, e2⟩ | ⟨e, e1, e2⟩
    · rw [show (otW w).eqv (otW w) = true from by rcases h with h | h <;> rw [h] <;> simp [eqv_str]] at e2
      cases e2
    · exact e1
  induction ss with
  | nil => intro _; exact ⟨rfl, rfl, fun _ h => (nomatch h), fun _ h => nomatch h⟩
  | cons s ss ih =>
    intro h
    obtain ⟨h1, h2, h3, h4⟩ := ih fun x hx => h x (List.mem_cons_of_mem _ hx)
    rcases h s (List.mem_cons_self ..) with ⟨e, ef⟩ | ⟨e, ef⟩
    · have hf : (s :: ss).filter (fun s => !s.eqv (otW w)) = ss.filter fun s => !s.eqv (otW w) := by
        rw [List.filter_cons, e]
        rfl
      rw [hf, List.map_cons, ef]
      refine ⟨?_, ?_, ?_, ?_⟩
      · rw [← h1]
        unfold posE
        simp only [List.filterMap_cons, Option.bind, eo, Bool.false_eq_true, if_false]
      · rw [← h2]
        simp
      · intro x hx
        unfold posA at hx
        simp only [List.filterMap_cons, Option.map] at hx
        rcases List.mem_cons.mp hx with rfl | hx
        · exact .inl rfl
        · exact h3 x hx
      · intro x hx
        unfold posA
        simp only [List.filterMap_cons, Option.map]
        exact List.mem_cons_of_mem _ (h4 x hx)
    · have hf : (s :: ss).filter (fun s => !s.eqv (otW w)) = s :: ss.filter fun s => !s.eqv (otW w) := by
        rw [List.filter_cons, e]
        rfl
      rw [hf, List.map_cons, List.map_cons, ef]
      refine ⟨?_, ?_, ?_, ?_⟩
      · unfold posE at h1 ⊢
        simp only [List.filterMap_cons, h1]
      · simp only [List.any_cons, h2]
      · intro x hx
        unfold posA at hx h3 ⊢
        simp only [List.filterMap_cons] at hx ⊢
        cases hg : G s with
        | none =>
          rw [hg] at hx
          exact h3 x hx
        | some q =>
          rw [hg] at hx
          simp only [Option.map] at hx ⊢
          rcases List.mem_cons.mp hx with rfl | hx
          · exact .inr (List.mem_cons_self ..)
          · exact (h3 x hx).imp id (List.mem_cons_of_mem _)
      · intro x hx
        unfold posA at hx h4 ⊢
        simp only [List.filterMap_cons] at hx ⊢
        cases hg : G s with
        | none =>
          rw [hg] at hx
          exact h4 x hx
        | some q =>
          rw [hg] at hx
          simp only [Option.map] at hx ⊢
          rcases List.mem_cons.mp hx with rfl | hx
          · exact List.mem_cons_self ..
          · exact List.mem_cons_of_mem _ (h4 x hx)
theorem posA_ne {xs : List (Option (TL.D × Int))} (h0 : xs ≠ []) (h : xs.any (·.isNone) = false) : posA xs ≠ [] := by
  match xs, h0 with
  | none :: r, _ => simp at h
  | some q :: r, _ => unfold posA; simp
theorem posE_mem {w : String} {xs : List (Option (TL.D × Int))} {p : Int} (h : p ∈ posE w xs) : ∃ o, some (o, p) ∈ xs ∧ o.eqv (enW w) = true := by
  unfold posE at h
  obtain ⟨x, hx, e⟩ := List.mem_filterMap.mp h
  cases x with
  | none => cases e
  | some q =>
    obtain ⟨o, p'⟩ := q
    simp only [Option.bind] at e
    split at e
    · next he => cases e; exact ⟨o, hx, he⟩
    · cases e
theorem mem_posE {w : String} {xs : List (Option (TL.D × Int))} {o : TL.D} {p : Int} (h : some (o, p) ∈ xs) (e : o.eqv (enW w) = true) : p ∈ posE w xs :=
  List.mem_filterMap.mpr ⟨_, h, by simp only [Option.bind, e, if_true]⟩
theorem posA_mem {xs : List (Option (TL.D × Int))} {p : Int} (h : p ∈ posA xs) : ∃ o, some (o, p) ∈ xs := by
  unfold posA at h
  obtain ⟨x, hx, e⟩ := List.mem_filterMap.mp h
  cases x with
  | none => cases e
  | some q => obtain ⟨o, p'⟩ := q; cases e; exact ⟨o, hx⟩
theorem decI_grp {n : Nat} {w : String} (hw : w = "all" ∨ w = "any") : ∀ {as : List Str} {ts : List TL.D} {i : Int}, (∀ a ∈ as, PyData.strOk a = true) → ts ≠ [] → ts.length ≤ 1000 → (∀ t ∈ ts, Good n t) →
    decI (n + 1) (.tup [.str w, .tup ts]) as i = grpD w (ts.map fun t => decI (n + 1) t as i)
  | [], ts, i, _, h0, hl, _ => by
    unfold grpD
    have e : (ts.map fun t => decI (n + 1) t [] i) = ts.map fun _ => none := List.map_congr_left fun t _ => rfl
    have e1 : posE w (ts.map fun _ => none) = [] := by
      unfold posE
      rw [List.filterMap_map]
      exact List.filterMap_eq_nil_iff.mpr fun _ _ => rfl
    rw [e, e1, if_neg (by simp), if_pos]
    · rfl
    · match ts, h0 with
      | _ :: _, _ => simp
  | a :: as, ts, i, ha, h0, hl, hg => by
    have ha0 := ha a (List.mem_cons_self ..)
    have ha' : ∀ b ∈ as, PyData.strOk b = true := fun b hb => ha b (List.mem_cons_of_mem _ hb)
    have wt : w ≠ "then" := by rcases hw with rfl | rfl <;> decide
    have eb : beh (n + 1) (.tup [.str w, .tup ts]) a = if ((ts.map fun t => beh n t a).any fun s => s.eqv (enW w)) = true then enW w else if ((ts.map fun t => beh n t a).filter fun s => !s.eqv (otW w)) = [] then otW w else grp w ((ts.map fun t => beh n t a).filter fun s => !s.eqv (otW w)) := by
      simp only [beh, str_inj, if_neg wt]
      rfl
    have em : (ts.map fun t => decI (n + 1) t (a :: as) i) = (ts.map fun t => beh n t a).map fun s => if s.isS then some (s, i + 1) else decI (n + 1) s as (i + 1) := by
      rw [List.map_map]
      exact List.map_congr_left fun t ht => decI_cons (beh_succ (hg t ht))
    have rs : ∀ s ∈ ts.map fun t => beh n t a, Res n s := by
      intro s hs
      obtain ⟨t, ht, rfl⟩ := List.mem_map.mp hs
      exact beh_res ha0 (hg t ht)
    have h0' : (ts.map fun t => beh n t a) ≠ [] := by simpa using h0
    have hl' : (ts.map fun t => beh n t a).length ≤ 1000 := by simpa using hl
    rw [decI_cons eb, em]
    generalize (ts.map fun t => beh n t a) = ss at *
    clear eb em
    have pos : ∀ o p, some (o, p) ∈ (ss.map fun s => if s.isS then some (s, i + 1) else decI (n + 1) s as (i + 1)) → i + 1 ≤ p := by
      intro o p h
      obtain ⟨s, hs, e⟩ := List.mem_map.mp h
      by_cases k : s.isS = true
      · rw [if_pos k] at e; cases e; exact Int.le_refl _
      · rw [if_neg k] at e
        have := decI_bd ha' ((rs s hs).good (by simpa using k)).succ e
        omega
    have enS : (enW w).isS = true := by unfold enW; split <;> rfl
    have otS : (otW w).isS = true := by unfold otW; split <;> rfl
    by_cases hany : (ss.any fun s => s.eqv (enW w)) = true
    · rw [if_pos hany, if_pos enS]
      obtain ⟨s, hs, e⟩ := List.any_eq_true.mp hany
      have es : s = enW w := by
        rcases rs s hs with k | k | g
        · rcases en_ot w (.inl k) with ⟨z, _, _⟩ | ⟨_, z, _⟩; exact z; rw [e] at z; cases z
        · rcases en_ot w (.inr k) with ⟨z, _, _⟩ | ⟨_, z, _⟩; exact z; rw [e] at z; cases z
        · unfold enW at e
          split at e <;> rw [g.eqvS] at e <;> cases e
      have m : i + 1 ∈ posE w (ss.map fun s => if s.isS then some (s, i + 1) else decI (n + 1) s as (i + 1)) :=
        mem_posE (o := enW w) (List.mem_map.mpr ⟨s, hs, by rw [es, if_pos enS]⟩) (by rw [es] at e; exact e)
      have ne : posE w (ss.map fun s => if s.isS then some (s, i + 1) else decI (n + 1) s as (i + 1)) ≠ [] := List.ne_nil_of_mem m
      unfold grpD
      rw [if_pos ne]
      have q1 := minL_le m
      obtain ⟨o, q2, _⟩ := posE_mem (minL_mem ne)
      have := pos _ _ q2
      rw [show minL (posE w (ss.map fun s => if s.isS then some (s, i + 1) else decI (n + 1) s as (i + 1))) = i + 1 from by omega]
    · rw [if_neg hany]
      have cls : ∀ s ∈ ss, (s = otW w ∧ s.eqv (otW w) = true) ∨ (Good n s ∧ s.eqv (otW w) = false) := by
        intro s hs
        have nn : s.eqv (enW w) = false := by
          cases e : s.eqv (enW w) with
          | false => rfl
          | true => exact (hany (List.any_eq_true.mpr ⟨s, hs, e⟩)).elim
        rcases rs s hs with k | k | g
        · rcases en_ot w (.inl k) with ⟨_, z, _⟩ | ⟨z, _, y⟩
          · rw [nn] at z; cases z
          · exact .inl ⟨z, y⟩
        · rcases en_ot w (.inr k) with ⟨_, z, _⟩ | ⟨z, _, y⟩
          · rw [nn] at z; cases z
          · exact .inl ⟨z, y⟩
        · refine .inr ⟨g, ?_⟩
          unfold otW
          split <;> exact g.eqvS _
      obtain ⟨d1, d2, d3, d4⟩ := grp_drop (w := w) (ss := ss) (i := i + 1) (F := fun s => if s.isS then some (s, i + 1) else decI (n + 1) s as (i + 1)) (G := fun s => decI (n + 1) s as (i + 1)) (fun s hs => by
        rcases cls s hs with ⟨e, e1⟩ | ⟨g, e1⟩
        · refine .inl ⟨e1, ?_⟩
          subst e
          simp only [otS, if_true]
        · exact .inr ⟨e1, by simp only [g.isS, Bool.false_eq_true, if_false]⟩)
      have gl : ∀ s ∈ ss.filter fun s => !s.eqv (otW w), Good n s := by
        intro s hs
        have ⟨h1, h2⟩ := List.mem_filter.mp hs
        rcases cls s h1 with ⟨_, e⟩ | ⟨g, _⟩
        · rw [e] at h2; cases h2
        · exact g
      have ll : (ss.filter fun s => !s.eqv (otW w)).length ≤ 1000 := Nat.le_trans (List.length_filter_le _ _) hl'
      by_cases he : (ss.filter fun s => !s.eqv (otW w)) = []
      · rw [if_pos he, if_pos otS]
        rw [he] at d1 d2 d3
        unfold grpD
        rw [d1, d2, if_neg (by simp [posE]), if_neg (by simp)]
        have ne := posA_ne (xs := ss.map fun s => if s.isS then some (s, i + 1) else decI (n + 1) s as (i + 1)) (by simpa using h0') (by rw [d2]; rfl)
        rcases d3 _ (maxL_mem ne) with e | e
        · rw [e]
        · cases e
      · rw [if_neg he]
        have gg : (grp w (ss.filter fun s => !s.eqv (otW w))).isS = false := (grp_good (hw.imp id .inl) he ll gl).isS
        rw [if_neg (by rw [gg]; simp)]
        have main : decI (n + 1) (grp w (ss.filter fun s => !s.eqv (otW w))) as (i + 1) = grpD w ((ss.filter fun s => !s.eqv (otW w)).map fun s => decI (n + 1) s as (i + 1)) := by
          generalize (ss.filter fun s => !s.eqv (otW w)) = L at *
          match L, he with
          | [x], _ =>
            exact (grpD_one w fun q hq => (decI_bd (p := q.2) (o := q.1) ha' (gl x (List.mem_singleton.mpr rfl)).succ hq).2.2).symm
          | x :: y :: r, _ => exact decI_grp hw ha' (by simp) ll gl
        rw [main]
        unfold grpD
        rw [d1, d2]
        split
        · rfl
        · split
          · rfl
          · next hn =>
            have hn : ((ss.filter fun s => !s.eqv (otW w)).map fun s => decI (n + 1) s as (i + 1)).any (·.isNone) = false := by simpa using hn
            have n1 := posA_ne (by simpa using he) hn
            have n2 := posA_ne (xs := ss.map fun s => if s.isS then some (s, i + 1) else decI (n + 1) s as (i + 1)) (by simpa using h0') (by rw [d2]; exact hn)
            have m1 := maxL_mem n1
            have m2 := maxL_mem n2
            have l1 := maxL_ge (d4 _ m1)
            have lo : i + 1 ≤ maxL (posA ((ss.filter fun s => !s.eqv (otW w)).map fun s => decI (n + 1) s as (i + 1))) := by
              obtain ⟨o, z⟩ := posA_mem (d4 _ m1)
              exact pos _ _ z
            have l2 : maxL (posA (ss.map fun s => if s.isS then some (s, i + 1) else decI (n + 1) s as (i + 1))) ≤ maxL (posA ((ss.filter fun s => !s.eqv (otW w)).map fun s => decI (n + 1) s as (i + 1))) := by
              rcases d3 _ m2 with e | e
              · rw [e]; exact lo
              · exact maxL_ge e
            rw [show maxL (posA (ss.map fun s => if s.isS then some (s, i + 1) else decI (n + 1) s as (i + 1))) = maxL (posA ((ss.filter fun s => !s.eqv (otW w)).map fun s => decI (n + 1) s as (i + 1))) from by omega]

end TP

namespace TP
open TL
open PySem (Str PyData)
open L2 (atI)
/-- one after another: from where the one is done on the next -/
def seqD (n : Nat) (ds : List Str) : List TL.D → Int → Option (TL.D × Int)
  | [], i => some (.str "done", i)
  | t :: r, i => match decI n t (ds.drop i.toNat) i with
    | none => none
    | some (o, p) => if o.eqv (.str "failed") then some (o, p) else seqD n ds r p
theorem decI_then {n : Nat} {ds : List Str} (hds : ∀ a ∈ ds, PyData.strOk a = true) : ∀ {as : List Str} {ts : List TL.D} {j : Nat}, ds.drop j = as → ts ≠ [] → ts.length ≤ 1000 → (∀ t ∈ ts, Good n t) →
    decI (n + 1) (grp "then" ts) as j = seqD (n + 1) ds ts j
  | [], ts, j, e, h0, hl, hg => by
    match ts, h0 with
    | t :: r, _ =>
      unfold seqD
      rw [Int.toNat_natCast, e]
      rfl
  | a :: as, ts, j, e, h0, hl, hg => by
    have hall : ∀ b ∈ a :: as, PyData.strOk b = true := fun b hb => hds b (List.mem_of_mem_drop (by rw [e]; exact hb))
    have ha0 := hall a (List.mem_cons_self ..)
    have e' : ds.drop (j + 1) = as := by
      rw [← List.drop_drop, e]
      rfl
    match ts, h0 with
    | [t], _ =>
      show decI (n + 1) t (a :: as) j = _
      unfold seqD
      rw [Int.toNat_natCast, e]
      cases hd : decI (n + 1) t (a :: as) j with
      | none => rfl
      | some q =>
        obtain ⟨o, p⟩ := q
        have := decI_bd hall (hg t (List.mem_singleton.mpr rfl)).succ hd
        rcases this.2.2 with rfl | rfl
        · simp [eqv_str, seqD]
        · simp [eqv_str]
    | t :: u :: r, _ =>
      have gt := hg t (List.mem_cons_self ..)
      have gr : ∀ s ∈ u :: r, Good n s := fun s hs => hg s (List.mem_cons_of_mem _ hs)
      have lr : (u :: r).length ≤ 1000 := by simp at hl ⊢; omega
      have rt := beh_res ha0 gt
      have eb : beh (n + 1) (.tup [.str "then", .tup (t :: u :: r)]) a = if (beh n t a).eqv (.str "failed") then .str "failed" else if (beh n t a).eqv (.str "done") then grp "then" (u :: r) else grp "then" (beh n t a :: u :: r) := by
        simp only [beh, if_true]
      show decI (n + 1) (.tup [.str "then", .tup (t :: u :: r)]) (a :: as) j = _
      unfold seqD
      rw [decI_cons eb, Int.toNat_natCast, e, decI_cons (beh_succ (a := a) gt)]
      have c1 : ((j : Int) + 1) = ((j + 1 : Nat) : Int) := by omega
      rcases rt with k | k | k
      · have gg : (grp "then" (u :: r)).isS = false := (grp_good (.inr (.inr rfl)) (by simp) lr gr).isS
        rw [k]
        have q1 : (TL.D.str "done").eqv (.str "failed") = false := by simp [eqv_str]
        have q2 : (TL.D.str "done").eqv (.str "done") = true := by simp [eqv_str]
        have q3 : (TL.D.str "done").isS = true := rfl
        simp only [q1, q2, q3, gg, Bool.false_eq_true, if_false, if_true]
        rw [c1]
        exact decI_then hds e' (by simp) lr gr
      · rw [k]
        simp [eqv_str, TL.D.isS]
      · have gl : ∀ s ∈ beh n t a :: u :: r, Good n s := fun s hs => by
          rcases List.mem_cons.mp hs with rfl | hs
          · exact k
          · exact gr s hs
        have gg : (grp "then" (beh n t a :: u :: r)).isS = false := (grp_good (.inr (.inr rfl)) (by simp) (by simpa using hl) gl).isS
        simp only [k.eqvS, Bool.false_eq_true, if_false, gg, k.isS]
        have := decI_then (ts := beh n t a :: u :: r) hds e' (by simp) (by simpa using hl) gl
        rw [c1, this]
        show (match decI (n + 1) (beh n t a) (ds.drop (((j + 1 : Nat) : Int)).toNat) ((j + 1 : Nat) : Int) with
          | none => none
          | some (o, p) => if o.eqv (.str "failed") then some (o, p) else seqD (n + 1) ds (u :: r) p) = _
        rw [Int.toNat_natCast, e']
theorem tol_some {n : Nat} : ∀ {as : List Str} {t : TL.D} {i : Nat} {o : TL.D} {p : Int}, decI n t as i = some (o, p) → tol n t as i = .tup [o, .int p]
  | [], _, _, _, _, h => by cases h
  | a :: as, t, i, o, p, h => by
    unfold decI at h
    unfold tol
    by_cases hs : (beh n t a).isS = true
    · rw [if_pos hs] at h ⊢
      cases h
      rfl
    · rw [if_neg hs] at h ⊢
      exact tol_some (i := i + 1) h
theorem tol_none {n : Nat} : ∀ {as : List Str} {t : TL.D} {i : Nat}, decI n t as i = none → ∃ h, Und n t as h ∧ tol n t as i = .tup [h, .non]
  | [], t, _, _ => ⟨t, rfl, rfl⟩
  | a :: as, t, i, h => by
    unfold decI at h
    unfold tol
    by_cases hs : (beh n t a).isS = true
    · rw [if_pos hs] at h
      cases h
    · rw [if_neg hs] at h ⊢
      obtain ⟨l, u, e⟩ := tol_none (i := i + 1) h
      exact ⟨l, ⟨by simpa using hs, u⟩, e⟩
theorem decI_app {n : Nat} : ∀ {as : List Str} {t h : TL.D} (bs : List Str) (i : Int), Und n t as h → decI n t (as ++ bs) i = decI n h bs (i + as.length)
  | [], t, h, bs, i, u => by cases u; simp
  | a :: as, t, h, bs, i, u => by
    show (if (beh n t a).isS then some (beh n t a, i + 1) else decI n (beh n t a) (as ++ bs) (i + 1)) = _
    rw [if_neg (by rw [u.1]; simp), decI_app bs (i + 1) u.2]
    congr 1
    simp only [List.length_cons]
    omega
theorem decI_pre {n : Nat} : ∀ {as : List Str} {t : TL.D} (bs : List Str) {i : Int} {q : TL.D × Int}, decI n t as i = some q → decI n t (as ++ bs) i = some q
  | [], _, _, _, _, h => by cases h
  | a :: as, t, bs, i, q, h => by
    show (if (beh n t a).isS then some (beh n t a, i + 1) else decI n (beh n t a) (as ++ bs) (i + 1)) = _
    unfold decI at h
    by_cases hs : (beh n t a).isS = true
    · rw [if_pos hs] at h ⊢
      exact h
    · rw [if_neg hs] at h ⊢
      exact decI_pre bs h
theorem decI_shift {n : Nat} : ∀ {as : List Str} {t : TL.D} {i : Int} (c : Int), decI n t as (i + c) = (decI n t as i).map fun q => (q.1, q.2 + c)
  | [], _, _, _ => rfl
  | a :: as, t, i, c => by
    unfold decI
    split
    · simp only [Option.map]
      congr 2
      omega
    · have := decI_shift (n := n) (as := as) (t := beh n t a) (i := i + 1) c
      rw [← this]
      congr 1
      omega
theorem decI_succ {n : Nat} : ∀ {as : List Str} {t : TL.D} {i : Int}, (∀ a ∈ as, PyData.strOk a = true) → Good n t → decI (n + 1) t as i = decI n t as i
  | [], _, _, _, _ => rfl
  | a :: as, t, i, ha, g => by
    have r := beh_res (ha a (List.mem_cons_self ..)) g
    rw [decI_cons (beh_succ (a := a) g), decI_cons (n := n) rfl]
    cases hs : (beh n t a).isS with
    | true => rfl
    | false =>
      simp only [Bool.false_eq_true, if_false]
      exact decI_succ (fun b hb => ha b (List.mem_cons_of_mem _ hb)) (r.good hs)

end TP

namespace TP
open TL
open PySem (Str PyData)
open L2 (atI)
theorem grp_dr {m n : Nat} {w : String} {ds : List TL.D} (hw : w = "all" ∨ w = "any" ∨ w = "then") (h : ds ≠ []) (l : ds.length ≤ 3) (g : ∀ d ∈ ds, Dr m n d) : Dr m (n + 1) (grp w ds) := by
  match ds, h with
  | [d], _ => exact (g d (List.mem_singleton.mpr rfl)).succ
  | a :: b :: r, _ => exact .inr (.inl ⟨w, a :: b :: r, hw, by simp, l, fun _ => by simp, g, rfl⟩)
theorem sts_dr {m : Nat} : ∀ {n : Nat} {d s : TL.D}, Dr m n d → s ∈ sts n d → Dr m n s
  | 0, _, _, h, _ => h.elim
  | n + 1, d, s, h, hs => by
    have h' := h
    rcases h with ⟨b, k, hb, hk, hkm, rfl⟩ | ⟨w, ts, hw, h1, hl, h2, hg, rfl⟩ | ⟨b, t, hb, hg, rfl⟩ | ⟨k, t, hk, hk9, hg, rfl⟩
    · unfold sts at hs
      obtain ⟨i, hi, rfl⟩ := List.mem_map.mp hs
      have := List.mem_range.mp hi
      exact .inl ⟨b, _, hb, by omega, by omega, rfl⟩
    · unfold sts at hs
      rcases List.mem_append.mp hs with hs | hs
      · split at hs
        · rw [List.mem_singleton.mp hs]
          exact h'
        · cases hs
      · split at hs
        · obtain ⟨t, r, x, a, b, rfl⟩ := suf_mem hs
          have le := a.length_le
          refine grp_dr hw (by simp) (by simp at le ⊢; omega) fun y hy => ?_
          rcases List.mem_cons.mp hy with rfl | hy
          · exact sts_dr (hg t (a.subset (List.mem_cons_self ..))) b
          · exact hg y (a.subset (List.mem_cons_of_mem _ hy))
        · obtain ⟨c, hc, rfl⟩ := List.mem_map.mp hs
          obtain ⟨hc, hn⟩ := List.mem_filter.mp hc
          refine grp_dr hw (by rintro rfl; cases hn) (Nat.le_trans (chs_all hc) hl) fun y hy => ?_
          obtain ⟨t, ht, hy⟩ := chs_mem hc y hy
          exact sts_dr (hg t ht) hy
    · obtain ⟨ds, rfl⟩ := hg.good.isT
      unfold sts at hs
      obtain ⟨x, hx, rfl⟩ := List.mem_map.mp hs
      exact .inr (.inr (.inl ⟨b, x, hb, sts_dr hg hx, rfl⟩))
    · obtain ⟨ds, rfl⟩ := hg.good.isT
      unfold sts at hs
      obtain ⟨i, hi, hs⟩ := List.mem_flatMap.mp hs
      obtain ⟨x, hx, rfl⟩ := List.mem_map.mp hs
      have := List.mem_range.mp hi
      exact .inr (.inr (.inr ⟨_, x, by omega, by omega, sts_dr hg hx, rfl⟩))
theorem in_abc {a : String} (h : Nm a) : (a : Str) ∈ abc := by
  rcases h with rfl | rfl | rfl | rfl <;> simp [abc]
/-- deeds that no task names are all the same -/
theorem beh_fresh {m : Nat} {a b : Str} (ha : a ∉ abc) (hb : b ∉ abc) : ∀ {n : Nat} {d : TL.D}, Dr m n d → beh n d a = beh n d b
  | 0, _, h => h.elim
  | n + 1, d, h => by
    have ne : ∀ {x : String}, Nm x → a ≠ (x : Str) ∧ b ≠ (x : Str) := fun h => ⟨fun e => ha (e ▸ in_abc h), fun e => hb (e ▸ in_abc h)⟩
    rcases h with ⟨x, k, hx, hk, hkm, rfl⟩ | ⟨w, ts, hw, h1, hl, h2, hg, rfl⟩ | ⟨x, t, hx, hg, rfl⟩ | ⟨k, t, hk, hk9, hg, rfl⟩
    · simp only [beh, (ne hx).1, (ne hx).2, if_false]
    · have e : (ts.map fun t => beh n t a) = ts.map fun t => beh n t b := List.map_congr_left fun t ht => beh_fresh ha hb (hg t ht)
      match ts, h1 with
      | t :: r, _ =>
        have et := beh_fresh ha hb (hg t (List.mem_cons_self ..))
        simp only [beh, e, et]
    · have e := beh_fresh ha hb hg
      obtain ⟨ds, rfl⟩ := hg.good.isT
      simp only [beh, e, (ne hx).1, (ne hx).2, if_false]
    · have e := beh_fresh ha hb hg
      simp only [beh, e]
theorem Hits.ren {f : TL.D → Str → Hop} {as : List Str} {X : List TL.D} {ρ : Str → Str} (R : Room f as X) (h : ∀ s ∈ X, ∀ a ∈ as, f s (ρ a) = f s a) : ∀ {w : List Str} {s : TL.D}, s ∈ X → (∀ a ∈ w, a ∈ as) → Hits f s w → Hits f s (w.map ρ)
  | [], _, _, _, k => k.elim
  | a :: w, s, hs, ha, k => by
    have h0 := ha a (List.mem_cons_self ..)
    unfold Hits at k
    rw [List.map_cons]
    unfold Hits
    rw [h s hs a h0]
    cases e : f s a with
    | hit =>
      rw [e] at k
      cases k
      rfl
    | over => rw [e] at k; exact k.elim
    | go x =>
      rw [e] at k
      exact Hits.ren R h (R.go s hs a h0 x e) (fun b hb => ha b (List.mem_cons_of_mem _ hb)) k
theorem hits_tol {n : Nat} {g : TL.D} (hg : g = .str "done" ∨ g = .str "failed") : ∀ {w : List Str} {t : TL.D} (i : Nat), Good n t → (∀ a ∈ w, PyData.strOk a = true) → Hits (hop n g) t w → tol n t w i = .tup [g, .int ((i : Int) + w.length)]
  | [], _, _, _, _, k => k.elim
  | a :: w, t, i, gt, ha, k => by
    have r := beh_res (ha a (List.mem_cons_self ..)) gt
    unfold Hits at k
    unfold tol
    unfold hop at k
    by_cases e : (beh n t a).eqv g = true
    · rw [if_pos e] at k
      cases k
      have eg : beh n t a = g := by
        rcases r with q | q | q
        · rw [q] at e ⊢
          rcases hg with rfl | rfl
          · rfl
          · simp [eqv_str] at e
        · rw [q] at e ⊢
          rcases hg with rfl | rfl
          · simp [eqv_str] at e
          · rfl
        · rcases hg with rfl | rfl <;> (rw [q.eqvS] at e; cases e)
      have : (beh n t a).isS = true := by rw [eg]; rcases hg with rfl | rfl <;> rfl
      rw [if_pos this, eg]
      simp
    · rw [if_neg e] at k
      by_cases s : (beh n t a).isS = true
      · rw [if_pos s] at k
        exact k.elim
      · rw [if_neg s] at k ⊢
        rw [hits_tol hg (i + 1) (r.good (by simpa using s)) (fun b hb => ha b (List.mem_cons_of_mem _ hb)) k]
        simp
        omega
theorem rm_of {m n : Nat} {t : TL.D} {as : List Str} (h : Dr m n t) (n4 : n ≤ 4) (few : (sts n t).length ≤ 900000) (ok : ∀ a ∈ as, PyData.strOk a = true) : Rm n as (sts n t) :=
  ⟨by omega, fun s hs => (sts_good h.good hs).key n4, ok, fun s hs => sts_good h.good hs, fun s hs a ha hi => sts_beh (ok a ha) h.good hs hi, few⟩
theorem abc_strOk : ∀ x ∈ abc, PyData.strOk x = true := by
  intro x hx
  simp only [abc, List.mem_cons, List.not_mem_nil, or_false] at hx
  rcases hx with rfl | rfl | rfl | rfl <;> exact strOk_of _

end TP

namespace TP
open TL
open PySem (Str PyData)
open L2 (atI)
def hop2 (n : Nat) (p : TL.D) (a : Str) : Hop := match p with
  | .tup [x, y] => if (beh n x a).isS || (beh n y a).isS then (if (beh n x a).eqv (beh n y a) then .over else .hit) else .go (.tup [beh n x a, beh n y a])
  | _ => .over
structure Rm2 (n : Nat) (as : List Str) (X : List TL.D) : Prop where
  n4 : n ≤ 20
  ok : ∀ a ∈ as, PyData.strOk a = true
  good : ∀ p ∈ X, ∃ x y, p = .tup [x, y] ∧ Good n x ∧ Good n y ∧ isKey p = true
  cl : ∀ x y, .tup [x, y] ∈ X → ∀ a ∈ as, (beh n x a).isS = false → (beh n y a).isS = false → .tup [beh n x a, beh n y a] ∈ X
  few : X.length ≤ 900000
theorem pair_eq {n : Nat} {x y u v : TL.D} (gx : Good n x) (gy : Good n y) (gu : Good n u) (gv : Good n v) : (TL.D.tup [x, y]).eqv (.tup [u, v]) = true ↔ TL.D.tup [x, y] = .tup [u, v] := by
  have p : ∀ {x y : TL.D}, Good n x → Good n y → pl (.tup [x, y]) = true := fun gx gy => by simp [pl, pls, gx.pl, gy.pl]
  refine ⟨eqv_pl _ _ (p gx gy) (p gu gv), fun e => ?_⟩
  rw [← e]
  exact (okD_tup (n := 2 * n) (ds := [x, y]) fun d hd => by
    simp at hd
    rcases hd with rfl | rfl
    · exact gx.ok
    · exact gy.ok).eqv_refl
theorem Rm2.room {n : Nat} {as : List Str} {X : List TL.D} (R : Rm2 n as X) : Room (hop2 n) as X := by
  refine ⟨fun s hs a ha q e => ?_, fun p hp q hq => ?_⟩
  · obtain ⟨x, y, rfl, gx, gy, _⟩ := R.good s hs
    unfold hop2 at e
    simp only at e
    split at e
    · split at e <;> cases e
    · next h =>
      cases e
      simp only [Bool.or_eq_true, not_or, Bool.not_eq_true] at h
      exact R.cl x y hs a ha h.1 h.2
  · obtain ⟨x, y, rfl, gx, gy, _⟩ := R.good p hp
    obtain ⟨u, v, rfl, gu, gv, _⟩ := R.good q hq
    exact pair_eq gx gy gu gv
theorem un_in {N n : Nat} {as : List Str} {X : List TL.D} (R : Rm2 n as X) (hN : 2 * n + 1 ≤ N) {st : Sto} {t0 t1 L D0 s : TL.D} {w : List Str} (hs : s ∈ X) (hw : w.length ≤ 950000) (body : List S)
    (hb : body = [.set 9 (.tup [.call 12 [.o2 .ix (.var 6) (.con (.int 0)), .var 8], .call 12 [.o2 .ix (.var 6) (.con (.int 1)), .var 8]]), .ifs (.or [.call 8 [.o2 .ix (.var 9) (.con (.int 0))], .call 8 [.o2 .ix (.var 9) (.con (.int 1))]]) [.ifs (.o2 .ne (.o2 .ix (.var 9) (.con (.int 0))) (.o2 .ix (.var 9) (.con (.int 1)))) [.ret (.o2 .add (.var 7) (.tup [.var 8]))] []] [.ifs (.inOwn true (.var 9) 3) [.put 3 (.var 9), .app 5 (.tup [.var 9, .o2 .add (.var 7) (.tup [.var 8])])] []]]) :
    ∀ (bs : List Str) (sn : List TL.D) (mo : List (TL.D × List Str)) (y z : Option TL.D), (∀ b ∈ bs, b ∈ as) → Snd X sn → mo.length ≤ sn.length →
    ∃ y' z', forE (TL.run Pg N) (.nm 8) body (bs.map .str) [some t0, some t1, some D0, some (.mset sn), some L, some (.mlst (mo.map encE)), some s, some (.tup (w.map .str)), y, z] st =
      match inn (hop2 n) s w bs sn mo with
      | .inl r => .rt (.tup (r.map .str)) st
      | .inr (sn', mo') => .nx [some t0, some t1, some D0, some (.mset sn'), some L, some (.mlst (mo'.map encE)), some s, some (.tup (w.map .str)), y', z'] st
  | [], sn, mo, y, z, _, _, _ => ⟨y, z, rfl⟩
  | b :: bs, sn, mo, y, z, hbs, hsn, hmo => by
    have ha := hbs b (List.mem_cons_self ..)
    have hb' := fun c hc => hbs c (List.mem_cons_of_mem _ hc)
    have n4 := R.n4
    obtain ⟨u, v, rfl, gu, gv, _⟩ := R.good s hs
    have wu := w_behind n N (d := u) (a := b) st (by omega) hN (R.ok b ha) gu
    have wv := w_behind n N (d := v) (a := b) st (by omega) hN (R.ok b ha) gv
    have ru := beh_res (R.ok b ha) gu
    have rv := beh_res (R.ok b ha) gv
    have ou := w_is_over (N := N) (by omega) ru st
    have ov := w_is_over (N := N) (by omega) rv st
    have ge := dNe_ok ru.ok rv.ok (by omega) (by omega)
    have u1 := ru.ok.own
    have u2 := rv.ok.own
    have u3 := gu.ok.own
    have u4 := gv.ok.own
    have ad := oAddt' (a := w.map TL.D.str) (b := [.str b]) (by simp; unfold PySem.sizeLine; omega)
    subst hb
    rw [List.map_cons, forE_cons (ρ1 := [some t0, some t1, some D0, some (.mset sn), some L, some (.mlst (mo.map encE)), some (.tup [u, v]), some (.tup (w.map .str)), some (.str b), z]) (by simp)]
    unfold inn
    cases ho : ((beh n u b).isS || (beh n v b).isS) with
    | true =>
      have oo : (beh n u b).isS = true ∨ ((beh n u b).isS = false ∧ (beh n v b).isS = true) := by
        cases e : (beh n u b).isS with
        | true => exact .inl rfl
        | false => rw [e] at ho; exact .inr ⟨rfl, by simpa using ho⟩
      cases hq : (beh n u b).eqv (beh n v b) with
      | true =>
        have eh : hop2 n (.tup [u, v]) b = .over := by unfold hop2; simp only [ho, hq, if_true]
        simp only [eh]
        obtain ⟨y', z', e⟩ := un_in R hN (st := st) (t0 := t0) (t1 := t1) (L := L) (D0 := D0) hs hw _ rfl bs sn mo (some (.str b)) (some (.tup [beh n u b, beh n v b])) hb' hsn hmo
        refine ⟨y', z', ?_⟩
        rw [← e]
        rcases oo with oo | ⟨oo, oo2⟩
        · simp [wu, wv, u1, u2, u3, u4, ge, ou, ov, oo, hq]
        · simp [wu, wv, u1, u2, u3, u4, ge, ou, ov, oo, oo2, hq]
      | false =>
        have eh : hop2 n (.tup [u, v]) b = .hit := by unfold hop2; simp only [ho, hq, if_true, Bool.false_eq_true, if_false]
        simp only [eh]
        refine ⟨none, none, ?_⟩
        rcases oo with oo | ⟨oo, oo2⟩
        · simp [wu, wv, u1, u2, u3, u4, ge, ou, ov, oo, hq, ad]
        · simp [wu, wv, u1, u2, u3, u4, ge, ou, ov, oo, oo2, hq, ad]
    | false =>
      simp only [Bool.or_eq_false_iff] at ho
      obtain ⟨o1, o2⟩ := ho
      have eh : hop2 n (.tup [u, v]) b = .go (.tup [beh n u b, beh n v b]) := by unfold hop2; simp only [o1, o2, Bool.or_false, Bool.false_eq_true, if_false]
      have hx := R.cl u v hs b ha o1 o2
      obtain ⟨_, _, e0, _, _, ky⟩ := R.good _ hx
      have ik := inD_key (ks := sn) ky
      simp only [eh]
      have X1 := R.few
      have X2 := hsn.len
      by_cases m : TL.D.tup [beh n u b, beh n v b] ∈ sn
      · have an := any_in R.room hx m
        simp only [an, if_true]
        obtain ⟨y', z', e⟩ := un_in R hN (st := st) (t0 := t0) (t1 := t1) (L := L) (D0 := D0) hs hw _ rfl bs sn mo (some (.str b)) (some (.tup [beh n u b, beh n v b])) hb' hsn hmo
        refine ⟨y', z', ?_⟩
        rw [← e]
        rw [an] at ik
        simp [wu, wv, u1, u2, u3, u4, ou, ov, o1, o2, ik]
      · have an := any_out R.room hsn hx m
        simp only [an, Bool.false_eq_true, if_false]
        obtain ⟨y', z', e⟩ := un_in R hN (st := st) (t0 := t0) (t1 := t1) (L := L) (D0 := D0) hs hw _ rfl bs (sn ++ [.tup [beh n u b, beh n v b]]) (mo ++ [(.tup [beh n u b, beh n v b], w ++ [b])]) (some (.str b)) (some (.tup [beh n u b, beh n v b])) hb' (hsn.snoc hx m) (by simp; omega)
        refine ⟨y', z', ?_⟩
        rw [← e]
        rw [an] at ik
        have s1 : sn.length < PySem.sizeLine := by unfold PySem.sizeLine; omega
        have s2 : mo.length < PySem.sizeLine := by unfold PySem.sizeLine; omega
        simp [wu, wv, u1, u2, u3, u4, ou, ov, o1, o2, ik, ky, an, s1, s2, ad, encE]
theorem un_lay {N n : Nat} {as : List Str} {X : List TL.D} (R : Rm2 n as X) (hN : 2 * n + 1 ≤ N) {st : Sto} {t0 t1 L : TL.D} {s0 : TL.D} {k : Nat} (hk : k ≤ 950000) (body : List S)
    (hb : body = [.for (.nm 8) .tup [.var 2] [.set 9 (.tup [.call 12 [.o2 .ix (.var 6) (.con (.int 0)), .var 8], .call 12 [.o2 .ix (.var 6) (.con (.int 1)), .var 8]]), .ifs (.or [.call 8 [.o2 .ix (.var 9) (.con (.int 0))], .call 8 [.o2 .ix (.var 9) (.con (.int 1))]]) [.ifs (.o2 .ne (.o2 .ix (.var 9) (.con (.int 0))) (.o2 .ix (.var 9) (.con (.int 1)))) [.ret (.o2 .add (.var 7) (.tup [.var 8]))] []] [.ifs (.inOwn true (.var 9) 3) [.put 3 (.var 9), .app 5 (.tup [.var 9, .o2 .add (.var 7) (.tup [.var 8])])] []]]]) :
    ∀ (l : List (TL.D × List Str)) (sn : List TL.D) (mo : List (TL.D × List Str)) (u v y z : Option TL.D), Kp (hop2 n) as s0 k l sn → Kp (hop2 n) as s0 (k + 1) mo sn → Snd X sn → mo.length ≤ sn.length →
    ∃ u' v' y' z', forE (TL.run Pg N) (.tp [6, 7]) body (l.map encE) [some t0, some t1, some (.tup (as.map .str)), some (.mset sn), some L, some (.mlst (mo.map encE)), u, v, y, z] st =
      match lay (hop2 n) as l sn mo with
      | .inl r => .rt (.tup (r.map .str)) st
      | .inr (sn', mo') => .nx [some t0, some t1, some (.tup (as.map .str)), some (.mset sn'), some L, some (.mlst (mo'.map encE)), u', v', y', z'] st
  | [], sn, mo, u, v, y, z, _, _, _, _ => ⟨u, v, y, z, rfl⟩
  | (s, w) :: l, sn, mo, u, v, y, z, hl, hm, hsn, hmo => by
    obtain ⟨h1, h2, h3, h4⟩ := hl.mem _ (List.mem_cons_self ..)
    have hs := hsn.sub s h1
    obtain ⟨y', z', e⟩ := un_in R hN (st := st) (t0 := t0) (t1 := t1) (L := L) (D0 := .tup (as.map .str)) hs (by have h3 : w.length = k := h3; omega : w.length ≤ 950000) _ rfl as sn mo y z (fun _ h => h) hsn hmo
    have sp := inn_spec R.room hs h2 h3 h4 as sn mo (fun _ h => h) hsn hm
    subst hb
    rw [List.map_cons, forE_cons (ρ1 := [some t0, some t1, some (.tup (as.map .str)), some (.mset sn), some L, some (.mlst (mo.map encE)), some s, some (.tup (w.map .str)), y, z]) (by simp [encE])]
    unfold lay
    simp only [ex1, exfor, evs1, evv, List.getElem?_cons_succ, List.getElem?_cons_zero, own_tup, Bool.false_eq_true, if_false, bind_ok, evs0, k_Es, k_Esb, ofs_ok, k_For, itTup, fopt_some, k_For2, e]
    cases hi : inn (hop2 n) s w as sn mo with
    | inl r => exact ⟨none, none, none, none, by simp⟩
    | inr p =>
      obtain ⟨sn1, mo1⟩ := p
      rw [hi] at sp
      obtain ⟨i1, i2, i3, i4, i5, i6, i7⟩ := sp
      obtain ⟨u2, v2, y2, z2, e2⟩ := un_lay R hN (st := st) (t0 := t0) (t1 := t1) (L := L) (s0 := s0) hk _ rfl l sn1 mo1 (some s) (some (.tup (w.map .str))) y' z' ⟨fun e he => by obtain ⟨a, b⟩ := hl.mem e (List.mem_cons_of_mem _ he); exact ⟨i3 _ a, b⟩⟩ i2 i1 (by omega)
      refine ⟨u2, v2, y2, z2, ?_⟩
      simp only [seq_nx, ex0]
      exact e2
theorem un_go {N n : Nat} {as : List Str} {X : List TL.D} (R : Rm2 n as X) (hN : 2 * n + 1 ≤ N) {st : Sto} {t0 t1 s0 : TL.D} :
    ∀ (f k : Nat) (sn : List TL.D) (l : List (TL.D × List Str)) (x u v y z : Option TL.D), Lyr (hop2 n) as X s0 k sn l → X.length + 1 ≤ f + sn.length ∧ 1 ≤ f ∧ (l ≠ [] → X.length + 2 ≤ f + sn.length) → k ≤ 900000 →
    ∃ r, bfs (hop2 n) as f sn l = some r ∧ TL.finish ((whileE (TL.run Pg N) (.o2 .gt (.o1 .len (.var 4)) (.con (.int 0))) [.own 5 [], .for (.tp [6, 7]) .lst [.var 4] [.for (.nm 8) .tup [.var 2] [.set 9 (.tup [.call 12 [.o2 .ix (.var 6) (.con (.int 0)), .var 8], .call 12 [.o2 .ix (.var 6) (.con (.int 1)), .var 8]]), .ifs (.or [.call 8 [.o2 .ix (.var 9) (.con (.int 0))], .call 8 [.o2 .ix (.var 9) (.con (.int 1))]]) [.ifs (.o2 .ne (.o2 .ix (.var 9) (.con (.int 0))) (.o2 .ix (.var 9) (.con (.int 1)))) [.ret (.o2 .add (.var 7) (.tup [.var 8]))] []] [.ifs (.inOwn true (.var 9) 3) [.put 3 (.var 9), .app 5 (.tup [.var 9, .o2 .add (.var 7) (.tup [.var 8])])] []]]], .freeze 5, .set 4 (.var 5)] f [some t0, some t1, some (.tup (as.map .str)), some (.mset sn), some (.lst (l.map encE)), x, u, v, y, z] st).seq (TL.execs (TL.run Pg N) [.ret (.con .non)])) =
      .ok (match r with | some r => .tup (r.map .str) | none => .non) st
  | 0, _, _, _, _, _, _, _, _, _, h, _ => by omega
  | f + 1, k, sn, [], x, u, v, y, z, L, _, _ => by
    refine ⟨none, rfl, ?_⟩
    rw [whileE_f (by simp)]
    simp
  | f + 1, k, sn, e0 :: l, x, u, v, y, z, L, h, hk => by
    have nx := L.next R.room (by simp)
    have X1 := R.few
    have X2 := L.snd.len
    have kl := L.kl (by simp)
    obtain ⟨u', v', y', z', e⟩ := un_lay R hN (st := st) (t0 := t0) (t1 := t1) (L := .lst ((e0 :: l).map encE)) (s0 := s0) (k := k) (by omega) _ rfl (e0 :: l) sn [] u v y z L.kp ⟨fun _ h => nomatch h⟩ L.snd (by simp)
    have l0 : (0 : Int) < (l.length : Int) + 1 := by omega
    unfold bfs
    cases hj : lay (hop2 n) as (e0 :: l) sn [] with
    | inl r =>
      rw [hj] at e
      refine ⟨some r, rfl, ?_⟩
      rw [whileE_t (by simp [l0])]
      simp only [List.map_cons, List.map_nil] at e
      simp [e]
    | inr p =>
      obtain ⟨sn', mo'⟩ := p
      rw [hj] at e nx
      obtain ⟨n1, n2⟩ := nx
      have h3 := h.2.2 (by simp)
      obtain ⟨r, e1, e2⟩ := un_go R hN (st := st) (t0 := t0) (t1 := t1) (s0 := s0) f (k + 1) sn' mo' (some (.lst (mo'.map encE))) u' v' y' z' n1 ⟨by omega, by omega, fun hm => by
        have : mo'.length ≠ 0 := fun e => hm (List.length_eq_zero_iff.mp e)
        omega⟩ (by omega)
      refine ⟨r, e1, ?_⟩
      rw [← e2]
      rw [whileE_t (by simp [l0])]
      simp only [List.map_cons, List.map_nil] at e
      simp [e]
/-- the deeds of two tasks -/
def twoN (n : Nat) (s t : TL.D) : List Str := srt (srt (named n s) ++ srt (named n t))
theorem twoN_abc {m n : Nat} {s t : TL.D} (hs : Dr m n s) (ht : Dr m n t) : (∀ x ∈ twoN n s t, x ∈ abc) ∧ (twoN n s t).length ≤ 4 :=
  have k : ∀ x ∈ twoN n s t, x ∈ abc := fun x hx => by
    rcases List.mem_append.mp ((srt_mem _).mp hx) with h | h
    · exact (srt_abc hs).1 x h
    · exact (srt_abc ht).1 x h
  ⟨k, nd_len (m := abc) (srt_nd _) k⟩
theorem w_unlike {N m n : Nat} {s t : TL.D} (hs : Dr m n s) (ht : Dr m n t) (hN : 2 * n + 3 ≤ N) {X : List TL.D} (R : Rm2 n (twoN n s t ++ [("aa" : Str)]) X) (hp : .tup [s, t] ∈ X) (st : Sto) :
    ∃ r, Fnd (hop2 n) (twoN n s t ++ [("aa" : Str)]) (.tup [s, t]) r ∧ TL.run Pg N 16 [s, t] st = .ok (match r with | some r => .tup (r.map .str) | none => .non) st := by
  obtain ⟨N, rfl⟩ : ∃ M, N = M + 1 := ⟨N - 1, by omega⟩
  have w1 := w_deeds_of n N (t := s) st (by omega) hs
  have w2 := w_deeds_of n N (t := t) st (by omega) ht
  obtain ⟨ss, sl⟩ := srt_abc hs
  obtain ⟨ts, tl⟩ := srt_abc ht
  obtain ⟨wa, wl⟩ := twoN_abc hs ht
  have a1 := oAddt' (a := (srt (named n s)).map TL.D.str) (b := (srt (named n t)).map TL.D.str) (by simp; unfold PySem.sizeLine; omega)
  have os : o1 .sortedSet (.tup ((srt (named n s) ++ srt (named n t)).map .str)) = some (.lst ((twoN n s t).map .str)) := by
    show (strsOf _).bind _ = _
    rw [strsOf_map]
    show (if _ < 64 then _ else none) = _
    rw [if_pos (by simp; omega)]
    rfl
  have wo := w_other_deed (N := N) (by omega) wa st
  have a2 := oAddt' (a := (twoN n s t).map TL.D.str) (b := [.str "aa"]) (by simp; unfold PySem.sizeLine; omega)
  have X1 := R.few
  obtain ⟨u, v, e0, gu, gv, ky⟩ := R.good _ hp
  cases e0
  have fu : FU = 1000000 := rfl
  obtain ⟨r, e1, e2⟩ := un_go R (by omega : 2 * n + 1 ≤ N) (st := st) (t0 := s) (t1 := t) (s0 := .tup [s, t]) FU 0 [.tup [s, t]] [(.tup [s, t], [])] none none none none none (Lyr.first hp) ⟨by simp; omega, by omega, fun _ => by simp; omega⟩ (by omega)
  obtain ⟨r', e3, e4⟩ := bfs_spec R.room FU 0 [.tup [s, t]] [(.tup [s, t], [])] (Lyr.first hp) ⟨by simp; omega, by omega, fun _ => by simp; omega⟩
  rw [e1] at e3
  cases e3
  refine ⟨r, e4, ?_⟩
  rw [← e2]
  have o1' := gu.ok.own
  have o2' := gv.ok.own
  simp only [List.map_append] at os
  rw [run_c (F := c_unlike) rfl rfl]
  simp [c_unlike, enter, o1', o2', w1, w2, a1, os, wo, a2, ky, encE]
/-- alike: no pair of the room is parted -/
theorem w_alike {N m n : Nat} {s t : TL.D} (hs : Dr m n s) (ht : Dr m n t) (hN : 2 * n + 4 ≤ N) {X : List TL.D} (R : Rm2 n (twoN n s t ++ [("aa" : Str)]) X) (hp : .tup [s, t] ∈ X)
    (no : ∀ x y, .tup [x, y] ∈ X → ∀ a ∈ twoN n s t ++ [("aa" : Str)], (beh n x a).isS || (beh n y a).isS → beh n x a = beh n y a) (st : Sto) :
    TL.run Pg N 17 [s, t] st = .ok (.bl true) st := by
  obtain ⟨N, rfl⟩ : ∃ M, N = M + 1 := ⟨N - 1, by omega⟩
  obtain ⟨r, f, e⟩ := w_unlike hs ht (by omega : 2 * n + 3 ≤ N) R hp st
  obtain ⟨u, v, e0, gu, gv, ky⟩ := R.good _ hp
  cases e0
  have rn : r = none := by
    cases r with
    | none => rfl
    | some w =>
      obtain ⟨hh, hw, _⟩ := f
      obtain ⟨p, a, x, rfl, l1, l2⟩ := hh.split
      have mx : ∀ (p : List Str) (s0 : TL.D), s0 ∈ X → (∀ a ∈ p, a ∈ twoN n s t ++ [("aa" : Str)]) → Lead (hop2 n) s0 p x → x ∈ X := by
        intro p
        induction p with
        | nil => intro s0 h _ l; cases l; exact h
        | cons b p ih =>
          intro s0 h hb ⟨y, k1, k2⟩
          exact ih y (R.room.go s0 h b (hb b (List.mem_cons_self ..)) y k1) (fun c hc => hb c (List.mem_cons_of_mem _ hc)) k2
      have hx := mx p _ hp (fun b hb => hw b (List.mem_append_left _ hb)) l1
      have ha := hw a (List.mem_append_right _ (List.mem_singleton.mpr rfl))
      obtain ⟨q, z, rfl, gq, gz, _⟩ := R.good x hx
      unfold hop2 at l2
      simp only at l2
      split at l2
      · next ho =>
        have ee := no q z hx a ha ho
        rw [ee] at l2
        have : (beh n z a).eqv (beh n z a) = true := (beh_res (R.ok a ha) gz).ok.eqv_refl
        rw [this] at l2
        cases l2
      · cases l2
  subst rn
  have o1' := gu.ok.own
  have o2' := gv.ok.own
  rw [run_c (F := c_alike) rfl rfl]
  simp [c_alike, enter, o1', o2', e]

end TP

namespace TP
open TL
open PySem (Str PyData)
open L2 (atI)
/-- parts of a group: those of the same word are opened -/
def flat1 (w : Str) (p : TL.D) : List TL.D := match p with
  | .tup [.str w', .tup qs] => if w' = w then qs else [p]
  | _ => [p]
def flatD (w : Str) (ps : List TL.D) : List TL.D := ps.flatMap (flat1 w)
def un (w : Str) (ps : List TL.D) : List TL.D := if w = "then" then ps else dedGo [] ps
/-- what once computes -/
def onc : Nat → TL.D → TL.D
  | 0, d => d
  | n + 1, .tup [.str w, .tup ts] => grp w (un w (flatD w (ts.map (onc n))))
  | _ + 1, .tup [.str w, .str b, .int k] => .tup [.str w, .str b, .int k]
  | n + 1, .tup [.str w, .str b, t] => match onc n t with
    | .tup [.str w', .str b', u] => if w' = "without" ∧ b' = b then .tup [.str w', .str b', u] else .tup [.str w, .str b, .tup [.str w', .str b', u]]
    | u => .tup [.str w, .str b, u]
  | n + 1, .tup [.str w, .int k, t] => match onc n t with
    | .tup [.str w', .int j, u] => if w' = "within" then .tup [.str w, .int (min k j), u] else .tup [.str w, .int k, .tup [.str w', .int j, u]]
    | u => .tup [.str w, .int k, u]
  | _ + 1, d => d
/-- a task that is short: what once gives -/
def Nf : Nat → TL.D → Prop
  | 0, _ => False
  | n + 1, d => (∃ a k, PyData.strOk a = true ∧ d = .tup [.str "do", .str a, .int k]) ∨
      (∃ (w : String) (ts : List TL.D), (w = "all" ∨ w = "any" ∨ w = "then") ∧ 2 ≤ ts.length ∧ (∀ t ∈ ts, Nf n t) ∧ (∀ t ∈ ts, flat1 w t = [t]) ∧ un w ts = ts ∧ d = .tup [.str w, .tup ts]) ∨
      (∃ a t, PyData.strOk a = true ∧ Nf n t ∧ (∀ u, t ≠ .tup [.str "without", .str a, u]) ∧ d = .tup [.str "without", .str a, t]) ∨
      (∃ k t, Nf n t ∧ (∀ j u, t ≠ .tup [.str "within", .int j, u]) ∧ d = .tup [.str "within", .int k, t])
theorem Nf.succ : ∀ {n : Nat} {d : TL.D}, Nf n d → Nf (n + 1) d
  | 0, _, h => h.elim
  | n + 1, d, h => by
    rcases h with h | ⟨w, ts, a, b, c, e, f, g⟩ | ⟨a, t, b, c, f, e⟩ | ⟨k, t, c, f, e⟩
    · exact .inl h
    · exact .inr (.inl ⟨w, ts, a, b, fun t ht => (c t ht).succ, e, f, g⟩)
    · exact .inr (.inr (.inl ⟨a, t, b, c.succ, f, e⟩))
    · exact .inr (.inr (.inr ⟨k, t, c.succ, f, e⟩))
theorem Nf.tk : ∀ {n : Nat} {d : TL.D}, Nf n d → Tk n d
  | 0, _, h => h.elim
  | n + 1, d, h => by
    rcases h with h | ⟨w, ts, a, b, c, e, f, g⟩ | ⟨a, t, b, c, f, e⟩ | ⟨k, t, c, f, e⟩
    · exact .inl h
    · exact .inr (.inl ⟨w, ts, a, by rintro rfl; simp at b, fun t ht => (c t ht).tk, g⟩)
    · exact .inr (.inr (.inl ⟨a, t, b, c.tk, e⟩))
    · exact .inr (.inr (.inr ⟨k, t, c.tk, e⟩))
theorem flat1_mem {n : Nat} {w : String} {p x : TL.D} (h : Nf n p) (hx : x ∈ flat1 w p) : Nf n x ∧ flat1 w x = [x] := by
  cases n with
  | zero => exact h.elim
  | succ n =>
    rcases h with ⟨a, k, b, rfl⟩ | ⟨w', ts, a, b, c, e, f, rfl⟩ | ⟨a, t, b, c, f, rfl⟩ | ⟨k, t, c, f, rfl⟩
    · rw [show x = .tup [.str "do", .str a, .int k] from List.mem_singleton.mp hx]
      exact ⟨.inl ⟨a, k, b, rfl⟩, rfl⟩
    · by_cases hw : w' = w
      · subst hw
        have hx : x ∈ ts := by simpa [flat1] using hx
        exact ⟨(c x hx).succ, e x hx⟩
      · have hx : x = .tup [.str w', .tup ts] := by simpa [flat1, hw] using hx
        rw [hx]
        exact ⟨.inr (.inl ⟨w', ts, a, b, c, e, f, rfl⟩), by simp [flat1, hw]⟩
    · have hx : x = .tup [.str "without", .str a, t] := by
        simpa [flat1] using hx
      rw [hx]
      exact ⟨.inr (.inr (.inl ⟨a, t, b, c, f, rfl⟩)), by simp [flat1]⟩
    · have hx : x = .tup [.str "within", .int k, t] := by
        simpa [flat1] using hx
      rw [hx]
      exact ⟨.inr (.inr (.inr ⟨k, t, c, f, rfl⟩)), by simp [flat1]⟩
theorem flat1_ne {n : Nat} {w : String} {p : TL.D} (h : Nf n p) : flat1 w p ≠ [] := by
  cases n with
  | zero => exact h.elim
  | succ n =>
    rcases h with ⟨a, k, b, rfl⟩ | ⟨w', ts, a, b, c, e, f, rfl⟩ | ⟨a, t, b, c, f, rfl⟩ | ⟨k, t, c, f, rfl⟩
    · simp [flat1]
    · by_cases hw : w' = w
      · subst hw
        simp [flat1]
        rintro rfl
        simp at b
      · simp [flat1, hw]
    · simp [flat1]
    · simp [flat1]
theorem flatD_mem {n : Nat} {w : String} {ps : List TL.D} (h : ∀ p ∈ ps, Nf n p) {x : TL.D} (hx : x ∈ flatD w ps) : Nf n x ∧ flat1 w x = [x] := by
  obtain ⟨p, hp, hx⟩ := List.mem_flatMap.mp hx
  exact flat1_mem (h p hp) hx
theorem flatD_id {w : String} : ∀ {xs : List TL.D}, (∀ x ∈ xs, flat1 w x = [x]) → flatD w xs = xs
  | [], _ => rfl
  | x :: xs, h => by
    unfold flatD
    rw [List.flatMap_cons, h x (List.mem_cons_self ..)]
    have := flatD_id (w := w) fun y hy => h y (List.mem_cons_of_mem _ hy)
    unfold flatD at this
    rw [this]
    rfl
theorem un_mem {w : String} {ps : List TL.D} {x : TL.D} (h : x ∈ un w ps) : x ∈ ps := by
  unfold un at h
  split at h
  · exact h
  · rcases ded_mem h with z | z
    · cases z
    · exact z
theorem un_un {n : Nat} {w : String} {ps : List TL.D} (h : ∀ p ∈ ps, Tk n p) : un w (un w ps) = un w ps := by
  unfold un
  split
  · rfl
  · exact ded_ded (acc := []) (b := []) (by simp) (by simp) h
theorem un_ne {n : Nat} {w : String} {ps : List TL.D} (h : ∀ p ∈ ps, Tk n p) (h0 : ps ≠ []) : un w ps ≠ [] := by
  unfold un
  split
  · exact h0
  · match ps, h0 with
    | p :: r, _ => exact List.ne_nil_of_mem (ded_all (acc := []) (by simp) h p (List.mem_cons_self ..))
/-- a group made of short parts is short -/
theorem comb_nf {n : Nat} {w : String} (hw : w = "all" ∨ w = "any" ∨ w = "then") {ps : List TL.D} (h0 : ps ≠ []) (h : ∀ p ∈ ps, Nf n p) : Nf (n + 1) (grp w (un w (flatD w ps))) := by
  have hf : ∀ x ∈ flatD w ps, Nf n x ∧ flat1 w x = [x] := fun x hx => flatD_mem h hx
  have ht : ∀ x ∈ flatD w ps, Tk n x := fun x hx => (hf x hx).1.tk
  have fne : flatD w ps ≠ [] := by
    match ps, h0 with
    | p :: r, _ =>
      obtain ⟨y, hy⟩ := List.exists_mem_of_ne_nil _ (flat1_ne (w := w) (h p (List.mem_cons_self ..)))
      exact List.ne_nil_of_mem (List.mem_flatMap.mpr ⟨p, List.mem_cons_self .., hy⟩)
  have une := un_ne (w := w) ht fne
  have uu := un_un (w := w) ht
  have um : ∀ x ∈ un w (flatD w ps), Nf n x ∧ flat1 w x = [x] := fun x hx => hf x (un_mem hx)
  generalize un w (flatD w ps) = us at *
  match us, une with
  | [x], _ => exact (um x (List.mem_singleton.mpr rfl)).1.succ
  | x :: y :: r, _ => exact .inr (.inl ⟨w, x :: y :: r, hw, by simp, fun t ht => (um t ht).1, fun t ht => (um t ht).2, uu, rfl⟩)
theorem onc_nf : ∀ {n : Nat} {d : TL.D}, Tk n d → Nf n (onc n d)
  | 0, _, h => h.elim
  | n + 1, d, h => by
    rcases h with ⟨a, k, b, rfl⟩ | ⟨w, ts, a, b, e, rfl⟩ | ⟨a, t, b, c, rfl⟩ | ⟨k, t, c, rfl⟩
    · exact .inl ⟨a, k, b, rfl⟩
    · exact comb_nf a (by simpa using b) fun p hp => by
        obtain ⟨t, ht, rfl⟩ := List.mem_map.mp hp
        exact onc_nf (e t ht)
    · have ih := onc_nf c
      obtain ⟨ds, rfl⟩ := c.isT
      simp only [onc]
      split
      · next w' b' u e =>
        split
        · next hc => rw [e] at ih; exact ih.succ
        · next hc =>
          rw [e] at ih
          refine .inr (.inr (.inl ⟨a, _, b, ih, fun u' z => hc ?_, rfl⟩))
          cases z
          exact ⟨rfl, rfl⟩
      · next hc => exact .inr (.inr (.inl ⟨a, _, b, ih, fun u' z => hc _ _ _ z, rfl⟩))
    · have ih := onc_nf c
      simp only [onc]
      split
      · next w' j u e =>
        split
        · next hc =>
          subst hc
          rw [e] at ih
          cases n with
          | zero => exact ih.elim
          | succ n =>
            rcases ih with ⟨_, _, _, z⟩ | ⟨_, _, _, _, _, _, _, z⟩ | ⟨_, _, _, _, _, z⟩ | ⟨k', t', c', f', z⟩
            · simp at z
            · simp at z
            · simp at z
            · simp at z
              obtain ⟨rfl, rfl⟩ := z
              exact .inr (.inr (.inr ⟨_, _, c'.succ, f', rfl⟩))
        · next hc =>
          rw [e] at ih
          refine .inr (.inr (.inr ⟨k, _, ih, fun j' u' z => hc ?_, rfl⟩))
          cases z
          rfl
      · next hc => exact .inr (.inr (.inr ⟨k, _, ih, fun j' u' z => hc _ _ _ z, rfl⟩))

end TP

namespace TP
open TL
open PySem (Str PyData)
open L2 (atI)
/-- one step, from outside -/
inductive Stp : TL.D → TL.D → Prop
  | one (w : String) (x : TL.D) : w = "all" ∨ w = "any" ∨ w = "then" → Stp (.tup [.str w, .tup [x]]) x
  | spl (w : String) (A us C : List TL.D) : w = "all" ∨ w = "any" ∨ w = "then" → Stp (.tup [.str w, .tup (A ++ .tup [.str w, .tup us] :: C)]) (.tup [.str w, .tup (A ++ us ++ C)])
  | dup (w : String) (p : TL.D) (A C : List TL.D) : w = "all" ∨ w = "any" → p ∈ A → Stp (.tup [.str w, .tup (A ++ p :: C)]) (.tup [.str w, .tup (A ++ C)])
  | inn (w : String) (p q : TL.D) (A C : List TL.D) : w = "all" ∨ w = "any" ∨ w = "then" → Stp p q → Stp (.tup [.str w, .tup (A ++ p :: C)]) (.tup [.str w, .tup (A ++ q :: C)])
  | wow (b : Str) (v : TL.D) : Stp (.tup [.str "without", .str b, .tup [.str "without", .str b, v]]) (.tup [.str "without", .str b, v])
  | wiw (k j : Int) (v : TL.D) : Stp (.tup [.str "within", .int k, .tup [.str "within", .int j, v]]) (.tup [.str "within", .int (min k j), v])
  | woi (b : Str) (t u : TL.D) : Stp t u → Stp (.tup [.str "without", .str b, t]) (.tup [.str "without", .str b, u])
  | wii (k : Int) (t u : TL.D) : Stp t u → Stp (.tup [.str "within", .int k, t]) (.tup [.str "within", .int k, u])
theorem Tk.grpI {n : Nat} {w : String} {ts : List TL.D} (h : Tk (n + 1) (.tup [.str w, .tup ts])) : (w = "all" ∨ w = "any" ∨ w = "then") ∧ ts ≠ [] ∧ ∀ t ∈ ts, Tk n t := by
  rcases h with ⟨a, k, _, e⟩ | ⟨w', ts', a, b, c, e⟩ | ⟨a, t, b, c, e⟩ | ⟨k, t, c, e⟩
  · simp at e
  · simp at e
    obtain ⟨rfl, rfl⟩ := e
    exact ⟨a, b, c⟩
  · simp at e
  · simp at e
theorem Tk.woI {n : Nat} {b : Str} {t : TL.D} (h : Tk (n + 1) (.tup [.str "without", .str b, t])) : PyData.strOk b = true ∧ Tk n t := by
  rcases h with ⟨a, k, _, e⟩ | ⟨w', ts', a, b, c, e⟩ | ⟨a, t, b, c, e⟩ | ⟨k, t, c, e⟩
  · simp at e
  · simp at e
  · simp at e
    obtain ⟨rfl, rfl⟩ := e
    exact ⟨b, c⟩
  · simp at e
theorem Tk.wiI {n : Nat} {k : Int} {t : TL.D} (h : Tk (n + 1) (.tup [.str "within", .int k, t])) : Tk n t := by
  rcases h with ⟨a, k, _, e⟩ | ⟨w', ts', a, b, c, e⟩ | ⟨a, t, b, c, e⟩ | ⟨k, t, c, e⟩
  · simp at e
  · simp at e
  · simp at e
  · simp at e
    obtain ⟨rfl, rfl⟩ := e
    exact c
theorem Stp.tk {t u : TL.D} (s : Stp t u) : ∀ {n : Nat}, Tk n t → Tk n u := by
  induction s with
  | one w x hw =>
    intro n h
    cases n with
    | zero => exact h.elim
    | succ n => exact (h.grpI.2.2 x (List.mem_singleton.mpr rfl)).succ
  | spl w A us C hw =>
    intro n h
    cases n with
    | zero => exact h.elim
    | succ n =>
      obtain ⟨_, h0, hg⟩ := h.grpI
      have hp := hg (.tup [.str w, .tup us]) (by simp)
      cases n with
      | zero => exact hp.elim
      | succ n =>
        obtain ⟨_, u0, ug⟩ := hp.grpI
        refine .inr (.inl ⟨w, _, hw, by simp [u0], fun t ht => ?_, rfl⟩)
        rcases List.mem_append.mp ht with ht | ht
        · rcases List.mem_append.mp ht with ht | ht
          · exact hg t (List.mem_append_left _ ht)
          · exact (ug t ht).succ
        · exact hg t (List.mem_append_right _ (List.mem_cons_of_mem _ ht))
  | dup w p A C hw hp =>
    intro n h
    cases n with
    | zero => exact h.elim
    | succ n =>
      obtain ⟨_, h0, hg⟩ := h.grpI
      refine .inr (.inl ⟨w, _, hw.imp id .inl, ?_, fun t ht => ?_, rfl⟩)
      · exact List.ne_nil_of_mem (List.mem_append_left _ hp)
      · rcases List.mem_append.mp ht with ht | ht
        · exact hg t (List.mem_append_left _ ht)
        · exact hg t (List.mem_append_right _ (List.mem_cons_of_mem _ ht))
  | inn w p q A C hw s ih =>
    intro n h
    cases n with
    | zero => exact h.elim
    | succ n =>
      obtain ⟨_, h0, hg⟩ := h.grpI
      refine .inr (.inl ⟨w, _, hw, by simp, fun t ht => ?_, rfl⟩)
      rcases List.mem_append.mp ht with ht | ht
      · exact hg t (List.mem_append_left _ ht)
      · rcases List.mem_cons.mp ht with rfl | ht
        · exact ih (hg p (by simp))
        · exact hg t (List.mem_append_right _ (List.mem_cons_of_mem _ ht))
  | wow b v =>
    intro n h
    cases n with
    | zero => exact h.elim
    | succ n => exact h.woI.2.succ
  | wiw k j v =>
    intro n h
    cases n with
    | zero => exact h.elim
    | succ n =>
      have := h.wiI
      cases n with
      | zero => exact this.elim
      | succ n => exact .inr (.inr (.inr ⟨_, v, this.wiI.succ, rfl⟩))
  | woi b t u s ih =>
    intro n h
    cases n with
    | zero => exact h.elim
    | succ n => exact .inr (.inr (.inl ⟨b, u, h.woI.1, ih h.woI.2, rfl⟩))
  | wii k t u s ih =>
    intro n h
    cases n with
    | zero => exact h.elim
    | succ n => exact .inr (.inr (.inr ⟨k, u, ih h.wiI, rfl⟩))
theorem onc_succ : ∀ {n : Nat} {d : TL.D}, Tk n d → onc (n + 1) d = onc n d
  | 0, _, h => h.elim
  | n + 1, d, h => by
    rcases h with ⟨a, k, b, rfl⟩ | ⟨w, ts, a, b, e, rfl⟩ | ⟨a, t, b, c, rfl⟩ | ⟨k, t, c, rfl⟩
    · simp only [onc]
    · have em : ts.map (onc (n + 1)) = ts.map (onc n) := List.map_congr_left fun t ht => onc_succ (e t ht)
      simp only [onc, em]
    · have ec := onc_succ c
      obtain ⟨ds, rfl⟩ := c.isT
      simp only [onc, ec]
    · have ec := onc_succ c
      simp only [onc, ec]

end TP

namespace TP
open TL
open PySem (Str PyData)
open L2 (atI)
theorem self_comb {n : Nat} {w : String} {p : TL.D} (h : Nf n p) : grp w (un w (flat1 w p)) = p := by
  have one : un (Str.ofString w) [p] = [p] := by
    unfold un
    split
    · rfl
    · rfl
  cases n with
  | zero => exact h.elim
  | succ n =>
    rcases h with ⟨a, k, b, rfl⟩ | ⟨w', ts, a, b, c, e, f, rfl⟩ | ⟨a, t, b, c, f, rfl⟩ | ⟨k, t, c, f, rfl⟩
    · rw [show flat1 (Str.ofString w) (.tup [.str "do", .str a, .int k]) = [.tup [.str "do", .str a, .int k]] from rfl, one]
      rfl
    · by_cases hw : w' = w
      · subst hw
        rw [show flat1 (Str.ofString w') (.tup [.str w', .tup ts]) = ts from by simp [flat1], f]
        match ts, b with
        | _ :: _ :: _, _ => rfl
      · rw [show flat1 (Str.ofString w) (.tup [.str w', .tup ts]) = [.tup [.str w', .tup ts]] from by simp [flat1, hw], one]
        rfl
    · rw [show flat1 (Str.ofString w) (.tup [.str "without", .str a, t]) = [.tup [.str "without", .str a, t]] from by simp [flat1], one]
      rfl
    · rw [show flat1 (Str.ofString w) (.tup [.str "within", .int k, t]) = [.tup [.str "within", .int k, t]] from by simp [flat1], one]
      rfl
theorem flatD_app (w : Str) (as bs : List TL.D) : flatD w (as ++ bs) = flatD w as ++ flatD w bs := by
  unfold flatD
  rw [List.flatMap_append]
theorem flatD_cons (w : Str) (a : TL.D) (bs : List TL.D) : flatD w (a :: bs) = flat1 w a ++ flatD w bs := by
  unfold flatD
  rw [List.flatMap_cons]
theorem onc_wo {n : Nat} {b : Str} {t : TL.D} (h : Tk n t) : ∃ z, onc (n + 1) (.tup [.str "without", .str b, t]) = .tup [.str "without", .str b, z] := by
  obtain ⟨ds, rfl⟩ := h.isT
  simp only [onc]
  split
  · split
    · next hc => exact ⟨_, by rw [hc.1, hc.2]⟩
    · exact ⟨_, rfl⟩
  · exact ⟨_, rfl⟩
theorem Stp.onc {t u : TL.D} (s : Stp t u) : ∀ {n : Nat}, Tk n t → onc n u = onc n t := by
  induction s with
  | one w x hw =>
    intro n h
    cases n with
    | zero => exact h.elim
    | succ n =>
      have hx := h.grpI.2.2 x (List.mem_singleton.mpr rfl)
      rw [onc_succ hx]
      simp only [TP.onc, List.map_cons, List.map_nil, flatD_cons]
      rw [show flatD (Str.ofString w) [] = [] from rfl, List.append_nil]
      exact (self_comb (onc_nf hx)).symm
  | spl w A us C hw =>
    intro n h
    cases n with
    | zero => exact h.elim
    | succ n =>
      obtain ⟨_, h0, hg⟩ := h.grpI
      have hp := hg (.tup [.str w, .tup us]) (by simp)
      cases n with
      | zero => exact hp.elim
      | succ n =>
        obtain ⟨_, u0, ug⟩ := hp.grpI
        have em : us.map (TP.onc (n + 1)) = us.map (TP.onc n) := List.map_congr_left fun t ht => onc_succ (ug t ht)
        have nf : ∀ p ∈ us.map (TP.onc n), Nf n p := fun p hp => by
          obtain ⟨t, ht, rfl⟩ := List.mem_map.mp hp
          exact onc_nf (ug t ht)
        have ft : ∀ x ∈ flatD w (us.map (TP.onc n)), Nf n x ∧ flat1 w x = [x] := fun x hx => flatD_mem nf hx
        have ea : ∀ x ∈ flatD w (A.map (TP.onc (n + 1))), Tk (n + 1) x := fun x hx => (flatD_mem (n := n + 1) (fun p hp => by
          obtain ⟨t, ht, rfl⟩ := List.mem_map.mp hp
          exact onc_nf (hg t (List.mem_append_left _ ht))) hx).1.tk
        have f1 : flat1 w (TP.onc (n + 1) (.tup [.str w, .tup us])) = un w (flatD w (us.map (TP.onc n))) := by
          have un1 : ∀ x ∈ un w (flatD w (us.map (TP.onc n))), flat1 w x = [x] := fun x hx => (ft x (un_mem hx)).2
          have une := un_ne (w := w) (fun x hx => (ft x hx).1.tk) (by
            match us, u0 with
            | t :: r, _ =>
              obtain ⟨y, hy⟩ := List.exists_mem_of_ne_nil _ (flat1_ne (w := w) (onc_nf (ug t (List.mem_cons_self ..))))
              exact List.ne_nil_of_mem (List.mem_flatMap.mpr ⟨_, List.mem_map.mpr ⟨t, List.mem_cons_self .., rfl⟩, hy⟩))
          simp only [TP.onc]
          generalize un w (flatD w (us.map (TP.onc n))) = U at *
          match U, une with
          | [x], _ => exact un1 x (List.mem_singleton.mpr rfl)
          | x :: y :: r, _ => simp [grp, flat1]
        have key : un w (flatD w ((A ++ us ++ C).map (TP.onc (n + 1)))) = un w (flatD w ((A ++ .tup [.str w, .tup us] :: C).map (TP.onc (n + 1)))) := by
          rw [List.map_append, List.map_append, List.map_append, List.map_cons, flatD_app, flatD_app, flatD_app, flatD_cons, f1, em]
          have tf : ∀ x ∈ flatD w (us.map (TP.onc n)), Tk (n + 1) x := fun x hx => (ft x hx).1.tk.succ
          generalize flatD w (us.map (TP.onc n)) = F at *
          generalize flatD w (A.map (TP.onc (n + 1))) = FA at *
          unfold un
          by_cases ht : w = "then"
          · simp [ht]
          · simp only [str_inj, ht, if_false]
            rw [ded_app, ded_app, ded_app, ded_app]
            rw [ded_ded (n := n + 1) (acc := dedGo [] FA) (b := []) (ps := F) (fun a ha => (ded_mem ha).elim (fun z => by cases z) (ea a)) (by simp) tf]
            rfl
        simp only [TP.onc, key]
  | dup w p A C hw hp =>
    intro n h
    cases n with
    | zero => exact h.elim
    | succ n =>
      obtain ⟨_, h0, hg⟩ := h.grpI
      have wt : w ≠ "then" := by rcases hw with rfl | rfl <;> decide
      have ea : ∀ x ∈ flatD w (A.map (TP.onc n)), Tk n x := fun x hx => (flatD_mem (n := n) (fun p hp => by
        obtain ⟨t, ht, rfl⟩ := List.mem_map.mp hp
        exact onc_nf (hg t (List.mem_append_left _ ht))) hx).1.tk
      have key : un w (flatD w ((A ++ C).map (TP.onc n))) = un w (flatD w ((A ++ p :: C).map (TP.onc n))) := by
        have sub : ∀ x ∈ flat1 w (TP.onc n p), x ∈ flatD w (A.map (TP.onc n)) := fun x hx => List.mem_flatMap.mpr ⟨_, List.mem_map.mpr ⟨p, hp, rfl⟩, hx⟩
        rw [List.map_append, List.map_append, List.map_cons, flatD_app, flatD_app, flatD_cons]
        generalize flatD w (A.map (TP.onc n)) = FA at *
        generalize flat1 w (TP.onc n p) = X at *
        unfold un
        simp only [str_inj, wt, if_false]
        rw [ded_app, ded_app, ded_app]
        rw [ded_sub (n := n) (acc := dedGo [] FA) (ps := X) (fun a ha => (ded_mem ha).elim (fun z => by cases z) (ea a)) fun q hq => ded_all (n := n) (acc := []) (by simp) ea q (sub q hq)]
      simp only [TP.onc, key]
  | inn w p q A C hw s ih =>
    intro n h
    cases n with
    | zero => exact h.elim
    | succ n =>
      have e := ih (h.grpI.2.2 p (by simp))
      simp only [TP.onc, List.map_append, List.map_cons, e]
  | wow b v =>
    intro n h
    cases n with
    | zero => exact h.elim
    | succ n =>
      have h1 := h.woI.2
      cases n with
      | zero => exact h1.elim
      | succ n =>
        obtain ⟨z, ez⟩ := onc_wo (b := b) h1.woI.2
        rw [onc_succ h1]
        have e : TP.onc (n + 1 + 1) (.tup [.str "without", .str b, .tup [.str "without", .str b, v]]) = match TP.onc (n + 1) (.tup [.str "without", .str b, v]) with
          | .tup [.str w', .str b', u] => if w' = "without" ∧ b' = b then .tup [.str w', .str b', u] else .tup [.str "without", .str b, .tup [.str w', .str b', u]]
          | u => .tup [.str "without", .str b, u] := by rw [TP.onc] <;> first | rfl | (intro k hk; cases hk)
        rw [e, ez]
        simp
  | wiw k j v =>
    intro n h
    cases n with
    | zero => exact h.elim
    | succ n =>
      have h1 := h.wiI
      cases n with
      | zero => exact h1.elim
      | succ n =>
        have hv := h1.wiI
        have ev := onc_succ hv
        simp only [TP.onc, ev]
        split
        · next w' i u e =>
          split
          · next hc =>
            first | (simp; done) | (simp; omega)
          · next hc => simp
        · simp
  | woi b t u s ih =>
    intro n h
    cases n with
    | zero => exact h.elim
    | succ n =>
      have e := ih h.woI.2
      obtain ⟨ds, rfl⟩ := h.woI.2.isT
      obtain ⟨es, rfl⟩ := (s.tk h.woI.2).isT
      simp only [TP.onc, e]
  | wii k t u s ih =>
    intro n h
    cases n with
    | zero => exact h.elim
    | succ n =>
      have e := ih h.wiI
      simp only [TP.onc, e]

end TP

namespace TP
open TL
open PySem (Str PyData)
open L2 (atI)
/-- how many tasks -/
def szD : Nat → TL.D → Nat
  | 0, _ => 0
  | n + 1, .tup [.str _, .tup ts] => 1 + (ts.map (szD n)).sum
  | _ + 1, .tup [.str _, .str _, .int _] => 1
  | n + 1, .tup [.str _, _, t] => 1 + szD n t
  | _ + 1, _ => 0
theorem szD_wo {n : Nat} {b : Str} {t : TL.D} (h : Tk n t) : szD (n + 1) (.tup [.str "without", .str b, t]) = 1 + szD n t := by
  obtain ⟨ds, rfl⟩ := h.isT
  simp only [szD]
theorem szD_wi {n : Nat} {k : Int} {t : TL.D} : szD (n + 1) (.tup [.str "within", .int k, t]) = 1 + szD n t := by
  simp only [szD]
theorem szD_grp {n : Nat} {w : Str} {ts : List TL.D} : szD (n + 1) (.tup [.str w, .tup ts]) = 1 + (ts.map (szD n)).sum := by
  simp only [szD]
theorem szD_succ : ∀ {n : Nat} {d : TL.D}, Tk n d → szD (n + 1) d = szD n d
  | 0, _, h => h.elim
  | n + 1, d, h => by
    rcases h with ⟨a, k, b, rfl⟩ | ⟨w, ts, a, b, e, rfl⟩ | ⟨a, t, b, c, rfl⟩ | ⟨k, t, c, rfl⟩
    · simp only [szD]
    · rw [szD_grp, szD_grp, List.map_congr_left fun t ht => szD_succ (e t ht)]
    · rw [szD_wo c.succ, szD_wo c, szD_succ c]
    · rw [szD_wi, szD_wi, szD_succ c]
theorem szD_pos : ∀ {n : Nat} {d : TL.D}, Tk n d → 1 ≤ szD n d
  | 0, _, h => h.elim
  | n + 1, d, h => by
    rcases h with ⟨a, k, b, rfl⟩ | ⟨w, ts, a, b, e, rfl⟩ | ⟨a, t, b, c, rfl⟩ | ⟨k, t, c, rfl⟩
    · simp only [szD]; omega
    · rw [szD_grp]; omega
    · rw [szD_wo c]; omega
    · rw [szD_wi]; omega
theorem szD_len {n : Nat} : ∀ {ts : List TL.D}, (∀ t ∈ ts, Tk n t) → ts.length ≤ (ts.map (szD n)).sum
  | [], _ => Nat.zero_le _
  | t :: ts, h => by
    have := szD_len (n := n) fun s hs => h s (List.mem_cons_of_mem _ hs)
    have := szD_pos (h t (List.mem_cons_self ..))
    simp only [List.length_cons, List.map_cons, List.sum_cons]
    omega
theorem Stp.sz {t u : TL.D} (s : Stp t u) : ∀ {n : Nat}, Tk n t → szD n u < szD n t := by
  induction s with
  | one w x hw =>
    intro n h
    cases n with
    | zero => exact h.elim
    | succ n =>
      have hx := h.grpI.2.2 x (List.mem_singleton.mpr rfl)
      rw [szD_succ hx, szD_grp]
      simp
  | spl w A us C hw =>
    intro n h
    cases n with
    | zero => exact h.elim
    | succ n =>
      have hp := h.grpI.2.2 (.tup [.str w, .tup us]) (by simp)
      cases n with
      | zero => exact hp.elim
      | succ n =>
        have em : us.map (szD (n + 1)) = us.map (szD n) := List.map_congr_left fun t ht => szD_succ (hp.grpI.2.2 t ht)
        rw [szD_grp, szD_grp]
        simp only [List.map_append, List.map_cons, List.sum_append, List.sum_cons, szD_grp, em]
        omega
  | dup w p A C hw hp =>
    intro n h
    cases n with
    | zero => exact h.elim
    | succ n =>
      have := szD_pos (h.grpI.2.2 p (by simp))
      rw [szD_grp, szD_grp]
      simp only [List.map_append, List.map_cons, List.sum_append, List.sum_cons]
      omega
  | inn w p q A C hw s ih =>
    intro n h
    cases n with
    | zero => exact h.elim
    | succ n =>
      have := ih (h.grpI.2.2 p (by simp))
      rw [szD_grp, szD_grp]
      simp only [List.map_append, List.map_cons, List.sum_append, List.sum_cons]
      omega
  | wow b v =>
    intro n h
    cases n with
    | zero => exact h.elim
    | succ n =>
      rw [szD_succ h.woI.2, szD_wo h.woI.2]
      omega
  | wiw k j v =>
    intro n h
    cases n with
    | zero => exact h.elim
    | succ n =>
      have h1 := h.wiI
      cases n with
      | zero => exact h1.elim
      | succ n =>
        rw [szD_wi, szD_wi, szD_wi, szD_succ h1.wiI]
        omega
  | woi b t u s ih =>
    intro n h
    cases n with
    | zero => exact h.elim
    | succ n =>
      have := ih h.woI.2
      rw [szD_wo h.woI.2, szD_wo (s.tk h.woI.2)]
      omega
  | wii k t u s ih =>
    intro n h
    cases n with
    | zero => exact h.elim
    | succ n =>
      have := ih h.wiI
      rw [szD_wi, szD_wi]
      omega
/-- where no step is left -/
def Fx : Nat → TL.D → Prop
  | 0, _ => False
  | n + 1, d => (∃ a k, d = .tup [.str "do", .str a, .int k]) ∨
      (∃ (w : String) (ts : List TL.D), 2 ≤ ts.length ∧ (∀ t ∈ ts, Fx n t) ∧ (∀ t ∈ ts, flat1 w t = [t]) ∧ (w ≠ "then" → ∀ A p C, ts = A ++ p :: C → ¬ p ∈ A) ∧ d = .tup [.str w, .tup ts]) ∨
      (∃ a t, Fx n t ∧ (∀ u, t ≠ .tup [.str "without", .str a, u]) ∧ d = .tup [.str "without", .str a, t]) ∨
      (∃ k t, Fx n t ∧ (∀ j u, t ≠ .tup [.str "within", .int j, u]) ∧ d = .tup [.str "within", .int k, t])
theorem ded_id {n : Nat} : ∀ {ps acc : List TL.D}, (∀ p ∈ acc ++ ps, Tk n p) → (∀ A p C, acc ++ ps = A ++ p :: C → ¬ p ∈ A) → dedGo acc ps = acc ++ ps
  | [], acc, _, _ => by rw [List.append_nil]; rfl
  | p :: ps, acc, ht, h => by
    have np := h acc p ps rfl
    unfold dedGo
    rw [if_neg fun z => np ((isIn_mem (n := n) (fun a ha => ht a (List.mem_append_left _ ha)) (ht p (by simp))).mp z)]
    rw [ded_id (n := n) (ps := ps) (acc := acc ++ [p]) (by simpa using ht) (by simpa using h)]
    simp
theorem onc_fix : ∀ {n : Nat} {d : TL.D}, Tk n d → Fx n d → onc n d = d
  | 0, _, h, _ => h.elim
  | n + 1, d, h, f => by
    rcases f with ⟨a, k, rfl⟩ | ⟨w, ts, h2, ft, fl, nd, rfl⟩ | ⟨a, t, ft, nw, rfl⟩ | ⟨k, t, ft, nw, rfl⟩
    · simp only [onc]
    · obtain ⟨hw, h0, hg⟩ := h.grpI
      have em : ts.map (onc n) = ts := by
        have : ts.map (onc n) = ts.map id := List.map_congr_left fun t ht => onc_fix (hg t ht) (ft t ht)
        rw [this, List.map_id]
      have eu : un w ts = ts := by
        unfold un
        split
        · rfl
        · next hn => exact ded_id (n := n) (acc := []) (by simpa using hg) (by simpa using nd (by simpa using hn))
      simp only [onc, em, flatD_id fl, eu]
      match ts, h2 with
      | _ :: _ :: _, _ => rfl
    · have e := onc_fix h.woI.2 ft
      obtain ⟨ds, rfl⟩ := h.woI.2.isT
      simp only [onc, e]
      split
      · next w' b' u eq =>
        split
        · next hc =>
          obtain ⟨rfl, rfl⟩ := hc
          exact (nw _ eq).elim
        · rw [eq]
      · rfl
    · have e := onc_fix h.wiI ft
      simp only [onc, e]
      split
      · next w' j u =>
        split
        · next hc => subst hc; exact (nw _ _ rfl).elim
        · rfl
      · rfl

end TP

namespace TP
open TL
open PySem (Str PyData)
open L2 (atI)
theorem nf_fix : ∀ {n : Nat} {d : TL.D}, Nf n d → onc n d = d
  | 0, _, h => h.elim
  | n + 1, d, h => by
    rcases h with ⟨a, k, ha, rfl⟩ | ⟨w, ts, hw, h2, hn, hf, hu, rfl⟩ | ⟨a, t, ha, hn, hne, rfl⟩ | ⟨k, t, hn, hne, rfl⟩
    · simp only [onc]
    · have e : ts.map (onc n) = ts := by
        have : ts.map (onc n) = ts.map id := List.map_congr_left fun t ht => nf_fix (hn t ht)
        rw [this, List.map_id]
      simp only [onc, e, flatD_id hf, hu]
      match ts, h2 with
      | a :: b :: r, _ => rfl
    · have e := nf_fix hn
      obtain ⟨ds, rfl⟩ := hn.tk.isT
      simp only [onc, e]
      split
      · next w' b' u q =>
        rw [if_neg]
        · rw [q]
        · rintro ⟨rfl, rfl⟩
          exact hne _ q
      · rfl
    · have e := nf_fix hn
      simp only [onc, e]
      split
      · next w' j u =>
        rw [if_neg]
        rintro rfl
        exact hne _ _ rfl
      · rfl
theorem onc_onc {n : Nat} {d : TL.D} (h : Tk n d) : onc n (onc n d) = onc n d := nf_fix (onc_nf h)

end TP

namespace TP
open TL
open PySem (Str PyData)
open L2 (atI)
theorem Good.tk : ∀ {n : Nat} {d : TL.D}, Good n d → Tk n d
  | 0, _, h => h.elim
  | n + 1, d, h => by
    rcases h with ⟨a, k, b, _, e⟩ | ⟨w, ts, a, b, b2, c, e, f⟩ | ⟨a, t, b, c, e⟩ | ⟨k, t, b, c, e⟩
    · exact .inl ⟨a, k, b.1, e⟩
    · exact .inr (.inl ⟨w, ts, a, b, fun t ht => (e t ht).tk, f⟩)
    · exact .inr (.inr (.inl ⟨a, t, b.1, c.tk, e⟩))
    · exact .inr (.inr (.inr ⟨k, t, c.tk, e⟩))
theorem sum_bd {f : TL.D → Nat} {B : Nat} : ∀ {ds : List TL.D}, (∀ d ∈ ds, f d ≤ B) → (ds.map f).sum ≤ ds.length * B
  | [], _ => by simp
  | d :: ds, h => by
    have a := h d (List.mem_cons_self ..)
    have b := sum_bd (f := f) (B := B) fun x hx => h x (List.mem_cons_of_mem _ hx)
    rw [List.map_cons, List.sum_cons, List.length_cons, Nat.succ_mul]
    omega
theorem grp_sz {n : Nat} {w : Str} {ds : List TL.D} (hl : ds.length ≤ 3) (h : ∀ d ∈ ds, szD (n + 1) d ≤ 4 ^ (n + 1)) : szD (n + 1 + 1) (.tup [.str w, .tup ds]) ≤ 4 ^ (n + 1 + 1) := by
  have p4 : 4 ^ (n + 1 + 1) = 4 * 4 ^ (n + 1) := by rw [Nat.pow_succ, Nat.mul_comm]
  have p1 : 1 ≤ 4 ^ (n + 1) := Nat.one_le_pow _ _ (by decide)
  have b := sum_bd (f := szD (n + 1)) h
  have c : ds.length * 4 ^ (n + 1) ≤ 3 * 4 ^ (n + 1) := Nat.mul_le_mul_right _ hl
  rw [szD_grp]
  omega

end TP

namespace TP
open TL
open PySem (Str PyData)
open L2 (atI)
theorem wo_beh {n : Nat} {b : Str} {t : TL.D} (g : Good n t) (a : Str) : beh (n + 1) (.tup [.str "without", .str b, t]) a = if a = b then .str "failed" else if (beh n t a).isS then beh n t a else .tup [.str "without", .str b, beh n t a] := by
  obtain ⟨ds, rfl⟩ := g.isT
  simp only [beh]
theorem wi_beh {n : Nat} {k : Int} {t : TL.D} (a : Str) : beh (n + 1) (.tup [.str "within", .int k, t]) a = if (beh n t a).isS then beh n t a else if k = 1 then .str "failed" else .tup [.str "within", .int (k - 1), beh n t a] := by
  simp only [beh]
theorem und_wi {n : Nat} : ∀ {as : List Str} {t h : TL.D} {k : Int}, (as.length : Int) < k → Und n t as h → Und (n + 1) (.tup [.str "within", .int k, t]) as (.tup [.str "within", .int (k - as.length), h])
  | [], t, h, k, _, u => by
    cases u
    show _ = _
    simp
  | a :: as, t, h, k, hk, u => by
    simp only [List.length_cons] at hk
    have e := wi_beh (n := n) (k := k) (t := t) a
    rw [if_neg (by rw [u.1]; simp), if_neg (by omega)] at e
    refine ⟨by rw [e]; rfl, ?_⟩
    rw [e]
    have := und_wi (k := k - 1) (by omega) u.2
    simp only [List.length_cons]
    rw [show k - ((as.length + 1 : Nat) : Int) = k - 1 - (as.length : Int) from by omega]
    exact this
theorem und_wo {n : Nat} {b : Str} : ∀ {as : List Str} {t h : TL.D}, (∀ a ∈ as, PyData.strOk a = true) → Good n t → b ∉ as → Und n t as h → Und (n + 1) (.tup [.str "without", .str b, t]) as (.tup [.str "without", .str b, h])
  | [], t, h, _, _, _, u => by
    cases u
    rfl
  | a :: as, t, h, ha, g, hb, u => by
    have e := wo_beh (b := b) g a
    rw [if_neg (fun q => hb (by rw [q]; exact List.mem_cons_self ..)), if_neg (by rw [u.1]; simp)] at e
    refine ⟨by rw [e]; rfl, ?_⟩
    rw [e]
    exact und_wo (fun c hc => ha c (List.mem_cons_of_mem _ hc)) ((beh_res (ha a (List.mem_cons_self ..)) g).good u.1) (fun h => hb (List.mem_cons_of_mem _ h)) u.2
theorem und_tol {n : Nat} {as : List Str} {t h : TL.D} (i : Nat) (u : Und n t as h) : tol n t as i = .tup [h, .non] := by
  have := tol_app [] i u
  rw [List.append_nil] at this
  rw [this]
  rfl
theorem und_dec {n : Nat} : ∀ {as : List Str} {t h : TL.D} (i : Int), Und n t as h → decI n t as i = none
  | [], _, _, _, _ => rfl
  | a :: as, t, h, i, u => by
    unfold decI
    rw [if_neg (by rw [u.1]; simp)]
    exact und_dec (i + 1) u.2
/-- where a deed is done first -/
def fst1 (b : Str) : List Str → Nat
  | [] => 0
  | a :: as => if a = b then 0 else fst1 b as + 1
theorem fst1_le (b : Str) : ∀ as : List Str, fst1 b as ≤ as.length
  | [] => Nat.le_refl _
  | a :: as => by
    have := fst1_le b as
    unfold fst1
    split
    · exact Nat.zero_le _
    · simp only [List.length_cons]; omega
theorem fst1_lt {b : Str} : ∀ {as : List Str}, fst1 b as < as.length → b ∈ as
  | [], h => by simp [fst1] at h
  | a :: as, h => by
    unfold fst1 at h
    split at h
    · next e => rw [e]; exact List.mem_cons_self ..
    · simp only [List.length_cons] at h
      exact List.mem_cons_of_mem _ (fst1_lt (by omega))
theorem fst1_ge {b : Str} : ∀ {as : List Str}, ¬ fst1 b as < as.length → b ∉ as
  | [], _ => by simp
  | a :: as, h => by
    unfold fst1 at h
    split at h
    · simp at h
    · next e =>
      simp only [List.length_cons] at h
      intro hm
      rcases List.mem_cons.mp hm with rfl | hm
      · exact e rfl
      · exact fst1_ge (as := as) (by omega) hm
theorem occ_fst {b : Str} : ∀ {as : List Str} {i : Int}, fst1 b as < as.length → ∃ r, occ b as i = (i + fst1 b as + 1) :: r
  | [], i, h => by simp [fst1] at h
  | a :: as, i, h => by
    unfold fst1 at h ⊢
    unfold occ
    by_cases e : a = b
    · rw [if_pos e, if_pos e]
      exact ⟨occ b as (i + 1), by simp⟩
    · rw [if_neg e] at h
      rw [if_neg e, if_neg e]
      simp only [List.length_cons] at h
      obtain ⟨r, hr⟩ := occ_fst (b := b) (as := as) (i := i + 1) (by omega)
      exact ⟨r, by rw [hr]; congr 1; omega⟩
theorem occ_none {b : Str} : ∀ {as : List Str} {i : Int}, b ∉ as → occ b as i = []
  | [], _, _ => rfl
  | a :: as, i, h => by
    unfold occ
    rw [if_neg (fun e => h (by rw [e]; exact List.mem_cons_self ..))]
    exact occ_none fun hm => h (List.mem_cons_of_mem _ hm)
theorem fst1_idx {b : Str} : ∀ as : List Str, ((as ++ [b]).map TL.D.str).findIdx? (fun y => y.eqv (.str b)) = some (fst1 b as)
  | [] => by simp [fst1, eqv_str]
  | a :: as => by
    have ih := fst1_idx (b := b) as
    unfold fst1
    rw [List.cons_append, List.map_cons, List.findIdx?_cons, eqv_str]
    by_cases e : a = b
    · simp [e]
    · simp only [e, decide_false, if_false, ih]
      rfl
/-- a fresh deed makes nothing done -/
theorem fresh_not {m : Nat} {a : Str} (ha : a ∉ abc) (ok : PyData.strOk a = true) : ∀ {n : Nat} {d : TL.D}, Dr m n d → beh n d a ≠ .str "done"
  | 0, _, h => h.elim
  | n + 1, d, h => by
    have ne : ∀ {x : String}, Nm x → a ≠ (x : Str) := fun h e => ha (e ▸ in_abc h)
    rcases h with ⟨x, k, hx, hk, hkm, rfl⟩ | ⟨w, ts, hw, h1, hl, h2, hg, rfl⟩ | ⟨x, t, hx, hg, rfl⟩ | ⟨k, t, hk, hk9, hg, rfl⟩
    · simp only [beh, ne hx, if_false]
      exact fun h => by cases h
    · have ih : ∀ t ∈ ts, beh n t a ≠ .str "done" := fun t ht => fresh_not ha ok (hg t ht)
      have rs : ∀ t ∈ ts, Res n (beh n t a) := fun t ht => beh_res ok (hg t ht).good
      have ng : ∀ ds : List TL.D, (∀ d ∈ ds, d ≠ .str "done") → grp w ds ≠ .str "done" := by
        intro ds h
        match ds with
        | [] => intro e; cases e
        | [d] => exact h d (List.mem_singleton.mpr rfl)
        | _ :: _ :: _ => intro e; cases e
      by_cases ht : w = "then"
      · subst ht
        match ts, h1 with
        | t :: r, _ =>
          have i0 := ih t (List.mem_cons_self ..)
          have r0 := rs t (List.mem_cons_self ..)
          simp only [beh, if_true]
          have e2 : (beh n t a).eqv (.str "done") = false := by
            rcases r0 with e | e | e
            · exact (i0 e).elim
            · rw [e]; simp [eqv_str]
            · exact e.eqvS _
          rw [e2]
          split
          · intro e; cases e
          · simp only [Bool.false_eq_true, if_false]
            refine ng _ fun d hd => ?_
            rcases List.mem_cons.mp hd with rfl | hd
            · exact i0
            · intro e
              have := (hg d (List.mem_cons_of_mem _ hd)).good.isS
              rw [e] at this
              cases this
      · simp only [beh, str_inj, ht, if_false]
        have ex : ∀ s ∈ ts.map (fun t => beh n t a), s.eqv (.str "done") = false := by
          intro s hs
          obtain ⟨t, ht, rfl⟩ := List.mem_map.mp hs
          rcases rs t ht with e | e | e
          · exact (ih t ht e).elim
          · rw [e]; simp [eqv_str]
          · exact e.eqvS _
        have l0 : (ts.map fun t => beh n t a) ≠ [] := by
          intro e
          rw [List.map_eq_nil_iff] at e
          rw [e] at h1
          simp at h1
        generalize (ts.map fun t => beh n t a) = ss at *
        by_cases wa : w = "any"
        · subst wa
          simp only [if_true]
          rw [show (ss.any fun s => s.eqv (.str "done")) = false from by rw [List.any_eq_false]; intro s hs; rw [ex s hs]; simp]
          simp only [Bool.false_eq_true, if_false]
          split
          · intro e; cases e
          · refine ng _ fun d hd => ?_
            intro e
            have := ex d (List.mem_filter.mp hd).1
            rw [e] at this
            simp [eqv_str] at this
        · simp only [wa, if_false]
          split
          · intro e; cases e
          · have : (ss.filter fun s => !s.eqv (.str "done")) = ss := List.filter_eq_self.mpr fun s hs => by rw [ex s hs]; rfl
            rw [this, if_neg l0]
            refine ng _ fun d hd e => ?_
            have := ex d hd
            rw [e] at this
            simp [eqv_str] at this
    · have ih := fresh_not ha ok hg
      rw [wo_beh hg.good, if_neg (ne hx)]
      split
      · exact ih
      · intro e; cases e
    · have ih := fresh_not ha ok hg
      rw [wi_beh]
      split
      · exact ih
      · split
        · intro e; cases e
        · intro e; cases e
theorem hits_hit {f : TL.D → Str → Hop} {s : TL.D} {a : Str} {w : List Str} (h : f s a = .hit) : Hits f s (a :: w) ↔ w = [] := by
  unfold Hits
  simp only [h]
theorem hits_over {f : TL.D → Str → Hop} {s : TL.D} {a : Str} {w : List Str} (h : f s a = .over) : ¬ Hits f s (a :: w) := by
  unfold Hits
  simp only [h]
  exact id
theorem hits_go {f : TL.D → Str → Hop} {s x : TL.D} {a : Str} {w : List Str} (h : f s a = .go x) : Hits f s (a :: w) ↔ Hits f x w := by
  rw [Hits]
  simp only [h]
theorem hop_hit {n : Nat} {g t : TL.D} {a : Str} (h : beh n t a = g) (k : g = .str "done" ∨ g = .str "failed") : hop n g t a = .hit := by
  unfold hop
  rw [h, if_pos (by rcases k with rfl | rfl <;> simp [eqv_str])]
theorem hop_over {n : Nat} {g x t : TL.D} {a : Str} (h : beh n t a = x) (k : x = .str "done" ∧ g = .str "failed" ∨ x = .str "failed" ∧ g = .str "done") : hop n g t a = .over := by
  unfold hop
  rw [h]
  rcases k with ⟨rfl, rfl⟩ | ⟨rfl, rfl⟩ <;> simp [eqv_str, TL.D.isS]
theorem hop_go {n m : Nat} {g x t : TL.D} {a : Str} (h : beh n t a = x) (k : Good m x) (hg : g = .str "done" ∨ g = .str "failed") : hop n g t a = .go x := by
  unfold hop
  rw [h]
  have e : x.eqv g = false := by rcases hg with rfl | rfl <;> exact k.eqvS _
  rw [e, k.isS]
  rfl
/-- within a number all may fail -/
theorem wi_fails {m n : Nat} {a : Str} (ha : a ∉ abc) (ok : PyData.strOk a = true) : ∀ (k : Nat) {t : TL.D}, Dr m n t → ∃ w, (∀ b ∈ w, b = a) ∧ Hits (hop (n + 1) (.str "failed")) (.tup [.str "within", .int ((k : Int) + 1), t]) w := by
  intro k
  induction k with
  | zero =>
    intro t g
    refine ⟨[a], by simp, ?_⟩
    have r := beh_res ok g.good
    have nd := fresh_not ha ok g
    have e := wi_beh (n := n) (k := ((0 : Nat) : Int) + 1) (t := t) a
    have e : beh (n + 1) (.tup [.str "within", .int (((0 : Nat) : Int) + 1), t]) a = .str "failed" := by
      rw [e]
      rcases r with q | q | q
      · exact (nd q).elim
      · rw [q]; rfl
      · rw [q.isS]; rfl
    exact (hits_hit (hop_hit e (.inr rfl))).mpr rfl
  | succ k ih =>
    intro t g
    have r := beh_res ok g.good
    have nd := fresh_not ha ok g
    have e := wi_beh (n := n) (k := ((k + 1 : Nat) : Int) + 1) (t := t) a
    rcases r with q | q | q
    · exact (nd q).elim
    · refine ⟨[a], by simp, ?_⟩
      rw [q] at e
      exact (hits_hit (hop_hit e (.inr rfl))).mpr rfl
    · have gb : Dr m n (beh n t a) := sts_dr g (sts_beh ok g.good (sts_self g.good) q.isS)
      obtain ⟨w, h1, h2⟩ := ih gb
      refine ⟨a :: w, ?_, ?_⟩
      · intro b hb
        rcases List.mem_cons.mp hb with rfl | hb
        · rfl
        · exact h1 b hb
      · rw [if_neg (by rw [q.isS]; simp), if_neg (by omega), show (((k + 1 : Nat) : Int) + 1 - 1) = (k : Int) + 1 from by omega] at e
        refine (hits_go (hop_go (m := n + 1) e (.inr (.inr (.inr ⟨_, _, by omega, q, rfl⟩))) (.inr rfl))).mpr h2
/-- within a number: the same rows, if they are not longer -/
theorem wi_hits {n : Nat} : ∀ {w : List Str} {t : TL.D} {k : Int}, 1 ≤ k → (∀ a ∈ w, PyData.strOk a = true) → Good n t → (Hits (hop (n + 1) (.str "done")) (.tup [.str "within", .int k, t]) w ↔ Hits (hop n (.str "done")) t w ∧ (w.length : Int) ≤ k)
  | [], _, _, _, _, _ => ⟨fun h => h.elim, fun h => h.1.elim⟩
  | a :: w, t, k, hk, hw, g => by
    have r := beh_res (hw a (List.mem_cons_self ..)) g
    have e := wi_beh (n := n) (k := k) (t := t) a
    have hw' := fun b hb => hw b (List.mem_cons_of_mem _ hb)
    rcases r with q | q | q
    · have e : beh (n + 1) (.tup [.str "within", .int k, t]) a = .str "done" := by rw [e, q]; rfl
      rw [hits_hit (hop_hit e (.inl rfl)), hits_hit (hop_hit q (.inl rfl))]
      refine ⟨fun h => ⟨h, by rw [h]; simp; omega⟩, fun h => h.1⟩
    · have e : beh (n + 1) (.tup [.str "within", .int k, t]) a = .str "failed" := by rw [e, q]; rfl
      exact ⟨fun h => (hits_over (hop_over e (.inr ⟨rfl, rfl⟩)) h).elim, fun h => (hits_over (hop_over q (.inr ⟨rfl, rfl⟩)) h.1).elim⟩
    · rw [if_neg (by rw [q.isS]; simp)] at e
      by_cases h1 : k = 1
      · rw [if_pos h1] at e
        refine ⟨fun h => (hits_over (hop_over e (.inr ⟨rfl, rfl⟩)) h).elim, fun h => ?_⟩
        obtain ⟨x, y⟩ := h
        rw [hits_go (hop_go rfl q (.inl rfl))] at x
        cases w with
        | nil => exact x.elim
        | cons _ _ => simp at y; omega
      · rw [if_neg h1] at e
        rw [hits_go (hop_go rfl q (.inl rfl)), hits_go (hop_go (m := n + 1) e (.inr (.inr (.inr ⟨_, _, by omega, q, rfl⟩))) (.inl rfl)), wi_hits (by omega) hw' q]
        simp only [List.length_cons]
        constructor
        · rintro ⟨x, y⟩
          exact ⟨x, by omega⟩
        · rintro ⟨x, y⟩
          exact ⟨x, by omega⟩

end TP

namespace TP
open TL
open PySem (Str PyData)
open L2 (atI)
theorem pair_key {n : Nat} {x y : TL.D} (gx : Good n x) (gy : Good n y) (ox : okD 7 x) (oy : okD 7 y) : isKey (.tup [x, y]) = true := by
  have p : pl (.tup [x, y]) = true := by simp [pl, pls, gx.pl, gy.pl]
  refine key_of (n := 8) p (okD_tup (n := 7) fun d hd => ?_) (by decide)
  simp at hd
  rcases hd with rfl | rfl
  · exact ox
  · exact oy
theorem okD_wrap {n : Nat} {w : String} {x t : TL.D} (ox : okD n x) (ot : okD n t) : okD (n + 1) (.tup [.str w, x, t]) := okD_tup fun d hd => by
  simp at hd
  rcases hd with rfl | rfl | rfl
  · exact okD_str _ (strOk_of _)
  · exact ox
  · exact ot
/-- without a, without b -/
def wo2 (a b : Str) (s : TL.D) : TL.D := .tup [.str "without", .str a, .tup [.str "without", .str b, s]]
theorem wo2_dr {m n : Nat} {a b : String} {s : TL.D} (ha : Nm a) (hb : Nm b) (h : Dr m n s) : Dr m (n + 2) (wo2 a b s) := .inr (.inr (.inl ⟨a, _, ha, .inr (.inr (.inl ⟨b, _, hb, h, rfl⟩)), rfl⟩))
theorem wo2_beh {n : Nat} {a b : Str} {s : TL.D} (h : Good n (.tup [.str "without", .str b, s]) ∨ True) (g : Good n s) (d : Str) : beh (n + 2) (wo2 a b s) d = if d = a then .str "failed" else if d = b then .str "failed" else if (beh n s d).isS then beh n s d else wo2 a b (beh n s d) := by
  have e := wo_beh (b := b) g d
  show beh (n + 1 + 1) (.tup [.str "without", .str a, .tup [.str "without", .str b, s]]) d = _
  have : beh (n + 1 + 1) (.tup [.str "without", .str a, .tup [.str "without", .str b, s]]) d = if d = a then .str "failed" else if (beh (n + 1) (.tup [.str "without", .str b, s]) d).isS then beh (n + 1) (.tup [.str "without", .str b, s]) d else .tup [.str "without", .str a, beh (n + 1) (.tup [.str "without", .str b, s]) d] := by
    simp only [beh]
  rw [this, e]
  by_cases h1 : d = a
  · rw [if_pos h1, if_pos h1]
  · rw [if_neg h1, if_neg h1]
    by_cases h2 : d = b
    · rw [if_pos h2, if_pos h2]
      rfl
    · rw [if_neg h2, if_neg h2]
      cases hs : (beh n s d).isS with
      | true => simp [hs]
      | false => rfl
theorem wo_room {a b : String} {t : TL.D} {as : List Str} (ha : Nm a) (hb : Nm b) (h : Dr 2 3 t) (ok : ∀ x ∈ as, PyData.strOk x = true) : Rm2 5 as ((sts 3 t).map fun s => .tup [wo2 a b s, wo2 b a s]) := by
  have few : (sts 3 t).length ≤ 900000 := Nat.le_trans (sts_len3 h) (by decide)
  refine ⟨by decide, ok, fun p hp => ?_, fun x y hp d hd h1 h2 => ?_, by simpa using few⟩
  · obtain ⟨s, hs, rfl⟩ := List.mem_map.mp hp
    have ds := sts_dr h hs
    have os := ds.good.okS
    have g1 := (wo2_dr ha hb ds).good
    have g2 := (wo2_dr hb ha ds).good
    refine ⟨_, _, rfl, g1, g2, pair_key g1 g2 ?_ ?_⟩
    · exact okD_wrap (okD_str _ (abc_ok ha).1) (okD_wrap (okD_str _ (abc_ok hb).1) os)
    · exact okD_wrap (okD_str _ (abc_ok hb).1) (okD_wrap (okD_str _ (abc_ok ha).1) os)
  · obtain ⟨s, hs, e⟩ := List.mem_map.mp hp
    cases e
    have gs := sts_good h.good hs
    rw [wo2_beh (.inr trivial) gs] at h1 ⊢
    rw [wo2_beh (.inr trivial) gs] at h2 ⊢
    by_cases q1 : d = a
    · rw [if_pos q1] at h1; cases h1
    · by_cases q2 : d = b
      · rw [if_pos q2] at h2; cases h2
      · rw [if_neg q1, if_neg q2] at h1 ⊢
        rw [if_neg q2, if_neg q1]
        cases q : (beh 3 s d).isS with
        | true => rw [if_pos q, q] at h1; cases h1
        | false => exact List.mem_map.mpr ⟨_, sts_beh (ok d hd) h.good hs q, rfl⟩
theorem wo_no {a b : String} {t x y : TL.D} {d : Str} (h : Dr 2 3 t) (hp : .tup [x, y] ∈ (sts 3 t).map fun s => TL.D.tup [wo2 a b s, wo2 b a s]) (ho : (beh 5 x d).isS || (beh 5 y d).isS) : beh 5 x d = beh 5 y d := by
  obtain ⟨s, hs, e⟩ := List.mem_map.mp hp
  cases e
  have gs := sts_good h.good hs
  rw [wo2_beh (.inr trivial) gs] at ho ⊢
  rw [wo2_beh (.inr trivial) gs] at ho ⊢
  by_cases q1 : d = a
  · rw [if_pos q1]
    by_cases q2 : d = b
    · rw [if_pos q2]
    · rw [if_neg q2, if_pos q1]
  · by_cases q2 : d = b
    · rw [if_neg q1, if_pos q2, if_pos q2]
    · rw [if_neg q1, if_neg q2, if_neg q2, if_neg q1] at ho ⊢
      cases q : (beh 3 s d).isS with
      | true => rw [if_pos rfl, if_pos rfl]
      | false =>
        rw [q] at ho
        simp [wo2, TL.D.isS] at ho
/-- within two numbers -/
def wiP (i j k : Int) (s : TL.D) : TL.D := .tup [.tup [.str "within", .int i, .tup [.str "within", .int j, s]], .tup [.str "within", .int k, s]]
theorem wi2_beh {n : Nat} {i j : Int} {s : TL.D} (d : Str) : beh (n + 2) (.tup [.str "within", .int i, .tup [.str "within", .int j, s]]) d = if (beh n s d).isS then beh n s d else if j = 1 then .str "failed" else if i = 1 then .str "failed" else .tup [.str "within", .int (i - 1), .tup [.str "within", .int (j - 1), beh n s d]] := by
  rw [wi_beh (n := n + 1), wi_beh (n := n)]
  cases q : (beh n s d).isS with
  | true => simp [q]
  | false =>
    by_cases h1 : j = 1
    · simp [h1, TL.D.isS]
    · simp [h1, TL.D.isS]
theorem wi_dr {m n : Nat} {k : Int} {s : TL.D} (h1 : 1 ≤ k) (h9 : k ≤ 9) (h : Dr m n s) : Dr m (n + 1) (.tup [.str "within", .int k, s]) := .inr (.inr (.inr ⟨k, s, h1, h9, h, rfl⟩))
/-- the pairs, from here on -/
def wiX (i j : Int) (X : List TL.D) : List TL.D := (List.range 9).flatMap fun (e : Nat) => if (e : Int) < i ∧ (e : Int) < j then X.map fun s => wiP (i - e) (j - e) (min i j - e) s else []
theorem wiX_mem {i j : Int} {X : List TL.D} {p : TL.D} : p ∈ wiX i j X ↔ ∃ (e : Nat) (s : TL.D), e < 9 ∧ (e : Int) < i ∧ (e : Int) < j ∧ s ∈ X ∧ p = wiP (i - e) (j - e) (min i j - e) s := by
  unfold wiX
  rw [List.mem_flatMap]
  constructor
  · rintro ⟨e, he, h⟩
    split at h
    · next q =>
      obtain ⟨s, hs, rfl⟩ := List.mem_map.mp h
      exact ⟨e, s, List.mem_range.mp he, q.1, q.2, hs, rfl⟩
    · cases h
  · rintro ⟨e, s, h1, h2, h3, h4, rfl⟩
    refine ⟨e, List.mem_range.mpr h1, ?_⟩
    rw [if_pos ⟨h2, h3⟩]
    exact List.mem_map.mpr ⟨s, h4, rfl⟩
theorem wi_step {i j : Int} (hi9 : i ≤ 9) (hj9 : j ≤ 9) {t x y : TL.D} {d : Str} (h : Dr 2 3 t) (ok : PyData.strOk d = true) (hp : .tup [x, y] ∈ wiX i j (sts 3 t)) : ((beh 5 x d).isS || (beh 5 y d).isS → beh 5 x d = beh 5 y d) ∧ ((beh 5 x d).isS = false → (beh 5 y d).isS = false → .tup [beh 5 x d, beh 5 y d] ∈ wiX i j (sts 3 t)) := by
  obtain ⟨e, s, h1, h2, h3, hs, q⟩ := wiX_mem.mp hp
  cases q
  have gs := sts_good h.good hs
  have e1 := wi2_beh (n := 3) (i := i - e) (j := j - e) (s := s) d
  have e2 : beh 5 (.tup [.str "within", .int (min i j - e), s]) d = _ := (wi_beh (n := 4) (k := min i j - e) (t := s) d)
  rw [beh_succ gs] at e2
  rw [e1, e2]
  cases hq : (beh 3 s d).isS with
  | true => simp [hq]
  | false =>
    simp only [Bool.false_eq_true, if_false]
    by_cases hj : j - e = 1
    · rw [if_pos hj, if_pos (by omega)]
      exact ⟨fun _ => rfl, fun h => by cases h⟩
    · rw [if_neg hj]
      by_cases hi : i - e = 1
      · rw [if_pos hi, if_pos (by omega)]
        exact ⟨fun _ => rfl, fun h => by cases h⟩
      · rw [if_neg hi, if_neg (by omega)]
        refine ⟨fun hx => by simp [TL.D.isS] at hx, fun _ _ => wiX_mem.mpr ⟨e + 1, beh 3 s d, by omega, by omega, by omega, sts_beh ok h.good hs hq, ?_⟩⟩
        show _ = wiP _ _ _ _
        unfold wiP
        rw [show i - (e : Int) - 1 = i - ((e + 1 : Nat) : Int) from by omega, show j - (e : Int) - 1 = j - ((e + 1 : Nat) : Int) from by omega, show min i j - (e : Int) - 1 = min i j - ((e + 1 : Nat) : Int) from by omega]
theorem wi_room {i j : Int} (hi : 1 ≤ i) (hi9 : i ≤ 9) (hj : 1 ≤ j) (hj9 : j ≤ 9) {t : TL.D} {as : List Str} (h : Dr 2 3 t) (ok : ∀ x ∈ as, PyData.strOk x = true) : Rm2 5 as (wiX i j (sts 3 t)) := by
  have few := sts_len3 h
  refine ⟨by decide, ok, fun p hp => ?_, fun x y hp d hd h1 h2 => (wi_step hi9 hj9 h (ok d hd) hp).2 h1 h2, ?_⟩
  · obtain ⟨e, s, h1, h2, h3, hs, rfl⟩ := wiX_mem.mp hp
    have ds := sts_dr h hs
    have os := ds.good.okS
    have g1 : Dr 2 5 (.tup [.str "within", .int (i - e), .tup [.str "within", .int (j - e), s]]) := wi_dr (by omega) (by omega) (wi_dr (by omega) (by omega) ds)
    have g2 : Dr 2 5 (.tup [.str "within", .int (min i j - e), s]) := wi_dr (by omega) (by omega) ds.succ
    refine ⟨_, _, rfl, g1.good, g2.good, pair_key g1.good g2.good ?_ ?_⟩
    · exact okD_wrap (okD_int _ _) (okD_wrap (okD_int _ _) os)
    · exact (okD_wrap (okD_int _ _) os).mono (by decide)
  · have : ∀ k : Nat, ((List.range k).flatMap fun (e : Nat) => if (e : Int) < i ∧ (e : Int) < j then (sts 3 t).map fun s => wiP (i - e) (j - e) (min i j - e) s else []).length ≤ k * 19682 := flatm_len (g := fun (e : Nat) => if (e : Int) < i ∧ (e : Int) < j then (sts 3 t).map fun s => wiP (i - e) (j - e) (min i j - e) s else []) fun e => by
      split
      · simpa using few
      · simp
    exact Nat.le_trans (this 9) (by decide)
/-- does a task bear a within -/
def hw : Nat → TL.D → Bool
  | 0, _ => false
  | n + 1, .tup [.str _, .tup ts] => ts.any (hw n)
  | _ + 1, .tup [.str _, .str _, .int _] => false
  | n + 1, .tup [.str _, .str _, t] => hw n t
  | _ + 1, _ => true
theorem nw_fresh {m : Nat} {a : Str} (ha : a ∉ abc) (ok : PyData.strOk a = true) : ∀ {n : Nat} {d : TL.D}, Dr m n d → hw n d = false → (beh n d a).isS = false ∧ ∀ b, PyData.strOk b = true → beh n (beh n d a) b = beh n d b
  | 0, _, h, _ => h.elim
  | n + 1, d, h, hn => by
    have ne : ∀ {x : String}, Nm x → a ≠ (x : Str) := fun h e => ha (e ▸ in_abc h)
    rcases h with ⟨x, k, hx, hk, hkm, rfl⟩ | ⟨w, ts, hw', h1, hl, h2, hg, rfl⟩ | ⟨x, t, hx, hg, rfl⟩ | ⟨k, t, hk, hk9, hg, rfl⟩
    · have e : beh (n + 1) (.tup [.str "do", .str x, .int k]) a = .tup [.str "do", .str x, .int k] := by simp only [beh, ne hx, if_false]
      rw [e]
      exact ⟨rfl, fun _ _ => rfl⟩
    · simp only [hw, List.any_eq_false] at hn
      have ih : ∀ t ∈ ts, (beh n t a).isS = false ∧ ∀ b, PyData.strOk b = true → beh n (beh n t a) b = beh n t b := fun t ht => nw_fresh ha ok (hg t ht) (by simpa using hn t ht)
      have rs : ∀ t ∈ ts, Good n (beh n t a) := fun t ht => (beh_res ok (hg t ht).good).good (ih t ht).1
      by_cases ht : w = "then"
      · subst ht
        match ts, h1, h2 rfl with
        | t :: u :: r, _, _ =>
          have i0 := ih t (List.mem_cons_self ..)
          have g0 := rs t (List.mem_cons_self ..)
          have e : beh (n + 1) (.tup [.str "then", .tup (t :: u :: r)]) a = .tup [.str "then", .tup (beh n t a :: u :: r)] := by
            simp only [beh, if_true]
            rw [g0.eqvS, g0.eqvS]
            rfl
          rw [e]
          refine ⟨rfl, fun b hb => ?_⟩
          simp only [beh, if_true, i0.2 b hb]
      · have wh : w = "all" ∨ w = "any" := by rcases hw' with h | h | h; exact .inl h; exact .inr h; exact (ht h).elim
        have e : beh (n + 1) (.tup [.str w, .tup ts]) a = grp w (ts.map fun t => beh n t a) := by
          simp only [beh, str_inj, ht, if_false]
          have no : ∀ x : Str, ((ts.map fun t => beh n t a).any fun s => s.eqv (.str x)) = false := fun x => by
            rw [List.any_eq_false]
            intro s hs
            obtain ⟨t, ht, rfl⟩ := List.mem_map.mp hs
            rw [(rs t ht).eqvS]
            simp
          have fl : ∀ x : Str, ((ts.map fun t => beh n t a).filter fun s => !s.eqv (.str x)) = ts.map fun t => beh n t a := fun x => List.filter_eq_self.mpr fun s hs => by
            obtain ⟨t, ht, rfl⟩ := List.mem_map.mp hs
            rw [(rs t ht).eqvS]
            rfl
          have l0 : (ts.map fun t => beh n t a) ≠ [] := by
            intro e
            rw [List.map_eq_nil_iff] at e
            rw [e] at h1
            simp at h1
          rcases wh with rfl | rfl
          · simp only [show ((if ("all" : String) = "any" then TL.D.str "done" else TL.D.str "failed") = TL.D.str "failed") from by simp, show ((if ("all" : String) = "any" then TL.D.str "failed" else TL.D.str "done") = TL.D.str "done") from by simp, no, fl, l0, Bool.false_eq_true, if_false]
          · simp only [if_true, no, fl, l0, Bool.false_eq_true, if_false]
        have gg : Good (n + 1) (grp w (ts.map fun t => beh n t a)) := grp_good hw' (by intro e; rw [List.map_eq_nil_iff] at e; rw [e] at h1; simp at h1) (by simp; omega) fun d hd => by
          obtain ⟨t, ht, rfl⟩ := List.mem_map.mp hd
          exact rs t ht
        rw [e]
        refine ⟨gg.isS, fun b hb => ?_⟩
        match ts, h1 with
        | [t], _ =>
          have i0 := ih t (List.mem_singleton.mpr rfl)
          have g0 := rs t (List.mem_singleton.mpr rfl)
          have e1 : beh (n + 1) (grp w ([t].map fun t => beh n t a)) b = beh n t b := by
            show beh (n + 1) (beh n t a) b = _
            rw [beh_succ g0, i0.2 b hb]
          rw [e1]
          have r := beh_res hb (hg t (List.mem_singleton.mpr rfl)).good
          simp only [beh, str_inj, ht, if_false, List.map_cons, List.map_nil, List.any_cons, List.any_nil, Bool.or_false]
          rcases wh with rfl | rfl
          · rcases r with q | q | q
            · simp [q, eqv_str]
            · simp [q, eqv_str]
            · simp [q.eqvS, grp]
          · rcases r with q | q | q
            · simp [q, eqv_str]
            · simp [q, eqv_str]
            · simp [q.eqvS, grp]
        | t :: u :: r, _ =>
          have e1 : ((t :: u :: r).map fun t => beh n t a).map (fun t => beh n t b) = (t :: u :: r).map fun t => beh n t b := by
            rw [List.map_map]
            exact List.map_congr_left fun t ht => (ih t ht).2 b hb
          show beh (n + 1) (.tup [.str w, .tup ((t :: u :: r).map fun t => beh n t a)]) b = _
          simp only [beh, str_inj, ht, if_false, e1]
    · obtain ⟨ds, e0⟩ := hg.good.isT
      have hn' : hw n t = false := by
        subst e0
        simpa only [hw] using hn
      obtain ⟨i1, i2⟩ := nw_fresh ha ok hg hn'
      have r := (beh_res ok hg.good).good i1
      have e : beh (n + 1) (.tup [.str "without", .str x, t]) a = .tup [.str "without", .str x, beh n t a] := by
        rw [wo_beh hg.good, if_neg (ne hx), if_neg (by rw [i1]; simp)]
      rw [e]
      refine ⟨rfl, fun b hb => ?_⟩
      rw [wo_beh hg.good, wo_beh r, i2 b hb]
    · obtain ⟨ds, rfl⟩ := hg.good.isT
      simp [hw] at hn
theorem nw_room {t s0 : TL.D} {as : List Str} (h : Dr 2 3 t) (h0 : Dr 2 3 s0) (same : ∀ b, PyData.strOk b = true → beh 3 s0 b = beh 3 t b) (ok : ∀ x ∈ as, PyData.strOk x = true) : Rm2 3 as (.tup [s0, t] :: (sts 3 t).map fun s => .tup [s, s]) := by
  have few := sts_len3 h
  have key : ∀ {x y : TL.D}, Dr 2 3 x → Dr 2 3 y → isKey (.tup [x, y]) = true := fun hx hy => pair_key hx.good hy.good (hx.good.okS.mono (by decide)) (hy.good.okS.mono (by decide))
  refine ⟨by decide, ok, fun p hp => ?_, fun x y hp d hd h1 h2 => ?_, by simp; omega⟩
  · rcases List.mem_cons.mp hp with rfl | hp
    · exact ⟨_, _, rfl, h0.good, h.good, key h0 h⟩
    · obtain ⟨s, hs, rfl⟩ := List.mem_map.mp hp
      have ds := sts_dr h hs
      exact ⟨_, _, rfl, ds.good, ds.good, key ds ds⟩
  · refine List.mem_cons_of_mem _ ?_
    rcases List.mem_cons.mp hp with q | hp
    · cases q
      rw [same d (ok d hd)]
      exact List.mem_map.mpr ⟨_, sts_beh (ok d hd) h.good (sts_self h.good) h2, rfl⟩
    · obtain ⟨s, hs, q⟩ := List.mem_map.mp hp
      cases q
      exact List.mem_map.mpr ⟨_, sts_beh (ok d hd) h.good hs h2, rfl⟩
theorem nw_no {t s0 x y : TL.D} {d : Str} (ok : PyData.strOk d = true) (same : ∀ b, PyData.strOk b = true → beh 3 s0 b = beh 3 t b) (hp : .tup [x, y] ∈ TL.D.tup [s0, t] :: (sts 3 t).map fun s => .tup [s, s]) : beh 3 x d = beh 3 y d := by
  rcases List.mem_cons.mp hp with q | hp
  · cases q
    exact same d ok
  · obtain ⟨s, hs, q⟩ := List.mem_map.mp hp
    cases q
    rfl

end TP

namespace TP
open TL
open PySem (Str PyData)
open L2 (atI)
theorem hits_dec {n : Nat} {g : TL.D} (hg : g = .str "done" ∨ g = .str "failed") : ∀ {w : List Str} {t : TL.D} {i : Int}, (∀ a ∈ w, PyData.strOk a = true) → Good n t → Hits (hop n g) t w → decI n t w i = some (g, i + w.length)
  | [], _, _, _, _, k => k.elim
  | a :: w, t, i, ha, gt, k => by
    have r := beh_res (ha a (List.mem_cons_self ..)) gt
    have opp : ∀ x, (x = .str "done" ∨ x = .str "failed") → beh n t a = x → decI n t (a :: w) i = some (g, i + (a :: w).length) := by
      intro x hx e
      by_cases q : x = g
      · rw [e] at r
        have e' : beh n t a = g := e.trans q
        rw [hits_hit (hop_hit e' hg)] at k
        rw [decI_cons e', k]
        rcases hg with rfl | rfl <;> rfl
      · refine (hits_over (hop_over e ?_) k).elim
        rcases hx with rfl | rfl <;> rcases hg with rfl | rfl
        · exact (q rfl).elim
        · exact .inl ⟨rfl, rfl⟩
        · exact .inr ⟨rfl, rfl⟩
        · exact (q rfl).elim
    rcases r with e | e | e
    · exact opp _ (.inl rfl) e
    · exact opp _ (.inr rfl) e
    · rw [hits_go (hop_go rfl e hg)] at k
      rw [decI_cons rfl, e.isS]
      simp only [Bool.false_eq_true, if_false, List.length_cons]
      rw [hits_dec hg (fun b hb => ha b (List.mem_cons_of_mem _ hb)) e k]
      congr 2
      omega
theorem dec_hits {n : Nat} {g : TL.D} (hg : g = .str "done" ∨ g = .str "failed") : ∀ {w : List Str} {t : TL.D} {i p : Int}, (∀ a ∈ w, PyData.strOk a = true) → Good n t → decI n t w i = some (g, p) → ∃ v, v <+: w ∧ Hits (hop n g) t v ∧ p = i + v.length
  | [], _, _, _, _, _, k => by cases k
  | a :: w, t, i, p, ha, gt, k => by
    have r := beh_res (ha a (List.mem_cons_self ..)) gt
    rw [decI_cons rfl] at k
    rcases r with e | e | e
    · rw [e] at k
      cases k
      exact ⟨[a], ⟨w, rfl⟩, (hits_hit (hop_hit e hg)).mpr rfl, by simp⟩
    · rw [e] at k
      cases k
      exact ⟨[a], ⟨w, rfl⟩, (hits_hit (hop_hit e hg)).mpr rfl, by simp⟩
    · rw [e.isS] at k
      obtain ⟨v, ⟨x, hv⟩, h2, h3⟩ := dec_hits hg (fun b hb => ha b (List.mem_cons_of_mem _ hb)) e k
      exact ⟨a :: v, ⟨x, by rw [← hv]; rfl⟩, (hits_go (hop_go rfl e hg)).mpr h2, by simp; omega⟩
/-- decided so by these deeds -/
def Dc (n : Nat) (g t : TL.D) (u : List Str) : Prop := ∃ v, v <+: u ∧ Hits (hop n g) t v
theorem Dc.of {n : Nat} {g t : TL.D} {u : List Str} {i p : Int} (hg : g = .str "done" ∨ g = .str "failed") (ok : ∀ a ∈ u, PyData.strOk a = true) (gt : Good n t) (h : decI n t u i = some (g, p)) : Dc n g t u := by
  obtain ⟨v, h1, h2, _⟩ := dec_hits hg ok gt h
  exact ⟨v, h1, h2⟩
theorem Dc.to {n : Nat} {g t : TL.D} {u : List Str} (hg : g = .str "done" ∨ g = .str "failed") (ok : ∀ a ∈ u, PyData.strOk a = true) (gt : Good n t) (h : Dc n g t u) (i : Int) : ∃ p, decI n t u i = some (g, p) := by
  obtain ⟨v, ⟨x, rfl⟩, h2⟩ := h
  have e := hits_dec hg (i := i) (fun a ha => ok a (List.mem_append_left _ ha)) gt h2
  exact ⟨_, decI_pre x e⟩
theorem Dc.pre {n : Nat} {g t : TL.D} {u v : List Str} (h : Dc n g t u) (k : u <+: v) : Dc n g t v := by
  obtain ⟨x, h1, h2⟩ := h
  exact ⟨x, h1.trans k, h2⟩
theorem enW_g (w : String) : enW w = .str "done" ∨ enW w = .str "failed" := by
  unfold enW
  split
  · exact .inl rfl
  · exact .inr rfl
theorem otW_g (w : String) : otW w = .str "done" ∨ otW w = .str "failed" := by
  unfold otW
  split
  · exact .inr rfl
  · exact .inl rfl
theorem en_ne (w : String) : enW w ≠ otW w := by
  unfold enW otW
  split <;> (intro h; cases h)
/-- a group ends by one, or by all -/
theorem grp_en {n : Nat} {w : String} (hw : w = "all" ∨ w = "any") {u : List Str} {ts : List TL.D} (ok : ∀ a ∈ u, PyData.strOk a = true) (h0 : ts ≠ []) (hl : ts.length ≤ 1000) (hg : ∀ t ∈ ts, Good n t) : Dc (n + 1) (enW w) (.tup [.str w, .tup ts]) u ↔ ∃ t ∈ ts, Dc n (enW w) t u := by
  have gg : Good (n + 1) (.tup [.str w, .tup ts]) := .inr (.inl ⟨w, ts, by rcases hw with rfl | rfl; exact .inl rfl; exact .inr (.inl rfl), h0, hl, (by rcases hw with rfl | rfl <;> (intro e; exact absurd e (by decide))), hg, rfl⟩)
  have e := decI_grp hw (i := 0) ok h0 hl hg
  constructor
  · intro h
    obtain ⟨p, hp⟩ := h.to (enW_g w) ok gg 0
    rw [e] at hp
    unfold grpD at hp
    split at hp
    · next hne =>
      have := minL_mem hne
      obtain ⟨o, ho, hq⟩ := posE_mem this
      obtain ⟨t, ht, et⟩ := List.mem_map.mp ho
      have gt := hg t ht
      rw [decI_succ ok gt] at et
      have o2 := (decI_bd ok gt et).2.2
      have : o = enW w := by
        rcases en_ot w o2 with ⟨a, _, _⟩ | ⟨a, b, _⟩
        · exact a
        · rw [b] at hq; cases hq
      rw [this] at et
      exact ⟨t, ht, .of (enW_g w) ok gt et⟩
    · split at hp
      · cases hp
      · exact (en_ne w (Prod.mk.inj (Option.some.inj hp)).1.symm).elim
  · rintro ⟨t, ht, h⟩
    obtain ⟨p, hp⟩ := h.to (enW_g w) ok (hg t ht) 0
    rw [← decI_succ ok (hg t ht)] at hp
    have m : p ∈ posE w (ts.map fun t => decI (n + 1) t u 0) := mem_posE (List.mem_map.mpr ⟨t, ht, hp⟩) (by
      rcases en_ot w (enW_g w) with ⟨_, b, _⟩ | ⟨a, b, _⟩
      · exact b
      · exact (en_ne w a).elim)
    have e2 : decI (n + 1) (.tup [.str w, .tup ts]) u 0 = some (enW w, minL (posE w (ts.map fun t => decI (n + 1) t u 0))) := by
      rw [e]
      unfold grpD
      rw [if_pos (List.ne_nil_of_mem m)]
    exact .of (enW_g w) ok gg e2
theorem grp_ot {n : Nat} {w : String} (hw : w = "all" ∨ w = "any") {u : List Str} {ts : List TL.D} (ok : ∀ a ∈ u, PyData.strOk a = true) (h0 : ts ≠ []) (hl : ts.length ≤ 1000) (hg : ∀ t ∈ ts, Good n t) : Dc (n + 1) (otW w) (.tup [.str w, .tup ts]) u ↔ ∀ t ∈ ts, Dc n (otW w) t u := by
  have gg : Good (n + 1) (.tup [.str w, .tup ts]) := .inr (.inl ⟨w, ts, by rcases hw with rfl | rfl; exact .inl rfl; exact .inr (.inl rfl), h0, hl, (by rcases hw with rfl | rfl <;> (intro e; exact absurd e (by decide))), hg, rfl⟩)
  have e := decI_grp hw (i := 0) ok h0 hl hg
  constructor
  · intro h t ht
    obtain ⟨p, hp⟩ := h.to (otW_g w) ok gg 0
    rw [e] at hp
    unfold grpD at hp
    split at hp
    · exact (en_ne w (Prod.mk.inj (Option.some.inj hp)).1).elim
    · next hne =>
      split at hp
      · cases hp
      · next hno =>
        have gt := hg t ht
        cases hd : decI (n + 1) t u 0 with
        | none =>
          exact (hno (List.any_eq_true.mpr ⟨none, List.mem_map.mpr ⟨t, ht, hd⟩, rfl⟩)).elim
        | some q =>
          obtain ⟨o, p'⟩ := q
          have hd' := hd
          rw [decI_succ ok gt] at hd'
          have o2 := (decI_bd ok gt hd').2.2
          rcases en_ot w o2 with ⟨a, b, _⟩ | ⟨a, _, _⟩
          · exact (hne (List.ne_nil_of_mem (mem_posE (List.mem_map.mpr ⟨t, ht, hd⟩) b))).elim
          · rw [a] at hd'
            exact .of (otW_g w) ok gt hd'
  · intro h
    have al : ∀ t ∈ ts, ∃ p, decI (n + 1) t u 0 = some (otW w, p) := fun t ht => by
      obtain ⟨p, hp⟩ := (h t ht).to (otW_g w) ok (hg t ht) 0
      exact ⟨p, by rw [decI_succ ok (hg t ht), hp]⟩
    have ne : posE w (ts.map fun t => decI (n + 1) t u 0) = [] := by
      cases q : posE w (ts.map fun t => decI (n + 1) t u 0) with
      | nil => rfl
      | cons p r =>
        have : p ∈ posE w (ts.map fun t => decI (n + 1) t u 0) := by rw [q]; exact List.mem_cons_self ..
        obtain ⟨o, ho, hq⟩ := posE_mem this
        obtain ⟨t, ht, et⟩ := List.mem_map.mp ho
        obtain ⟨p', hp'⟩ := al t ht
        rw [et] at hp'
        cases hp'
        rcases en_ot w (otW_g w) with ⟨a, _, _⟩ | ⟨_, b, _⟩
        · exact (en_ne w a.symm).elim
        · rw [b] at hq; cases hq
    have no : ¬ (ts.map fun t => decI (n + 1) t u 0).any (·.isNone) = true := by
      intro q
      obtain ⟨x, hx, hn⟩ := List.any_eq_true.mp q
      obtain ⟨t, ht, rfl⟩ := List.mem_map.mp hx
      obtain ⟨p', hp'⟩ := al t ht
      rw [hp'] at hn
      cases hn
    have e2 : decI (n + 1) (.tup [.str w, .tup ts]) u 0 = some (otW w, maxL (posA (ts.map fun t => decI (n + 1) t u 0))) := by
      rw [e]
      unfold grpD
      rw [if_neg (by rw [ne]; simp), if_neg no]
    exact .of (otW_g w) ok gg e2
/-- one after another -/
def Sq (n : Nat) : List TL.D → List Str → Prop
  | [], _ => True
  | t :: r, u => ∃ v v', u = v ++ v' ∧ Hits (hop n (.str "done")) t v ∧ Sq n r v'
theorem seq_sq {n : Nat} {ds : List Str} (ok : ∀ a ∈ ds, PyData.strOk a = true) : ∀ {ts : List TL.D} {j : Nat} {p : Int}, (∀ t ∈ ts, Good n t) → seqD n ds ts j = some (.str "done", p) → Sq n ts (ds.drop j)
  | [], _, _, _, _ => trivial
  | t :: r, j, p, hg, h => by
    unfold seqD at h
    rw [Int.toNat_natCast] at h
    have okd : ∀ a ∈ ds.drop j, PyData.strOk a = true := fun a ha => ok a (List.mem_of_mem_drop ha)
    have gt := hg t (List.mem_cons_self ..)
    cases hd : decI n t (ds.drop j) j with
    | none => rw [hd] at h; cases h
    | some q =>
      obtain ⟨o, p'⟩ := q
      rw [hd] at h
      simp only at h
      rcases (decI_bd okd gt hd).2.2 with rfl | rfl
      · simp only [eqv_str, str_inj] at h
        obtain ⟨v, ⟨x, hv⟩, h2, h3⟩ := dec_hits (.inl rfl) okd gt hd
        have h : seqD n ds r p' = some (.str "done", p) := by simpa using h
        rw [show p' = ((j + v.length : Nat) : Int) from by omega] at h
        refine ⟨v, x, hv.symm, h2, ?_⟩
        have := seq_sq ok (fun s hs => hg s (List.mem_cons_of_mem _ hs)) h
        rw [← List.drop_drop, ← hv, List.drop_left] at this
        exact this
      · simp [eqv_str] at h
theorem sq_seq {n : Nat} {ds : List Str} (ok : ∀ a ∈ ds, PyData.strOk a = true) : ∀ {ts : List TL.D} {j : Nat}, (∀ t ∈ ts, Good n t) → Sq n ts (ds.drop j) → ∃ p, seqD n ds ts j = some (.str "done", p)
  | [], j, _, _ => ⟨j, rfl⟩
  | t :: r, j, hg, ⟨v, x, hv, h2, h3⟩ => by
    have okd : ∀ a ∈ ds.drop j, PyData.strOk a = true := fun a ha => ok a (List.mem_of_mem_drop ha)
    have gt := hg t (List.mem_cons_self ..)
    have e := decI_pre x (hits_dec (.inl rfl) (i := (j : Int)) (fun a ha => okd a (by rw [hv]; exact List.mem_append_left _ ha)) gt h2)
    rw [← hv] at e
    have h3 : Sq n r (ds.drop (j + v.length)) := by
      rw [← List.drop_drop, hv, List.drop_left]
      exact h3
    obtain ⟨p, hp⟩ := sq_seq ok (j := j + v.length) (fun s hs => hg s (List.mem_cons_of_mem _ hs)) h3
    refine ⟨p, ?_⟩
    unfold seqD
    rw [Int.toNat_natCast, e]
    simp only [eqv_str, str_inj]
    rw [show (j : Int) + (v.length : Int) = ((j + v.length : Nat) : Int) from by omega]
    simpa using hp
theorem then_sq {n : Nat} {u : List Str} {ts : List TL.D} (ok : ∀ a ∈ u, PyData.strOk a = true) (h2 : 2 ≤ ts.length) (hl : ts.length ≤ 1000) (hg : ∀ t ∈ ts, Good n t) : Dc (n + 1) (.str "done") (.tup [.str "then", .tup ts]) u ↔ Sq n ts u := by
  have h0 : ts ≠ [] := by rintro rfl; simp at h2
  have gg : Good (n + 1) (.tup [.str "then", .tup ts]) := .inr (.inl ⟨"then", ts, .inr (.inr rfl), h0, hl, fun _ => h2, hg, rfl⟩)
  have e : decI (n + 1) (.tup [.str "then", .tup ts]) u 0 = seqD (n + 1) u ts 0 := by
    have := decI_then ok (as := u) (j := 0) rfl h0 hl hg
    match ts, h2 with
    | _ :: _ :: _, _ => exact this
  have hsq : ∀ (ts : List TL.D) (u : List Str), (∀ a ∈ u, PyData.strOk a = true) → (∀ t ∈ ts, Good n t) → (Sq (n + 1) ts u ↔ Sq n ts u) := by
    intro ts
    induction ts with
    | nil => intro u _ _; exact Iff.rfl
    | cons t r ih =>
      intro u ok hg
      have gt := hg t (List.mem_cons_self ..)
      have hh : ∀ v, (∀ a ∈ v, PyData.strOk a = true) → (Hits (hop (n + 1) (.str "done")) t v ↔ Hits (hop n (.str "done")) t v) := by
        intro v
        induction v generalizing t with
        | nil => intro _; exact Iff.rfl
        | cons a v ihv =>
          intro hv
          have hb := beh_succ (a := a) gt
          have eh : hop (n + 1) (.str "done") t a = hop n (.str "done") t a := by unfold hop; rw [hb]
          unfold Hits
          rw [eh]
          cases q : hop n (.str "done") t a with
          | hit => exact Iff.rfl
          | over => exact Iff.rfl
          | go y =>
            simp only
            have gy : Good n y := by
              unfold hop at q
              split at q
              · cases q
              · split at q
                · cases q
                · next hns =>
                  cases q
                  exact (beh_res (hv a (List.mem_cons_self ..)) gt).good (by simpa using hns)
            exact ihv y (fun s hs => by
              rcases List.mem_cons.mp hs with rfl | hs
              · exact gy
              · exact hg s (List.mem_cons_of_mem _ hs)) gy fun b hb => hv b (List.mem_cons_of_mem _ hb)
      constructor
      · rintro ⟨v, v', rfl, h2, h3⟩
        exact ⟨v, v', rfl, (hh v fun a ha => ok a (List.mem_append_left _ ha)).mp h2, (ih v' (fun a ha => ok a (List.mem_append_right _ ha)) fun s hs => hg s (List.mem_cons_of_mem _ hs)).mp h3⟩
      · rintro ⟨v, v', rfl, h2, h3⟩
        exact ⟨v, v', rfl, (hh v fun a ha => ok a (List.mem_append_left _ ha)).mpr h2, (ih v' (fun a ha => ok a (List.mem_append_right _ ha)) fun s hs => hg s (List.mem_cons_of_mem _ hs)).mpr h3⟩
  rw [← hsq ts u ok hg]
  constructor
  · intro h
    obtain ⟨p, hp⟩ := h.to (.inl rfl) ok gg 0
    rw [e] at hp
    exact seq_sq ok (j := 0) (fun t ht => (hg t ht).succ) hp
  · intro h
    obtain ⟨p, hp⟩ := sq_seq ok (j := 0) (fun t ht => (hg t ht).succ) h
    have : decI (n + 1) (.tup [.str "then", .tup ts]) u 0 = some (.str "done", p) := by rw [e]; exact hp
    exact .of (.inl rfl) ok gg this
/-- without a deed: the same rows, if it is not in them -/
theorem wo_hits {n : Nat} {b : Str} : ∀ {w : List Str} {t : TL.D}, (∀ a ∈ w, PyData.strOk a = true) → PyData.strOk b = true ∧ b ≠ "zz" → Good n t → (Hits (hop (n + 1) (.str "done")) (.tup [.str "without", .str b, t]) w ↔ Hits (hop n (.str "done")) t w ∧ b ∉ w)
  | [], _, _, _, _ => ⟨fun h => h.elim, fun h => h.1.elim⟩
  | a :: w, t, hw, hb, g => by
    have r := beh_res (hw a (List.mem_cons_self ..)) g
    have e := wo_beh (b := b) g a
    have hw' := fun b hb => hw b (List.mem_cons_of_mem _ hb)
    by_cases q : a = b
    · rw [if_pos q] at e
      exact ⟨fun h => (hits_over (hop_over e (.inr ⟨rfl, rfl⟩)) h).elim, fun h => (h.2 (by rw [q]; exact List.mem_cons_self ..)).elim⟩
    · rw [if_neg q] at e
      have nm : b ∉ a :: w ↔ b ∉ w := by
        rw [List.mem_cons]
        constructor
        · exact fun h k => h (.inr k)
        · rintro h (k | k)
          · exact q k.symm
          · exact h k
      rw [nm]
      rcases r with k | k | k
      · rw [k] at e
        have e : beh (n + 1) (.tup [.str "without", .str b, t]) a = .str "done" := e
        rw [hits_hit (hop_hit e (.inl rfl)), hits_hit (hop_hit k (.inl rfl))]
        exact ⟨fun h => ⟨h, by rw [h]; simp⟩, fun h => h.1⟩
      · rw [k] at e
        exact ⟨fun h => (hits_over (hop_over e (.inr ⟨rfl, rfl⟩)) h).elim, fun h => (hits_over (hop_over k (.inr ⟨rfl, rfl⟩)) h.1).elim⟩
      · rw [if_neg (by rw [k.isS]; simp)] at e
        rw [hits_go (hop_go rfl k (.inl rfl)), hits_go (hop_go (m := n + 1) e (.inr (.inr (.inl ⟨b, _, hb, k, rfl⟩))) (.inl rfl)), wo_hits hw' hb k]

end TP

namespace TP
open TL
open PySem (Str PyData)
open L2 (atI)
theorem named_succ : ∀ {n : Nat} {d : TL.D}, Good n d → named (n + 1) d = named n d ∧ hw (n + 1) d = hw n d
  | 0, _, h => h.elim
  | n + 1, d, h => by
    rcases h with ⟨b, k, hb, hk, rfl⟩ | ⟨w, ts, hw', h0, hl, h2, hg, rfl⟩ | ⟨b, t, hb, hg, rfl⟩ | ⟨k, t, hk, hg, rfl⟩
    · simp [named, hw]
    · have e1 : ts.map (named (n + 1)) = ts.map (named n) := List.map_congr_left fun t ht => (named_succ (hg t ht)).1
      have e2 : ts.map (hw (n + 1)) = ts.map (hw n) := List.map_congr_left fun t ht => (named_succ (hg t ht)).2
      refine ⟨?_, ?_⟩
      · simp only [named, List.flatMap, e1]
      · simp only [hw]
        have : ∀ (f : TL.D → Bool), ts.any f = (ts.map f).any id := fun f => by rw [List.any_map]; rfl
        rw [this, this, e2]
    · have := named_succ hg
      obtain ⟨ds, rfl⟩ := hg.isT
      simp only [named, hw, this.1, this.2, and_self]
    · have := named_succ hg
      obtain ⟨ds, rfl⟩ := hg.isT
      simp only [named, hw, this.1, and_self]
theorem grp_named {n : Nat} {w : Str} {ds : List TL.D} (h0 : ds ≠ []) (hg : ∀ d ∈ ds, Good n d) : named (n + 1) (grp w ds) = ds.flatMap (named n) ∧ hw (n + 1) (grp w ds) = ds.any (hw n) := by
  match ds, h0 with
  | [d], _ =>
    have := named_succ (hg d (List.mem_singleton.mpr rfl))
    simp [grp, this.1, this.2]
  | a :: b :: r, _ => simp [grp, named, hw]
theorem sts_named : ∀ {n : Nat} {d s : TL.D}, Good n d → s ∈ sts n d → (∀ x ∈ named n s, x ∈ named n d) ∧ (hw n d = false → hw n s = false)
  | 0, _, _, h, _ => h.elim
  | n + 1, d, s, h, hs => by
    rcases h with ⟨b, k, hb, hk, rfl⟩ | ⟨w, ts, hw', h0, hl, h2, hg, rfl⟩ | ⟨b, t, hb, hg, rfl⟩ | ⟨k, t, hk, hg, rfl⟩
    · unfold sts at hs
      obtain ⟨i, hi, rfl⟩ := List.mem_map.mp hs
      simp [named, hw]
    · have grpc : ∀ c : List TL.D, c ≠ [] → (∀ s ∈ c, ∃ t ∈ ts, s ∈ sts n t) → (∀ x ∈ named (n + 1) (grp w c), x ∈ named (n + 1) (.tup [.str w, .tup ts])) ∧ (hw (n + 1) (.tup [.str w, .tup ts]) = false → hw (n + 1) (grp w c) = false) := by
        intro c hc hm
        have gc : ∀ s ∈ c, Good n s := fun s hs => by
          obtain ⟨t, ht, h⟩ := hm s hs
          exact sts_good (hg t ht) h
        obtain ⟨e1, e2⟩ := grp_named (w := w) hc gc
        rw [e1, e2]
        refine ⟨fun x hx => ?_, fun hn => ?_⟩
        · obtain ⟨s, hs, hx⟩ := List.mem_flatMap.mp hx
          obtain ⟨t, ht, h⟩ := hm s hs
          simp only [named]
          exact List.mem_flatMap.mpr ⟨t, ht, (sts_named (hg t ht) h).1 x hx⟩
        · simp only [hw, List.any_eq_false] at hn
          rw [List.any_eq_false]
          intro s hs
          obtain ⟨t, ht, h⟩ := hm s hs
          have := (sts_named (hg t ht) h).2 (by simpa using hn t ht)
          simp [this]
      unfold sts at hs
      rcases List.mem_append.mp hs with hs | hs
      · split at hs
        · rw [List.mem_singleton.mp hs]
          exact ⟨fun x hx => hx, fun h => h⟩
        · cases hs
      · split at hs
        · obtain ⟨t, r, x, a, b, rfl⟩ := suf_mem hs
          refine grpc _ (by simp) fun y hy => ?_
          rcases List.mem_cons.mp hy with rfl | hy
          · exact ⟨t, a.subset (List.mem_cons_self ..), b⟩
          · have m := a.subset (List.mem_cons_of_mem _ hy)
            exact ⟨y, m, sts_self (hg y m)⟩
        · obtain ⟨c, hc, rfl⟩ := List.mem_map.mp hs
          obtain ⟨hc, hn⟩ := List.mem_filter.mp hc
          exact grpc c (by rintro rfl; cases hn) fun y hy => chs_mem hc y hy
    · obtain ⟨ds, rfl⟩ := hg.isT
      unfold sts at hs
      obtain ⟨x, hx, rfl⟩ := List.mem_map.mp hs
      have ih := sts_named hg hx
      obtain ⟨xs, rfl⟩ := (sts_good hg hx).isT
      refine ⟨fun y hy => ?_, fun hn => ?_⟩
      · simp only [named] at hy ⊢
        rcases List.mem_cons.mp hy with rfl | hy
        · exact List.mem_cons_self ..
        · exact List.mem_cons_of_mem _ (ih.1 y hy)
      · simp only [hw] at hn ⊢
        exact ih.2 hn
    · obtain ⟨ds, rfl⟩ := hg.isT
      unfold sts at hs
      obtain ⟨i, hi, hs⟩ := List.mem_flatMap.mp hs
      obtain ⟨x, hx, rfl⟩ := List.mem_map.mp hs
      have ih := sts_named hg hx
      obtain ⟨xs, rfl⟩ := (sts_good hg hx).isT
      refine ⟨fun y hy => ?_, fun hn => by simp [hw] at hn⟩
      simp only [named] at hy ⊢
      exact ih.1 y hy
theorem beh_fresh2 {a b : Str} : ∀ {n : Nat} {d : TL.D}, Good n d → a ∉ named n d → b ∉ named n d → beh n d a = beh n d b
  | 0, _, h, _, _ => h.elim
  | n + 1, d, h, ha, hb => by
    rcases h with ⟨x, k, hx, hk, rfl⟩ | ⟨w, ts, hw, h1, hl, h2, hg, rfl⟩ | ⟨x, t, hx, hg, rfl⟩ | ⟨k, t, hk, hg, rfl⟩
    · simp only [named, List.mem_singleton] at ha hb
      simp only [beh, ha, hb, if_false]
    · simp only [named, List.mem_flatMap, not_exists, not_and] at ha hb
      have ih : ∀ t ∈ ts, beh n t a = beh n t b := fun t ht => beh_fresh2 (hg t ht) (ha t ht) (hb t ht)
      have e : (ts.map fun t => beh n t a) = ts.map fun t => beh n t b := List.map_congr_left ih
      match ts, h1 with
      | t :: r, _ =>
        have et := ih t (List.mem_cons_self ..)
        simp only [beh, e, et]
    · obtain ⟨ds, rfl⟩ := hg.isT
      simp only [named, List.mem_cons, not_or] at ha hb
      have e := beh_fresh2 hg ha.2 hb.2
      simp only [beh, e, ha.1, hb.1, if_false]
    · obtain ⟨ds, rfl⟩ := hg.isT
      simp only [named] at ha hb
      have e := beh_fresh2 hg ha hb
      simp only [beh, e]
/-- the deeds of some alone -/
def onl (S u : List Str) : List Str := u.filter fun x => decide (x ∈ S)
theorem onl_app (S u v : List Str) : onl S (u ++ v) = onl S u ++ onl S v := List.filter_append ..
theorem onl_in {S : List Str} {a : Str} (u : List Str) (h : a ∈ S) : onl S (a :: u) = a :: onl S u := by
  unfold onl
  rw [List.filter_cons_of_pos (by simpa using h)]
theorem onl_out {S : List Str} {a : Str} (u : List Str) (h : a ∉ S) : onl S (a :: u) = onl S u := by
  unfold onl
  rw [List.filter_cons_of_neg (by simpa using h)]
theorem onl_mem {S u : List Str} {x : Str} (h : x ∈ onl S u) : x ∈ u ∧ x ∈ S := by
  obtain ⟨a, b⟩ := List.mem_filter.mp h
  exact ⟨a, by simpa using b⟩
theorem onl_pre {S u v : List Str} (h : v <+: u) : onl S v <+: onl S u := by
  obtain ⟨x, rfl⟩ := h
  rw [onl_app]
  exact ⟨_, rfl⟩
theorem same_hits {n : Nat} {g s t : TL.D} (h : ∀ b, PyData.strOk b = true → beh n s b = beh n t b) : ∀ {u : List Str}, (∀ a ∈ u, PyData.strOk a = true) → Hits (hop n g) s u → Hits (hop n g) t u
  | [], _, k => k
  | a :: u, ha, k => by
    have e : hop n g s a = hop n g t a := by unfold hop; rw [h a (ha a (List.mem_cons_self ..))]
    unfold Hits at k ⊢
    rw [← e]
    exact k
theorem nw_exact {m n : Nat} {S : List Str} : ∀ {u : List Str} {t : TL.D}, (∀ a ∈ u, PyData.strOk a = true) → Dr m n t → hw n t = false → (∀ x ∈ named n t, x ∈ S) → Hits (hop n (.str "done")) t u → Hits (hop n (.str "done")) t (onl S u)
  | [], _, _, _, _, _, k => k.elim
  | a :: u, t, ok, d, hn, hS, k => by
    have oka := ok a (List.mem_cons_self ..)
    have ok' := fun b hb => ok b (List.mem_cons_of_mem _ hb)
    have r := beh_res oka d.good
    by_cases ha : a ∈ S
    · rw [onl_in u ha]
      rcases r with e | e | e
      · rw [hits_hit (hop_hit e (.inl rfl))] at k ⊢
        rw [k]
        rfl
      · exact (hits_over (hop_over e (.inr ⟨rfl, rfl⟩)) k).elim
      · rw [hits_go (hop_go rfl e (.inl rfl))] at k ⊢
        have m' := sts_beh oka d.good (sts_self d.good) e.isS
        have sn := sts_named d.good m'
        exact nw_exact ok' (sts_dr d m') (sn.2 hn) (fun x hx => hS x (sn.1 x hx)) k
    · rw [onl_out u ha]
      have nz : ("zz" : Str) ∉ abc := by simp [abc]
      have ez := beh_fresh2 (a := a) (b := "zz") d.good (fun h => ha (hS a h)) (fun h => nz (named_abc d _ h))
      obtain ⟨i1, i2⟩ := nw_fresh nz (strOk_of _) d hn
      rw [← ez] at i1 i2
      have e := r.good i1
      rw [hits_go (hop_go rfl e (.inl rfl))] at k
      exact nw_exact ok' d hn hS (same_hits i2 ok' k)
/-- no within, or one ahead of all -/
def C1 (n : Nat) (t : TL.D) : Prop := hw n t = false ∨ ∃ (k : Int) (x : TL.D) (p : Nat), n = p + 1 ∧ 1 ≤ k ∧ t = .tup [.str "within", .int k, x] ∧ hw p x = false
theorem c1_exact {m n : Nat} {S u : List Str} {t : TL.D} (ok : ∀ a ∈ u, PyData.strOk a = true) (d : Dr m n t) (c : C1 n t) (hS : ∀ x ∈ named n t, x ∈ S) (k : Hits (hop n (.str "done")) t u) : Hits (hop n (.str "done")) t (onl S u) := by
  have ok' : ∀ a ∈ onl S u, PyData.strOk a = true := fun a ha => ok a (onl_mem ha).1
  rcases c with c | ⟨j, x, p, rfl, hj, rfl, hx⟩
  · exact nw_exact ok d c hS k
  · have dx : Dr m p x := by
      rcases d with ⟨_, _, _, _, _, e⟩ | ⟨_, _, _, _, _, _, _, e⟩ | ⟨_, _, _, _, e⟩ | ⟨_, _, _, _, h, e⟩
      · simp at e
      · simp at e
      · simp at e
      · simp at e
        rw [e.2]
        exact h
    obtain ⟨h1, h2⟩ := (wi_hits hj ok dx.good).mp k
    have hS' : ∀ y ∈ named p x, y ∈ S := fun y hy => hS y (by
      obtain ⟨ds, rfl⟩ := dx.good.isT
      simpa [named] using hy)
    have := nw_exact ok dx hx hS' h1
    have le : (onl S u).length ≤ u.length := List.length_filter_le ..
    exact (wi_hits hj ok' dx.good).mpr ⟨this, by omega⟩
theorem hw1 {m : Nat} {t : TL.D} (d : Dr m 1 t) : hw 1 t = false := by
  rcases d with ⟨a, k', ha, hk, hkm, rfl⟩ | ⟨w, ts, hw', h1, hl, h2, hg, rfl⟩ | ⟨a, t, ha, hg, rfl⟩ | ⟨k', t, hk, hk9, hg, rfl⟩
  · rfl
  · match ts, h1 with
    | t :: r, _ => exact (hg t (List.mem_cons_self ..)).elim
  · exact hg.elim
  · exact hg.elim
theorem c1_two {m : Nat} {t : TL.D} (d : Dr m 2 t) : C1 2 t := by
  rcases d with ⟨a, k', ha, hk, hkm, rfl⟩ | ⟨w, ts, hw', h1, hl, h2, hg, rfl⟩ | ⟨a, t, ha, hg, rfl⟩ | ⟨k', t, hk, hk9, hg, rfl⟩
  · exact .inl rfl
  · refine .inl ?_
    simp only [hw, List.any_eq_false]
    intro t ht
    rw [hw1 (hg t ht)]
    simp
  · refine .inl ?_
    have := hw1 hg
    obtain ⟨ds, rfl⟩ := hg.good.isT
    simpa only [hw] using this
  · exact .inr ⟨k', t, 1, rfl, hk, rfl, hw1 hg⟩
theorem named_part {n : Nat} {w : String} {ts : List TL.D} {t : TL.D} {S : List Str} (hS : ∀ x ∈ named (n + 1) (.tup [.str w, .tup ts]), x ∈ S) (ht : t ∈ ts) : ∀ x ∈ named n t, x ∈ S := fun x hx => hS x (by simp only [named]; exact List.mem_flatMap.mpr ⟨t, ht, hx⟩)
/-- up to 3 deep: what is done by some deeds is done by those of them that it names -/
theorem dc_only {m : Nat} {S u : List Str} {t : TL.D} (ok : ∀ a ∈ u, PyData.strOk a = true) (d : Dr m 3 t) (hS : ∀ x ∈ named 3 t, x ∈ S) (h : Dc 3 (.str "done") t u) : Dc 3 (.str "done") t (onl S u) := by
  have ok' : ∀ a ∈ onl S u, PyData.strOk a = true := fun a ha => ok a (onl_mem ha).1
  have part : ∀ {s : TL.D}, Dr m 2 s → (∀ x ∈ named 2 s, x ∈ S) → Dc 2 (.str "done") s u → Dc 2 (.str "done") s (onl S u) := by
    rintro s ds hs ⟨v, hv, hh⟩
    exact ⟨onl S v, onl_pre hv, c1_exact (fun a ha => ok a (hv.subset ha)) ds (c1_two ds) hs hh⟩
  have d0 := d
  rcases d with ⟨a, k', ha, hk, hkm, rfl⟩ | ⟨w, ts, hw', h1, hl, h2, hg, rfl⟩ | ⟨a, t, ha, hg, rfl⟩ | ⟨k', t, hk, hk9, hg, rfl⟩
  · obtain ⟨v, hv, hh⟩ := h
    exact ⟨onl S v, onl_pre hv, c1_exact (fun a ha => ok a (hv.subset ha)) d0 (.inl rfl) hS hh⟩
  · have h0 : ts ≠ [] := by rintro rfl; simp at h1
    have gg : ∀ t ∈ ts, Good 2 t := fun t ht => (hg t ht).good
    by_cases ht : w = "then"
    · subst ht
      have l2 := h2 rfl
      rw [then_sq ok l2 (by omega) gg] at h
      rw [then_sq ok' l2 (by omega) gg]
      have go : ∀ (ts : List TL.D) (u : List Str), (∀ a ∈ u, PyData.strOk a = true) → (∀ t ∈ ts, Dr m 2 t ∧ ∀ x ∈ named 2 t, x ∈ S) → Sq 2 ts u → Sq 2 ts (onl S u) := by
        intro ts
        induction ts with
        | nil => intro u _ _ _; trivial
        | cons t r ih =>
          rintro u ok hr ⟨v, v', rfl, a1, a2⟩
          obtain ⟨dt, nt⟩ := hr t (List.mem_cons_self ..)
          exact ⟨onl S v, onl S v', onl_app .., c1_exact (fun a ha => ok a (List.mem_append_left _ ha)) dt (c1_two dt) nt a1, ih v' (fun a ha => ok a (List.mem_append_right _ ha)) (fun s hs => hr s (List.mem_cons_of_mem _ hs)) a2⟩
      exact go ts u ok (fun t ht => ⟨hg t ht, named_part hS ht⟩) h
    · by_cases wa : w = "any"
      · subst wa
        have e : enW "any" = .str "done" := rfl
        have a := grp_en (n := 2) (w := "any") (.inr rfl) ok h0 (by omega) gg
        have b := grp_en (n := 2) (w := "any") (.inr rfl) ok' h0 (by omega) gg
        rw [e] at a b
        obtain ⟨t, ht, hd⟩ := a.mp h
        exact b.mpr ⟨t, ht, part (hg t ht) (named_part hS ht) hd⟩
      · have wl : w = "all" := by rcases hw' with h | h | h; exact h; exact (wa h).elim; exact (ht h).elim
        subst wl
        have e : otW "all" = .str "done" := rfl
        have a := grp_ot (n := 2) (w := "all") (.inl rfl) ok h0 (by omega) gg
        have b := grp_ot (n := 2) (w := "all") (.inl rfl) ok' h0 (by omega) gg
        rw [e] at a b
        exact b.mpr fun t ht => part (hg t ht) (named_part hS ht) (a.mp h t ht)
  · obtain ⟨v, hv, hh⟩ := h
    have okv : ∀ b ∈ v, PyData.strOk b = true := fun b hb => ok b (hv.subset hb)
    have okv' : ∀ b ∈ onl S v, PyData.strOk b = true := fun b hb => okv b (onl_mem hb).1
    obtain ⟨a1, a2⟩ := (wo_hits okv (abc_ok ha) hg.good).mp hh
    have ns : ∀ x ∈ named 2 t, x ∈ S := fun x hx => hS x (by
      obtain ⟨ds, rfl⟩ := hg.good.isT
      simp only [named] at hx ⊢
      exact List.mem_cons_of_mem _ hx)
    exact ⟨onl S v, onl_pre hv, (wo_hits okv' (abc_ok ha) hg.good).mpr ⟨c1_exact okv hg (c1_two hg) ns a1, fun h => a2 (onl_mem h).1⟩⟩
  · obtain ⟨v, hv, hh⟩ := h
    have okv : ∀ b ∈ v, PyData.strOk b = true := fun b hb => ok b (hv.subset hb)
    have okv' : ∀ b ∈ onl S v, PyData.strOk b = true := fun b hb => okv b (onl_mem hb).1
    obtain ⟨a1, a2⟩ := (wi_hits hk okv hg.good).mp hh
    have ns : ∀ x ∈ named 2 t, x ∈ S := fun x hx => hS x (by
      obtain ⟨ds, rfl⟩ := hg.good.isT
      simpa only [named] using hx)
    have le : (onl S v).length ≤ v.length := List.length_filter_le ..
    exact ⟨onl S v, onl_pre hv, (wi_hits hk okv' hg.good).mpr ⟨c1_exact okv hg (c1_two hg) ns a1, by omega⟩⟩
/-- no row is done with fewer deeds than the least -/
theorem fnd_all {m : Nat} {u : List Str} {t : TL.D} {r : Option (List Str)} (ok : ∀ a ∈ u, PyData.strOk a = true) (d : Dr m 3 t) (f : Fnd (hop 3 (.str "done")) (srt (named 3 t)) t r) (h : Dc 3 (.str "done") t u) : ∃ q, r = some q ∧ q.length ≤ u.length := by
  obtain ⟨v, h1, h2⟩ := dc_only (S := srt (named 3 t)) ok d (fun x hx => (srt_mem _).mpr hx) h
  have vs : ∀ a ∈ v, a ∈ srt (named 3 t) := fun a ha => (onl_mem (h1.subset ha)).2
  have l1 := h1.length_le
  have l2 : (onl (srt (named 3 t)) u).length ≤ u.length := List.length_filter_le ..
  cases r with
  | none => exact (f v vs h2).elim
  | some q => exact ⟨q, rfl, by have := f.2.2 v h2 vs; omega⟩
/-- what fails by any deeds fails by those named and another one -/
theorem mf_all {m n : Nat} {u : List Str} {t : TL.D} {r : Option (List Str)} (ok : ∀ a ∈ u, PyData.strOk a = true) (d : Dr m n t) (f : Fnd (hop n (.str "failed")) (srt (named n t) ++ [("aa" : Str)]) t r) (h : Dc n (.str "failed") t u) : r.isSome = true := by
  cases r with
  | some _ => rfl
  | none =>
    obtain ⟨v, h1, h2⟩ := h
    have okv : ∀ b ∈ v, PyData.strOk b = true := fun b hb => ok b (h1.subset hb)
    have na : ("aa" : Str) ∉ abc := by simp [abc]
    have R : Room (hop n (.str "failed")) v (sts n t) := ⟨fun s hs a ha x e => by
        unfold hop at e
        split at e
        · cases e
        · split at e
          · cases e
          · next hn =>
            cases e
            exact sts_beh (okv a ha) d.good hs (by simpa using hn), fun x hx y hy => (sts_good d.good hx).eq (sts_good d.good hy)⟩
    refine (f (v.map fun a => if a ∈ named n t then a else "aa") (fun a ha => ?_) (h2.ren R (fun s hs a ha => ?_) (sts_self d.good) fun _ h => h)).elim
    · obtain ⟨b, hb, rfl⟩ := List.mem_map.mp ha
      split
      · next hm => exact List.mem_append_left _ ((srt_mem _).mpr hm)
      · exact List.mem_append_right _ (List.mem_singleton.mpr rfl)
    · split
      · rfl
      · next hm =>
        have sn := (sts_named d.good hs).1
        unfold hop
        rw [beh_fresh2 (sts_good d.good hs) (fun h => na (named_abc d _ (sn _ h))) (fun h => hm (sn _ h))]

end TP

namespace TP
open TL
open PySem (Str PyData)
open L2 (atI)
theorem chs_congr {F G : TL.D → List TL.D} : ∀ {ts : List TL.D}, (∀ t ∈ ts, F t = G t) → chs F ts = chs G ts
  | [], _ => rfl
  | t :: r, h => by
    unfold chs
    rw [h t (List.mem_cons_self ..), chs_congr fun s hs => h s (List.mem_cons_of_mem _ hs)]
theorem suf_congr {F G : TL.D → List TL.D} {w : Str} : ∀ {ts : List TL.D}, (∀ t ∈ ts, F t = G t) → suf F w ts = suf G w ts
  | [], _ => rfl
  | t :: r, h => by
    unfold suf
    rw [h t (List.mem_cons_self ..), suf_congr fun s hs => h s (List.mem_cons_of_mem _ hs)]
theorem sts_succ : ∀ {n : Nat} {d : TL.D}, Good n d → sts (n + 1) d = sts n d
  | 0, _, h => h.elim
  | n + 1, d, h => by
    rcases h with ⟨b, k, hb, hk, rfl⟩ | ⟨w, ts, hw, h0, hl, h2, hg, rfl⟩ | ⟨b, t, hb, hg, rfl⟩ | ⟨k, t, hk, hg, rfl⟩
    · unfold sts
      rfl
    · have e : ∀ t ∈ ts, sts (n + 1) t = sts n t := fun t ht => sts_succ (hg t ht)
      rw [sts, sts, chs_congr e, suf_congr e]
    · have e := sts_succ hg
      obtain ⟨ds, rfl⟩ := hg.isT
      simp only [sts, e]
    · have e := sts_succ hg
      obtain ⟨ds, rfl⟩ := hg.isT
      simp only [sts, e]
theorem chs_cons_len {F : TL.D → List TL.D} {t : TL.D} {r : List TL.D} : (chs F (t :: r)).length = (chs F r).length + (F t).length * (chs F r).length := by
  have e : ∀ l : List TL.D, (l.flatMap fun s => (chs F r).map fun c => s :: c).length = l.length * (chs F r).length := by
    intro l
    induction l with
    | nil => simp
    | cons x l ih => rw [List.flatMap_cons, List.length_append, ih, List.length_map, List.length_cons, Nat.add_mul, Nat.one_mul, Nat.add_comm]
  rw [chs, List.length_append, e]
theorem two_few {one two : TL.D} {w : String} (h1 : Dr 2 3 one) (h2 : Dr 2 2 two) : (sts 4 (.tup [.str w, .tup [one, two]])).length ≤ 900000 := by
  have l1 := sts_len3 h1
  have l2 : (sts 3 two).length ≤ 26 := by rw [sts_succ h2.good]; exact sts_len2 h2
  unfold sts
  rw [List.length_append]
  have e0 : (if [one, two].length = 1 then [TL.D.tup [.str w, .tup [one, two]]] else []).length = 0 := rfl
  rw [e0, Nat.zero_add]
  split
  · have : (suf (sts 3) w [one, two]).length = (sts 3 one).length + (sts 3 two).length := by simp [suf]
    rw [this]
    omega
  · rw [List.length_map]
    refine Nat.le_trans (List.length_filter_le _ _) ?_
    rw [chs_cons_len, chs_cons_len]
    have e1 : (chs (sts 3) []).length = 1 := rfl
    rw [e1, Nat.mul_one]
    have a : (sts 3 one).length * (1 + (sts 3 two).length) ≤ 19682 * 27 := Nat.mul_le_mul l1 (by omega)
    omega
/-- how many deeds -/
def lenN : Option Nat → TL.D
  | none => .non
  | some a => .int (a : Int)
theorem lenN_ok (x : Option Nat) : okD 0 (lenN x) := by
  cases x with
  | none => exact okD_non _
  | some a => exact okD_int _ _
theorem lenN_own (x : Option Nat) : (lenN x).own = false := (lenN_ok x).own
theorem lenN_ne (x : Option Nat) : dNe (lenN x) (lenN x) = some (.bl false) := by
  rw [dNe_ok (lenN_ok x) (lenN_ok x) (by decide) (by decide), (lenN_ok x).eqv_refl]
  rfl
theorem fnd_dc {n : Nat} {S : List Str} {t : TL.D} {r : Option (List Str)} (f : Fnd (hop n (.str "done")) S t r) {u : List Str} (hu : ∀ a ∈ u, a ∈ S) (h : Dc n (.str "done") t u) : ∃ q, r = some q ∧ q.length ≤ u.length := by
  obtain ⟨v, h1, h2⟩ := h
  have hv : ∀ a ∈ v, a ∈ S := fun a ha => hu a (h1.subset ha)
  have := h1.length_le
  cases r with
  | none => exact (f v hv h2).elim
  | some q => exact ⟨q, rfl, by have := f.2.2 v h2 hv; omega⟩
theorem fnd_self {n : Nat} {S : List Str} {t : TL.D} {q : List Str} (f : Fnd (hop n (.str "done")) S t (some q)) : Dc n (.str "done") t q := ⟨q, List.prefix_refl _, f.1⟩
/-- may it fail -/
theorem mf_iff {m n : Nat} {t : TL.D} {r : Option (List Str)} (d : Dr m n t) (f : Fnd (hop n (.str "failed")) (srt (named n t) ++ [("aa" : Str)]) t r) : r.isSome = true ↔ ∃ u, (∀ a ∈ u, PyData.strOk a = true) ∧ Dc n (.str "failed") t u := by
  constructor
  · intro h
    cases r with
    | none => cases h
    | some q => exact ⟨q, fun a ha => by
        rcases List.mem_append.mp (f.2.1 a ha) with h | h
        · exact abc_strOk a ((srt_abc d).1 a h)
        · rw [List.mem_singleton.mp h]; exact strOk_of _, q, List.prefix_refl _, f.1⟩
  · rintro ⟨u, ok, h⟩
    exact mf_all ok d f h
theorem iff_bool {a b : Bool} (h : a = true ↔ b = true) : a = b := by
  cases a <;> cases b <;> simp_all
def sumO : Option Nat → Option Nat → Option Nat
  | some a, some b => some (a + b)
  | _, _ => none
def witO (k : Int) : Option Nat → Option Nat
  | some a => if (a : Int) ≤ k then some a else none
  | none => none
section
variable {one two : TL.D} {r1 r2 : Option (List Str)}
theorem two_named {w : String} : named 4 (.tup [.str w, .tup [one, two]]) = named 3 one ++ named 3 two := by simp [named]
theorem ab_ok {u : List Str} (h : ∀ a ∈ u, a ∈ abc) : ∀ a ∈ u, PyData.strOk a = true := fun a ha => abc_strOk a (h a ha)
theorem two_good (d1 : Dr 2 3 one) (d2 : Dr 2 3 two) : ∀ t ∈ [one, two], Good 3 t := fun t ht => by
  simp only [List.mem_cons, List.not_mem_nil, or_false] at ht
  rcases ht with rfl | rfl
  · exact d1.good
  · exact d2.good
theorem two_dr {w : String} (hw : w = "all" ∨ w = "any" ∨ w = "then") (d1 : Dr 2 3 one) (d2 : Dr 2 3 two) : Dr 2 4 (.tup [.str w, .tup [one, two]]) := .inr (.inl ⟨w, [one, two], hw, by simp, by simp, fun _ => by simp, fun t ht => by
  simp only [List.mem_cons, List.not_mem_nil, or_false] at ht
  rcases ht with rfl | rfl
  · exact d1
  · exact d2, rfl⟩)
theorem few_then (d1 : Dr 2 3 one) (d2 : Dr 2 3 two) (f1 : Fnd (hop 3 (.str "done")) (srt (named 3 one)) one r1) (f2 : Fnd (hop 3 (.str "done")) (srt (named 3 two)) two r2) {r : Option (List Str)} (f : Fnd (hop 4 (.str "done")) (srt (named 4 (.tup [.str "then", .tup [one, two]]))) (.tup [.str "then", .tup [one, two]]) r) :
    r.map (·.length) = sumO (r1.map (·.length)) (r2.map (·.length)) := by
  have g := two_good d1 d2
  have s1 := (srt_abc d1).1
  have s2 := (srt_abc d2).1
  have s4 := (srt_abc (two_dr (w := "then") (.inr (.inr rfl)) d1 d2)).1
  have lo : ∀ q, r = some q → ∃ a b, r1 = some a ∧ r2 = some b ∧ a.length + b.length ≤ q.length := by
    rintro q rfl
    have okq := ab_ok fun a ha => s4 a (f.2.1 a ha)
    obtain ⟨v, v', rfl, h1, u, u', rfl, h2, _⟩ := (then_sq okq (by simp) (by simp) g).mp (fnd_self f)
    have okv : ∀ a ∈ v, PyData.strOk a = true := fun a ha => okq a (List.mem_append_left _ ha)
    have oku : ∀ a ∈ u, PyData.strOk a = true := fun a ha => okq a (List.mem_append_right _ (List.mem_append_left _ ha))
    obtain ⟨a, e1, l1⟩ := fnd_all okv d1 f1 ⟨v, List.prefix_refl _, h1⟩
    obtain ⟨b, e2, l2⟩ := fnd_all oku d2 f2 ⟨u, List.prefix_refl _, h2⟩
    exact ⟨a, b, e1, e2, by simp; omega⟩
  cases hr : r with
  | some q =>
    obtain ⟨a, b, rfl, rfl, l⟩ := lo q hr
    subst hr
    have okab : ∀ x ∈ a ++ b, PyData.strOk x = true := fun x hx => by
      rcases List.mem_append.mp hx with hx | hx
      · exact abc_strOk x (s1 x (f1.2.1 x hx))
      · exact abc_strOk x (s2 x (f2.2.1 x hx))
    have hd : Dc 4 (.str "done") (.tup [.str "then", .tup [one, two]]) (a ++ b) := (then_sq okab (by simp) (by simp) g).mpr ⟨a, b, rfl, f1.1, b, [], by simp, f2.1, trivial⟩
    obtain ⟨q', e, l'⟩ := fnd_dc f (fun x hx => (srt_mem _).mpr (by
      rw [two_named]
      rcases List.mem_append.mp hx with hx | hx
      · exact List.mem_append_left _ ((srt_mem _).mp (f1.2.1 x hx))
      · exact List.mem_append_right _ ((srt_mem _).mp (f2.2.1 x hx)))) hd
    cases e
    simp [sumO] at l' ⊢
    omega
  | none =>
    cases h1 : r1 with
    | none => rfl
    | some a => cases h2 : r2 with
      | none => rfl
      | some b =>
        subst h1 h2 hr
        have okab : ∀ x ∈ a ++ b, PyData.strOk x = true := fun x hx => by
          rcases List.mem_append.mp hx with hx | hx
          · exact abc_strOk x (s1 x (f1.2.1 x hx))
          · exact abc_strOk x (s2 x (f2.2.1 x hx))
        have hd : Dc 4 (.str "done") (.tup [.str "then", .tup [one, two]]) (a ++ b) := (then_sq okab (by simp) (by simp) g).mpr ⟨a, b, rfl, f1.1, b, [], by simp, f2.1, trivial⟩
        obtain ⟨q', e, l'⟩ := fnd_dc f (fun x hx => (srt_mem _).mpr (by
          rw [two_named]
          rcases List.mem_append.mp hx with hx | hx
          · exact List.mem_append_left _ ((srt_mem _).mp (f1.2.1 x hx))
          · exact List.mem_append_right _ ((srt_mem _).mp (f2.2.1 x hx)))) hd
        cases e
def minO : Option Nat → Option Nat → Option Nat
  | some a, some b => some (min a b)
  | some a, none => some a
  | none, x => x
theorem few_any (d1 : Dr 2 3 one) (d2 : Dr 2 3 two) (f1 : Fnd (hop 3 (.str "done")) (srt (named 3 one)) one r1) (f2 : Fnd (hop 3 (.str "done")) (srt (named 3 two)) two r2) {r : Option (List Str)} (f : Fnd (hop 4 (.str "done")) (srt (named 4 (.tup [.str "any", .tup [one, two]]))) (.tup [.str "any", .tup [one, two]]) r) :
    r.map (·.length) = minO (r1.map (·.length)) (r2.map (·.length)) := by
  have g := two_good d1 d2
  have s1 := (srt_abc d1).1
  have s2 := (srt_abc d2).1
  have s4 := (srt_abc (two_dr (w := "any") (.inr (.inl rfl)) d1 d2)).1
  have e : enW "any" = .str "done" := rfl
  have lo : ∀ q, r = some q → (∃ a, r1 = some a ∧ a.length ≤ q.length) ∨ ∃ b, r2 = some b ∧ b.length ≤ q.length := by
    rintro q rfl
    have okq := ab_ok fun a ha => s4 a (f.2.1 a ha)
    have z := grp_en (n := 3) (w := "any") (.inr rfl) okq (by simp) (by simp) g
    rw [e] at z
    obtain ⟨t, ht, hd⟩ := z.mp (fnd_self f)
    simp only [List.mem_cons, List.not_mem_nil, or_false] at ht
    rcases ht with rfl | rfl
    · exact .inl (fnd_all okq d1 f1 hd)
    · exact .inr (fnd_all okq d2 f2 hd)
  have up1 : ∀ a, r1 = some a → ∃ q, r = some q ∧ q.length ≤ a.length := by
    rintro a rfl
    have ok := ab_ok fun x hx => s1 x (f1.2.1 x hx)
    have z := grp_en (n := 3) (w := "any") (.inr rfl) ok (by simp) (by simp) g
    rw [e] at z
    exact fnd_dc f (fun x hx => (srt_mem _).mpr (by rw [two_named]; exact List.mem_append_left _ ((srt_mem _).mp (f1.2.1 x hx)))) (z.mpr ⟨one, by simp, fnd_self f1⟩)
  have up2 : ∀ b, r2 = some b → ∃ q, r = some q ∧ q.length ≤ b.length := by
    rintro a rfl
    have ok := ab_ok fun x hx => s2 x (f2.2.1 x hx)
    have z := grp_en (n := 3) (w := "any") (.inr rfl) ok (by simp) (by simp) g
    rw [e] at z
    exact fnd_dc f (fun x hx => (srt_mem _).mpr (by rw [two_named]; exact List.mem_append_right _ ((srt_mem _).mp (f2.2.1 x hx)))) (z.mpr ⟨two, by simp, fnd_self f2⟩)
  cases h1 : r1 with
  | some a =>
    obtain ⟨q, e1, l1⟩ := up1 a h1
    cases h2 : r2 with
    | some b =>
      obtain ⟨q', e2, l2⟩ := up2 b h2
      rw [e1] at e2
      cases e2
      rw [e1]
      simp only [Option.map, minO, Option.some.injEq]
      rcases lo q e1 with ⟨x, ex, lx⟩ | ⟨x, ex, lx⟩
      · rw [h1] at ex; cases ex; omega
      · rw [h2] at ex; cases ex; omega
    | none =>
      rw [e1]
      simp only [Option.map, minO, Option.some.injEq]
      rcases lo q e1 with ⟨x, ex, lx⟩ | ⟨x, ex, lx⟩
      · rw [h1] at ex; cases ex; omega
      · rw [h2] at ex; cases ex
  | none => cases h2 : r2 with
    | some b =>
      obtain ⟨q, e1, l1⟩ := up2 b h2
      rw [e1]
      simp only [Option.map, minO, Option.some.injEq]
      rcases lo q e1 with ⟨x, ex, lx⟩ | ⟨x, ex, lx⟩
      · rw [h1] at ex; cases ex
      · rw [h2] at ex; cases ex; omega
    | none => cases hr : r with
      | none => rfl
      | some q =>
        rcases lo q hr with ⟨x, ex, lx⟩ | ⟨x, ex, lx⟩
        · rw [h1] at ex; cases ex
        · rw [h2] at ex; cases ex
theorem few_all (d1 : Dr 2 3 one) (d2 : Dr 2 3 two) (f1 : Fnd (hop 3 (.str "done")) (srt (named 3 one)) one r1) (f2 : Fnd (hop 3 (.str "done")) (srt (named 3 two)) two r2) {q : List Str} (f : Fnd (hop 4 (.str "done")) (srt (named 4 (.tup [.str "all", .tup [one, two]]))) (.tup [.str "all", .tup [one, two]]) (some q)) :
    ∃ a b, r1 = some a ∧ r2 = some b ∧ a.length ≤ q.length ∧ b.length ≤ q.length := by
  have g := two_good d1 d2
  have s4 := (srt_abc (two_dr (w := "all") (.inl rfl) d1 d2)).1
  have e : otW "all" = .str "done" := rfl
  have okq := ab_ok fun a ha => s4 a (f.2.1 a ha)
  have z := grp_ot (n := 3) (w := "all") (.inl rfl) okq (by simp) (by simp) g
  rw [e] at z
  have h := z.mp (fnd_self f)
  obtain ⟨a, e1, l1⟩ := fnd_all okq d1 f1 (h one (by simp))
  obtain ⟨b, e2, l2⟩ := fnd_all okq d2 f2 (h two (by simp))
  exact ⟨a, b, e1, e2, l1, l2⟩
theorem few_within {k : Int} (hk : 1 ≤ k) (d1 : Dr 2 3 one) (f1 : Fnd (hop 3 (.str "done")) (srt (named 3 one)) one r1) {r : Option (List Str)} (f : Fnd (hop 4 (.str "done")) (srt (named 4 (.tup [.str "within", .int k, one]))) (.tup [.str "within", .int k, one]) r) :
    r.map (·.length) = witO k (r1.map (·.length)) := by
  have nm : named 4 (.tup [.str "within", .int k, one]) = named 3 one := by
    obtain ⟨ds, rfl⟩ := d1.good.isT
    simp [named]
  rw [nm] at f
  have s1 := (srt_abc d1).1
  have hit := fun (w : List Str) (hw : ∀ a ∈ w, a ∈ srt (named 3 one)) => wi_hits (w := w) (t := one) (k := k) hk (ab_ok fun a ha => s1 a (hw a ha)) d1.good
  cases r1 with
  | none => cases r with
    | none => rfl
    | some p => exact (f1 p f.2.1 ((hit p f.2.1).mp f.1).1).elim
  | some q => cases r with
    | none =>
      have := f q f1.2.1
      rw [hit q f1.2.1] at this
      have : ¬ (q.length : Int) ≤ k := fun h => this ⟨f1.1, h⟩
      simp [this, witO]
    | some p =>
      have hp := (hit p f.2.1).mp f.1
      have a := f1.2.2 p hp.1 f.2.1
      have qi : (q.length : Int) ≤ k := by omega
      have b := f.2.2 q ((hit q f1.2.1).mpr ⟨f1.1, qi⟩) f1.2.1
      simp [qi, witO]
      omega
theorem mf_group {w : String} (hw : w = "all" ∨ w = "any") (d1 : Dr 2 3 one) (d2 : Dr 2 3 two) {m1 m2 m4 : Option (List Str)} (f1 : Fnd (hop 3 (.str "failed")) (srt (named 3 one) ++ [("aa" : Str)]) one m1) (f2 : Fnd (hop 3 (.str "failed")) (srt (named 3 two) ++ [("aa" : Str)]) two m2)
    (f : Fnd (hop 4 (.str "failed")) (srt (named 4 (.tup [.str w, .tup [one, two]])) ++ [("aa" : Str)]) (.tup [.str w, .tup [one, two]]) m4) : (w = "all" → m4.isSome = (m1.isSome || m2.isSome)) ∧ (w = "any" → m4.isSome = true → m1.isSome = true ∧ m2.isSome = true) := by
  have g := two_good d1 d2
  have d4 := two_dr (w := w) (by rcases hw with rfl | rfl; exact .inl rfl; exact .inr (.inl rfl)) d1 d2
  have i1 := mf_iff d1 f1
  have i2 := mf_iff d2 f2
  have i4 := mf_iff d4 f
  refine ⟨?_, ?_⟩
  · rintro rfl
    have e : enW "all" = .str "failed" := rfl
    refine iff_bool ?_
    rw [Bool.or_eq_true, i1, i2, i4]
    constructor
    · rintro ⟨u, ok, h⟩
      have z := grp_en (n := 3) (w := "all") (.inl rfl) ok (by simp) (by simp) g
      rw [e] at z
      obtain ⟨t, ht, hd⟩ := z.mp h
      simp only [List.mem_cons, List.not_mem_nil, or_false] at ht
      rcases ht with rfl | rfl
      · exact .inl ⟨u, ok, hd⟩
      · exact .inr ⟨u, ok, hd⟩
    · rintro (⟨u, ok, h⟩ | ⟨u, ok, h⟩)
      · have z := grp_en (n := 3) (w := "all") (.inl rfl) ok (by simp) (by simp) g
        rw [e] at z
        exact ⟨u, ok, z.mpr ⟨one, by simp, h⟩⟩
      · have z := grp_en (n := 3) (w := "all") (.inl rfl) ok (by simp) (by simp) g
        rw [e] at z
        exact ⟨u, ok, z.mpr ⟨two, by simp, h⟩⟩
  · rintro rfl h
    have e : otW "any" = .str "failed" := rfl
    obtain ⟨u, ok, h⟩ := i4.mp h
    have z := grp_ot (n := 3) (w := "any") (.inr rfl) ok (by simp) (by simp) g
    rw [e] at z
    have h := z.mp h
    exact ⟨i1.mpr ⟨u, ok, h one (by simp)⟩, i2.mpr ⟨u, ok, h two (by simp)⟩⟩
theorem mf_then (d1 : Dr 2 3 one) (d2 : Dr 2 3 two) {m1 m2 m4 : Option (List Str)} (f0 : Fnd (hop 3 (.str "done")) (srt (named 3 one)) one r1) (f1 : Fnd (hop 3 (.str "failed")) (srt (named 3 one) ++ [("aa" : Str)]) one m1) (f2 : Fnd (hop 3 (.str "failed")) (srt (named 3 two) ++ [("aa" : Str)]) two m2)
    (f : Fnd (hop 4 (.str "failed")) (srt (named 4 (.tup [.str "then", .tup [one, two]])) ++ [("aa" : Str)]) (.tup [.str "then", .tup [one, two]]) m4) : m4.isSome = (m1.isSome || (r1.isSome && m2.isSome)) := by
  have g := two_good d1 d2
  have d4 := two_dr (w := "then") (.inr (.inr rfl)) d1 d2
  have i1 := mf_iff d1 f1
  have i2 := mf_iff d2 f2
  have i4 := mf_iff d4 f
  have sq : ∀ u : List Str, (∀ a ∈ u, PyData.strOk a = true) → decI 4 (.tup [.str "then", .tup [one, two]]) u 0 = seqD 4 u [one, two] 0 := fun u ok => decI_then ok (as := u) (j := 0) rfl (by simp) (by simp) g
  refine iff_bool ?_
  rw [Bool.or_eq_true, Bool.and_eq_true, i1, i2, i4]
  constructor
  · rintro ⟨u, ok, h⟩
    obtain ⟨p, hp⟩ := h.to (.inr rfl) ok d4.good 0
    rw [sq u ok] at hp
    unfold seqD at hp
    cases hd : decI 4 one u 0 with
    | none => simp [hd] at hp
    | some q =>
      obtain ⟨o, p1⟩ := q
      have hd3 := hd
      rw [decI_succ ok d1.good] at hd3
      rcases (decI_bd ok d1.good hd3).2.2 with rfl | rfl
      · right
        have dn := Dc.of (.inl rfl) ok d1.good hd3
        obtain ⟨a, ea, _⟩ := fnd_all ok d1 f0 dn
        refine ⟨by rw [ea]; rfl, ?_⟩
        simp [hd, eqv_str] at hp
        unfold seqD at hp
        cases hd2 : decI 4 two (u.drop p1.toNat) p1 with
        | none => simp [hd2] at hp
        | some q2 =>
          obtain ⟨o2, p2⟩ := q2
          have okd : ∀ a ∈ u.drop p1.toNat, PyData.strOk a = true := fun a ha => ok a (List.mem_of_mem_drop ha)
          have hd23 := hd2
          rw [decI_succ okd d2.good] at hd23
          rcases (decI_bd okd d2.good hd23).2.2 with rfl | rfl
          · simp [hd2, eqv_str, seqD] at hp
          · exact ⟨_, okd, .of (.inr rfl) okd d2.good hd23⟩
      · exact .inl ⟨u, ok, .of (.inr rfl) ok d1.good hd3⟩
  · rintro (⟨u, ok, h⟩ | ⟨hr, u, ok, h⟩)
    · obtain ⟨p, hp⟩ := h.to (.inr rfl) ok d1.good 0
      rw [← decI_succ ok d1.good] at hp
      refine ⟨u, ok, .of (i := 0) (p := p) (.inr rfl) ok d4.good ?_⟩
      rw [sq u ok]
      unfold seqD
      simp [hp, eqv_str]
    · cases hr1 : r1 with
      | none => rw [hr1] at hr; cases hr
      | some a =>
        rw [hr1] at f0
        have oka := ab_ok fun x hx => (srt_abc d1).1 x (f0.2.1 x hx)
        have okau : ∀ x ∈ a ++ u, PyData.strOk x = true := fun x hx => by
          rcases List.mem_append.mp hx with hx | hx
          · exact oka x hx
          · exact ok x hx
        have e1 := decI_pre u (hits_dec (.inl rfl) (i := 0) oka d1.good f0.1)
        rw [← decI_succ okau d1.good] at e1
        obtain ⟨p, hp⟩ := h.to (.inr rfl) ok d2.good (a.length : Int)
        rw [← decI_succ ok d2.good] at hp
        refine ⟨a ++ u, okau, .of (i := 0) (p := p) (.inr rfl) okau d4.good ?_⟩
        rw [sq _ okau]
        unfold seqD
        simp [e1, eqv_str]
        unfold seqD
        simp [hp, eqv_str]
end
theorem do_safe {m : Nat} {a : String} {k : Int} {u : List Str} (d : Dr m 1 (.tup [.str "do", .str a, .int k])) (ok : ∀ x ∈ u, PyData.strOk x = true) : ¬ Dc 1 (.str "failed") (.tup [.str "do", .str a, .int k]) u := by
  intro h
  obtain ⟨p, hp⟩ := h.to (.inr rfl) ok d.good 0
  have hk : 1 ≤ k := by
    rcases d with ⟨_, _, _, _, _, e⟩ | ⟨_, _, _, _, _, _, _, e⟩ | ⟨_, _, _, _, e⟩ | ⟨_, _, _, _, _, e⟩ <;> simp at e
    rw [e.2]
    assumption
  rw [decI_do hk] at hp
  cases q : (occ a u 0)[k.toNat - 1]? with
  | none => rw [q] at hp; cases hp
  | some x => rw [q] at hp; cases hp

end TP

namespace TP
open TL
open PySem (Str PyData)
open L2 (atI)
/-- what a deed leaves of what is left -/
def bh (n : Nat) (a : Str) (s : TL.D) : TL.D := if s.isS then s else beh n s a
/-- a group of these parts, decided or not -/
def resG (w : String) (ss : List TL.D) : TL.D := if ss.any fun s => s.eqv (enW w) then enW w else if (ss.filter fun s => !s.isS) = [] then otW w else grp w (ss.filter fun s => !s.isS)
theorem res_cases {n : Nat} {s : TL.D} (w : String) (r : Res n s) : (s = enW w ∧ s.isS = true ∧ s.eqv (enW w) = true) ∨ (s = otW w ∧ s.isS = true ∧ s.eqv (enW w) = false) ∨ (Good n s ∧ s.isS = false ∧ s.eqv (enW w) = false) := by
  rcases r with e | e | e
  · rcases en_ot w (.inl e) with ⟨a, b, c⟩ | ⟨a, b, c⟩
    · exact .inl ⟨a, by rw [e]; rfl, b⟩
    · exact .inr (.inl ⟨a, by rw [e]; rfl, b⟩)
  · rcases en_ot w (.inr e) with ⟨a, b, c⟩ | ⟨a, b, c⟩
    · exact .inl ⟨a, by rw [e]; rfl, b⟩
    · exact .inr (.inl ⟨a, by rw [e]; rfl, b⟩)
  · refine .inr (.inr ⟨e, e.isS, ?_⟩)
    rcases enW_g w with q | q <;> (rw [q]; exact e.eqvS _)
theorem isS_en (w : String) : (enW w).isS = true := by rcases enW_g w with e | e <;> (rw [e]; rfl)
theorem isS_ot (w : String) : (otW w).isS = true := by rcases otW_g w with e | e <;> (rw [e]; rfl)
theorem res_res {n : Nat} {w : String} (hw : w = "all" ∨ w = "any" ∨ w = "then") {ss : List TL.D} (hl : ss.length ≤ 1000) (h : ∀ s ∈ ss, Res n s) : Res (n + 1) (resG w ss) := by
  unfold resG
  split
  · exact (enW_g w).elim .inl fun e => .inr (.inl e)
  · split
    · exact (otW_g w).elim .inl fun e => .inr (.inl e)
    · next hne => exact .inr (.inr (grp_good hw hne (Nat.le_trans (List.length_filter_le _ _) hl) fun d hd => by
        obtain ⟨a, b⟩ := List.mem_filter.mp hd
        exact (h d a).good (by simpa using b)))
theorem beh_resG {n : Nat} {w : String} {c : List TL.D} {a : Str} (hw : w = "all" ∨ w = "any") (h0 : c ≠ []) (G : ∀ t ∈ c, Good n t) (ha : PyData.strOk a = true) : beh (n + 1) (grp w c) a = resG w (c.map fun t => beh n t a) := by
  have R : ∀ t ∈ c, Res n (beh n t a) := fun t ht => beh_res ha (G t ht)
  match c, h0 with
  | [x], _ =>
    show beh (n + 1) x a = _
    rw [beh_succ (G x (List.mem_singleton.mpr rfl))]
    rcases res_cases w (R x (List.mem_singleton.mpr rfl)) with ⟨e, s, q⟩ | ⟨e, s, q⟩ | ⟨_, s, q⟩
    · unfold resG
      rw [if_pos (by simp [q])]
      exact e
    · simp [resG, q, s]
      exact e
    · simp [resG, q, s, grp]
  | x :: y :: r, _ =>
    have wt : w ≠ "then" := by rcases hw with rfl | rfl <;> decide
    have e : beh (n + 1) (grp w (x :: y :: r)) a = if (((x :: y :: r).map fun t => beh n t a).any fun s => s.eqv (enW w)) = true then enW w else if (((x :: y :: r).map fun t => beh n t a).filter fun s => !s.eqv (otW w)) = [] then otW w else grp w (((x :: y :: r).map fun t => beh n t a).filter fun s => !s.eqv (otW w)) := by
      show beh (n + 1) (.tup [.str w, .tup (x :: y :: r)]) a = _
      simp only [beh, str_inj, if_neg wt]
      rfl
    rw [e]
    unfold resG
    cases ha' : ((x :: y :: r).map fun t => beh n t a).any fun s => s.eqv (enW w) with
    | true => rfl
    | false =>
      have fe : (((x :: y :: r).map fun t => beh n t a).filter fun s => !s.eqv (otW w)) = ((x :: y :: r).map fun t => beh n t a).filter fun s => !s.isS := by
        refine List.filter_congr fun s hs => ?_
        obtain ⟨t, ht, rfl⟩ := List.mem_map.mp hs
        have ne : (beh n t a).eqv (enW w) = false := by
          cases q : (beh n t a).eqv (enW w) with
          | false => rfl
          | true => rw [List.any_eq_true.mpr ⟨_, hs, q⟩] at ha'; cases ha'
        rcases res_cases w (R t ht) with ⟨_, _, q⟩ | ⟨e, s, _⟩ | ⟨g, s, _⟩
        · rw [q] at ne; cases ne
        · rw [s, e]
          rcases en_ot w (otW_g w) with ⟨x, _, _⟩ | ⟨_, _, x⟩
          · exact (en_ne w x.symm).elim
          · rw [x]
        · rw [s]
          rcases otW_g w with q | q <;> (rw [q, g.eqvS])
      rw [fe]
theorem grp_isS {n : Nat} {w : Str} : ∀ {ds : List TL.D}, ds ≠ [] → (∀ d ∈ ds, Good n d) → (grp w ds).isS = false
  | [], h, _ => (h rfl).elim
  | [x], _, h => (h x (List.mem_singleton.mpr rfl)).isS
  | _ :: _ :: _, _, _ => rfl
theorem bh_resG {n : Nat} {w : String} {ss : List TL.D} {a : Str} (hw : w = "all" ∨ w = "any") (R : ∀ s ∈ ss, Res n s) (ha : PyData.strOk a = true) : bh (n + 1) a (resG w ss) = resG w (ss.map (bh n a)) := by
  have bE : ∀ s ∈ ss, s.isS = true → bh n a s = s := fun s _ h => by unfold bh; rw [if_pos h]
  have bG : ∀ s ∈ ss, s.isS = false → bh n a s = beh n s a := fun s _ h => by unfold bh; rw [if_neg (by simp [h])]
  by_cases h1 : (ss.any fun s => s.eqv (enW w)) = true
  · have e : resG w ss = enW w := by unfold resG; rw [if_pos h1]
    rw [e]
    obtain ⟨s, hs, q⟩ := List.any_eq_true.mp h1
    have es : s = enW w ∧ s.isS = true := by
      rcases res_cases w (R s hs) with ⟨e, i, _⟩ | ⟨_, _, x⟩ | ⟨_, _, x⟩
      · exact ⟨e, i⟩
      · rw [x] at q; cases q
      · rw [x] at q; cases q
    have : ((ss.map (bh n a)).any fun s => s.eqv (enW w)) = true := List.any_eq_true.mpr ⟨s, List.mem_map.mpr ⟨s, hs, bE s hs es.2⟩, q⟩
    unfold resG
    rw [if_pos this]
    unfold bh
    rw [if_pos (isS_en w)]
  · by_cases h2 : (ss.filter fun s => !s.isS) = []
    · have e : resG w ss = otW w := by unfold resG; rw [if_neg h1, if_pos h2]
      have al : ∀ s ∈ ss, s.isS = true := fun s hs => by
        cases q : s.isS with
        | true => rfl
        | false =>
          have : s ∈ ss.filter fun s => !s.isS := List.mem_filter.mpr ⟨hs, by simp [q]⟩
          rw [h2] at this
          cases this
      have em : ss.map (bh n a) = ss := by
        have : ss.map (bh n a) = ss.map id := List.map_congr_left fun s hs => bE s hs (al s hs)
        rw [this, List.map_id]
      rw [em, e]
      unfold bh
      rw [if_pos (isS_ot w)]
    · have e : resG w ss = grp w (ss.filter fun s => !s.isS) := by unfold resG; rw [if_neg h1, if_neg h2]
      have gl : ∀ s ∈ ss.filter fun s => !s.isS, Good n s := fun s hs => by
        obtain ⟨x, y⟩ := List.mem_filter.mp hs
        exact (R s x).good (by simpa using y)
      have ns := grp_isS (w := w) h2 gl
      rw [e]
      unfold bh
      rw [if_neg (by simp [ns])]
      rw [beh_resG hw h2 gl ha]
      have lem : ∀ l : List TL.D, (∀ s ∈ l, Res n s) → (l.any fun s => s.eqv (enW w)) ≠ true → (((l.filter fun s => !s.isS).map fun t => beh n t a).any fun s => s.eqv (enW w)) = ((l.map (bh n a)).any fun s => s.eqv (enW w)) ∧ ((((l.filter fun s => !s.isS).map fun t => beh n t a).filter fun s => !s.isS) = ((l.map (bh n a)).filter fun s => !s.isS)) := by
        intro l
        induction l with
        | nil => intro _ _; exact ⟨rfl, rfl⟩
        | cons s l ih =>
          intro hR hn
          have hn' : (l.any fun s => s.eqv (enW w)) ≠ true := fun h => hn (by rw [List.any_cons, h, Bool.or_true])
          obtain ⟨i1, i2⟩ := ih (fun s hs => hR s (List.mem_cons_of_mem _ hs)) hn'
          rcases res_cases w (hR s (List.mem_cons_self ..)) with ⟨_, _, q⟩ | ⟨_, i, q⟩ | ⟨_, i, q⟩
          · exact (hn (by rw [List.any_cons, q]; rfl)).elim
          · have eb : bh n a s = s := by unfold bh; rw [if_pos i]
            rw [List.filter_cons_of_neg (by simp [i]), List.map_cons, eb, List.any_cons, q, Bool.false_or, List.filter_cons_of_neg (by simp [i])]
            exact ⟨i1, i2⟩
          · have eb : bh n a s = beh n s a := by unfold bh; rw [if_neg (by simp [i])]
            rw [List.filter_cons_of_pos (by simp [i]), List.map_cons, List.map_cons, eb, List.any_cons, List.any_cons, i1]
            refine ⟨rfl, ?_⟩
            rw [List.filter_cons, List.filter_cons, i2]
      obtain ⟨l1, l2⟩ := lem ss R h1
      have fold : ∀ l, resG w l = if l.any fun s => s.eqv (enW w) then enW w else if (l.filter fun s => !s.isS) = [] then otW w else grp w (l.filter fun s => !s.isS) := fun l => rfl
      rw [fold, fold (ss.map fun s => if s.isS = true then s else beh n s a)]
      have l1 : _ = ((ss.map fun s => if s.isS = true then s else beh n s a).any fun s => s.eqv (enW w)) := l1
      have l2 : _ = ((ss.map fun s => if s.isS = true then s else beh n s a).filter fun s => !s.isS) := l2
      rw [l1, l2]
theorem bh_res {n : Nat} {s : TL.D} {a : Str} (ha : PyData.strOk a = true) (r : Res n s) : Res n (bh n a s) := by
  unfold bh
  split
  · exact r
  · next h => exact beh_res ha (r.good (by simpa using h))
theorem okD_grp {d : Nat} {w : String} {ds : List TL.D} (h0 : ds ≠ []) (h : ∀ x ∈ ds, okD d x) : okD (d + 2) (grp w ds) := by
  match ds, h0 with
  | [x], _ => exact (h x (List.mem_singleton.mpr rfl)).mono (by omega)
  | x :: y :: r, _ =>
    refine okD_tup (n := d + 1) (ds := [.str w, .tup (x :: y :: r)]) fun z hz => ?_
    simp at hz
    rcases hz with rfl | rfl
    · exact okD_str _ (strOk_of _)
    · exact okD_tup h
theorem okD_res {d : Nat} {w : String} {ss : List TL.D} (h : ∀ x ∈ ss, okD d x) : okD (d + 2) (resG w ss) := by
  unfold resG
  split
  · rcases enW_g w with e | e <;> (rw [e]; exact okD_str _ (strOk_of _))
  · split
    · rcases otW_g w with e | e <;> (rw [e]; exact okD_str _ (strOk_of _))
    · next hne => exact okD_grp hne fun x hx => h x (List.mem_filter.mp hx).1
/-- alike, by the parts that lead on -/
theorem alike_by {α : Type} {N m n : Nat} {s t : TL.D} {T : List α} {U V : α → TL.D} {stp : α → Str → α} {e0 : α} (hs : Dr m n s) (ht : Dr m n t) (hn : n ≤ 20) (hN : 2 * n + 4 ≤ N) (few : T.length ≤ 900000)
    (h0 : e0 ∈ T) (hU : U e0 = s) (hV : V e0 = t) (hT : ∀ e ∈ T, ∀ a, PyData.strOk a = true → stp e a ∈ T) (rU : ∀ e ∈ T, Res n (U e)) (rV : ∀ e ∈ T, Res n (V e))
    (same : ∀ e ∈ T, (U e).isS = true ∨ (V e).isS = true → U e = V e) (sU : ∀ e ∈ T, ∀ a, PyData.strOk a = true → bh n a (U e) = U (stp e a)) (sV : ∀ e ∈ T, ∀ a, PyData.strOk a = true → bh n a (V e) = V (stp e a))
    (key : ∀ e ∈ T, okD 7 (U e) ∧ okD 7 (V e)) (st : Sto) : TL.run Pg N 17 [s, t] st = .ok (.bl true) st := by
  have mem : ∀ x y, .tup [x, y] ∈ (T.filter fun e => !(U e).isS && !(V e).isS).map (fun e => TL.D.tup [U e, V e]) → ∃ e ∈ T, x = U e ∧ y = V e ∧ (U e).isS = false ∧ (V e).isS = false := by
    intro x y h
    obtain ⟨e, he, q⟩ := List.mem_map.mp h
    cases q
    obtain ⟨a, b⟩ := List.mem_filter.mp he
    simp only [Bool.and_eq_true, Bool.not_eq_true'] at b
    exact ⟨e, a, rfl, rfl, b.1, b.2⟩
  have inn : ∀ e ∈ T, (U e).isS = false → (V e).isS = false → .tup [U e, V e] ∈ (T.filter fun e => !(U e).isS && !(V e).isS).map (fun e => TL.D.tup [U e, V e]) := fun e he a b => List.mem_map.mpr ⟨e, List.mem_filter.mpr ⟨he, by simp [a, b]⟩, rfl⟩
  have ok2 : ∀ x ∈ twoN n s t ++ [("aa" : Str)], PyData.strOk x = true := fun x hx => by
    rcases List.mem_append.mp hx with hx | hx
    · exact abc_strOk x ((twoN_abc hs ht).1 x hx)
    · rw [List.mem_singleton.mp hx]; exact strOk_of _
  have R : Rm2 n (twoN n s t ++ [("aa" : Str)]) ((T.filter fun e => !(U e).isS && !(V e).isS).map fun e => TL.D.tup [U e, V e]) := by
    refine ⟨hn, ok2, fun p hp => ?_, fun x y hp a ha h1 h2 => ?_, ?_⟩
    · obtain ⟨e, he, rfl⟩ := List.mem_map.mp hp
      obtain ⟨e', he', q1, q2, i1, i2⟩ := mem _ _ hp
      have gu := (rU e' he').good i1
      have gv := (rV e' he').good i2
      rw [← q1] at gu
      rw [← q2] at gv
      have ku := (key e' he').1
      have kv := (key e' he').2
      rw [← q1] at ku
      rw [← q2] at kv
      refine ⟨_, _, rfl, gu, gv, ?_⟩
      have p : pl (.tup [U e, V e]) = true := by simp [pl, pls, gu.pl, gv.pl]
      refine key_of (n := 8) p (okD_tup (n := 7) fun d hd => ?_) (by decide)
      simp at hd
      rcases hd with rfl | rfl
      · exact ku
      · exact kv
    · obtain ⟨e, he, rfl, rfl, i1, i2⟩ := mem _ _ hp
      have su := sU e he a (ok2 a ha)
      have sv := sV e he a (ok2 a ha)
      unfold bh at su sv
      rw [if_neg (by simp [i1])] at su
      rw [if_neg (by simp [i2])] at sv
      rw [su] at h1 ⊢
      rw [sv] at h2 ⊢
      exact inn _ (hT e he a (ok2 a ha)) h1 h2
    · rw [List.length_map]
      exact Nat.le_trans (List.length_filter_le _ _) few
  refine w_alike hs ht hN R ?_ (fun x y hp a ha ho => ?_) st
  · have := inn e0 h0 (by rw [hU]; exact hs.good.isS) (by rw [hV]; exact ht.good.isS)
    rw [hU, hV] at this
    exact this
  · obtain ⟨e, he, rfl, rfl, i1, i2⟩ := mem _ _ hp
    have su := sU e he a (ok2 a ha)
    have sv := sV e he a (ok2 a ha)
    unfold bh at su sv
    rw [if_neg (by simp [i1])] at su
    rw [if_neg (by simp [i2])] at sv
    rw [su, sv] at ho ⊢
    exact same _ (hT e he a (ok2 a ha)) (by simpa using ho)
/-- what may be left of a task -/
def lft (n : Nat) (t : TL.D) : List TL.D := .str "done" :: .str "failed" :: sts n t
theorem lft_res {m n : Nat} {t s : TL.D} (d : Dr m n t) (h : s ∈ lft n t) : Res n s := by
  rcases List.mem_cons.mp h with rfl | h
  · exact .inl rfl
  · rcases List.mem_cons.mp h with rfl | h
    · exact .inr (.inl rfl)
    · exact .inr (.inr (sts_good d.good h))
theorem lft_bh {m n : Nat} {t s : TL.D} {a : Str} (d : Dr m n t) (ha : PyData.strOk a = true) (h : s ∈ lft n t) : bh n a s ∈ lft n t := by
  unfold bh
  split
  · exact h
  · next hs =>
    have r := lft_res d h
    have g := r.good (by simpa using hs)
    have ms : s ∈ sts n t := by
      rcases List.mem_cons.mp h with rfl | h
      · exact (hs rfl).elim
      · rcases List.mem_cons.mp h with rfl | h
        · exact (hs rfl).elim
        · exact h
    rcases beh_res ha g with e | e | e
    · rw [e]; exact List.mem_cons_self ..
    · rw [e]; exact List.mem_cons_of_mem _ (List.mem_cons_self ..)
    · exact List.mem_cons_of_mem _ (List.mem_cons_of_mem _ (sts_beh ha d.good ms e.isS))
theorem lft_self {m n : Nat} {t : TL.D} (d : Dr m n t) : t ∈ lft n t := List.mem_cons_of_mem _ (List.mem_cons_of_mem _ (sts_self d.good))
theorem lft_ok {m n : Nat} {t s : TL.D} (d : Dr m (n + 1) t) (h : s ∈ lft (n + 1) t) : okD (2 * n + 1) s := by
  rcases lft_res d h with rfl | rfl | g
  · exact okD_str _ (strOk_of _)
  · exact okD_str _ (strOk_of _)
  · exact g.okS

end TP

namespace TP
open TL
open PySem (Str PyData)
open L2 (atI)
theorem same_res {n : Nat} {w : String} {ss ss' : List TL.D} (R : ∀ s ∈ ss, Res n s) (R' : ∀ s ∈ ss', Res n s) (h1 : (ss.any fun s => s.eqv (enW w)) = ss'.any fun s => s.eqv (enW w)) (h2 : (ss.any fun s => s.eqv (enW w)) = false → ((ss.filter fun s => !s.isS) = [] ↔ (ss'.filter fun s => !s.isS) = []))
    (h : (resG w ss).isS = true ∨ (resG w ss').isS = true) : resG w ss = resG w ss' := by
  have gl : ∀ l : List TL.D, (∀ s ∈ l, Res n s) → ∀ s ∈ l.filter fun s => !s.isS, Good n s := fun l hl s hs => by
    obtain ⟨x, y⟩ := List.mem_filter.mp hs
    exact (hl s x).good (by simpa using y)
  cases ha : ss.any fun s => s.eqv (enW w) with
  | true =>
    have ha' := h1 ▸ ha
    unfold resG
    rw [if_pos ha, if_pos ha']
  | false =>
    have ha' := h1 ▸ ha
    have e1 : resG w ss = if (ss.filter fun s => !s.isS) = [] then otW w else grp w (ss.filter fun s => !s.isS) := by unfold resG; rw [if_neg (by rw [ha]; simp)]
    have e2 : resG w ss' = if (ss'.filter fun s => !s.isS) = [] then otW w else grp w (ss'.filter fun s => !s.isS) := by unfold resG; rw [if_neg (by rw [ha']; simp)]
    by_cases hf : (ss.filter fun s => !s.isS) = []
    · rw [e1, e2, if_pos hf, if_pos ((h2 ha).mp hf)]
    · have hf' : ¬ (ss'.filter fun s => !s.isS) = [] := fun q => hf ((h2 ha).mpr q)
      rw [e1, e2, if_neg hf, if_neg hf'] at h
      rw [grp_isS hf (gl ss R), grp_isS hf' (gl ss' R')] at h
      simp at h
theorem grp_isT {n : Nat} {w : Str} : ∀ {ds : List TL.D}, ds ≠ [] → (∀ d ∈ ds, Good n d) → ∃ ys, grp w ds = .tup ys
  | [], h, _ => (h rfl).elim
  | [x], _, h => (h x (List.mem_singleton.mpr rfl)).isT
  | _ :: _ :: _, _, _ => ⟨_, rfl⟩
theorem res_en {n : Nat} {w : String} {ss : List TL.D} (R : ∀ s ∈ ss, Res n s) : (resG w ss).eqv (enW w) = ss.any fun s => s.eqv (enW w) := by
  unfold resG
  cases ha : ss.any fun s => s.eqv (enW w) with
  | true =>
    rw [if_pos rfl]
    rcases enW_g w with e | e <;> (rw [e, eqv_str]; simp)
  | false =>
    rw [if_neg (by simp)]
    split
    · rcases en_ot w (otW_g w) with ⟨x, _, _⟩ | ⟨_, x, _⟩
      · exact (en_ne w x.symm).elim
      · exact x
    · next hf =>
      have gl : ∀ s ∈ ss.filter fun s => !s.isS, Good n s := fun s hs => by
        obtain ⟨x, y⟩ := List.mem_filter.mp hs
        exact (R s x).good (by simpa using y)
      obtain ⟨ys, e⟩ := grp_isT (w := w) hf gl
      rw [e]
      rcases enW_g w with q | q <;> (rw [q]; exact eqv_tup_str _ _)
theorem res_isS {n : Nat} {w : String} {ss : List TL.D} (R : ∀ s ∈ ss, Res n s) : (resG w ss).isS = true ↔ (ss.any fun s => s.eqv (enW w)) = true ∨ (ss.filter fun s => !s.isS) = [] := by
  have gl : ∀ s ∈ ss.filter fun s => !s.isS, Good n s := fun s hs => by
    obtain ⟨x, y⟩ := List.mem_filter.mp hs
    exact (R s x).good (by simpa using y)
  unfold resG
  by_cases ha : (ss.any fun s => s.eqv (enW w)) = true
  · rw [if_pos ha]
    exact ⟨fun _ => .inl ha, fun _ => isS_en w⟩
  · rw [if_neg ha]
    by_cases hf : (ss.filter fun s => !s.isS) = []
    · rw [if_pos hf]
      exact ⟨fun _ => .inr hf, fun _ => isS_ot w⟩
    · rw [if_neg hf, grp_isS hf gl]
      exact ⟨fun h => (by cases h), fun h => h.elim (fun h => (ha h).elim) fun h => (hf h).elim⟩
theorem bh_succ {n : Nat} {s : TL.D} {a : Str} (r : Res n s) : bh (n + 1) a s = bh n a s := by
  unfold bh
  split
  · rfl
  · next h => exact beh_succ (r.good (by simpa using h))
theorem res_good {n : Nat} {w : String} {ss : List TL.D} (h0 : ss ≠ []) (G : ∀ s ∈ ss, Good n s) : resG w ss = grp w ss := by
  have f : (ss.filter fun s => !s.isS) = ss := List.filter_eq_self.mpr fun s hs => by rw [(G s hs).isS]; rfl
  have a : (ss.any fun s => s.eqv (enW w)) = false := by
    rw [List.any_eq_false]
    intro s hs
    rcases enW_g w with e | e <;> (rw [e, (G s hs).eqvS]; simp)
  unfold resG
  rw [if_neg (by rw [a]; simp), f, if_neg h0]
section
variable {one two three : TL.D}
def prod2 (X Y : List TL.D) : List (TL.D × TL.D) := X.flatMap fun x => Y.map fun y => (x, y)
theorem prod2_mem {X Y : List TL.D} {p : TL.D × TL.D} : p ∈ prod2 X Y ↔ p.1 ∈ X ∧ p.2 ∈ Y := by
  obtain ⟨x, y⟩ := p
  simp [prod2]
theorem prod2_len {X Y : List TL.D} : (prod2 X Y).length = X.length * Y.length := by
  unfold prod2
  induction X with
  | nil => simp
  | cons x X ih => rw [List.flatMap_cons, List.length_append, ih, List.length_map, List.length_cons, Nat.add_mul]; omega
theorem lft_len {t : TL.D} (d : Dr 2 2 t) : (lft 2 t).length ≤ 28 := by
  have := sts_len2 d
  simp [lft]
  omega
theorem mem2 {P : TL.D → Prop} {x y : TL.D} (hx : P x) (hy : P y) : ∀ s ∈ [x, y], P s := fun s hs => by
  simp only [List.mem_cons, List.not_mem_nil, or_false] at hs
  rcases hs with rfl | rfl
  · exact hx
  · exact hy
theorem mem3 {P : TL.D → Prop} {x y z : TL.D} (hx : P x) (hy : P y) (hz : P z) : ∀ s ∈ [x, y, z], P s := fun s hs => by
  simp only [List.mem_cons, List.not_mem_nil, or_false] at hs
  rcases hs with rfl | rfl | rfl
  · exact hx
  · exact hy
  · exact hz
theorem hw3 {w : String} (hw : w = "all" ∨ w = "any") : w = "all" ∨ w = "any" ∨ w = "then" := by
  rcases hw with h | h
  · exact .inl h
  · exact .inr (.inl h)
theorem two_dr' {n : Nat} {w : String} (hw : w = "all" ∨ w = "any" ∨ w = "then") (d1 : Dr 2 n one) (d2 : Dr 2 n two) : Dr 2 (n + 1) (.tup [.str w, .tup [one, two]]) := .inr (.inl ⟨w, [one, two], hw, by simp, by simp, fun _ => by simp, mem2 d1 d2, rfl⟩)
theorem three_dr {n : Nat} {w : String} (hw : w = "all" ∨ w = "any" ∨ w = "then") (d1 : Dr 2 n one) (d2 : Dr 2 n two) (d3 : Dr 2 n three) : Dr 2 (n + 1) (.tup [.str w, .tup [one, two, three]]) := .inr (.inl ⟨w, [one, two, three], hw, by simp, by simp, fun _ => by simp, mem3 d1 d2 d3, rfl⟩)
/-- in either order -/
theorem al_turn {N : Nat} {w : String} (hw : w = "all" ∨ w = "any") (hN : 12 ≤ N) (d1 : Dr 2 2 one) (d2 : Dr 2 2 two) (st : Sto) : TL.run Pg N 17 [.tup [.str w, .tup [one, two]], .tup [.str w, .tup [two, one]]] st = .ok (.bl true) st := by
  have few : (prod2 (lft 2 one) (lft 2 two)).length ≤ 900000 := by
    rw [prod2_len]
    exact Nat.le_trans (Nat.mul_le_mul (lft_len d1) (lft_len d2)) (by decide)
  refine alike_by (n := 3) (T := prod2 (lft 2 one) (lft 2 two)) (U := fun p => resG w [p.1, p.2]) (V := fun p => resG w [p.2, p.1]) (stp := fun p a => (bh 2 a p.1, bh 2 a p.2)) (e0 := (one, two)) (two_dr' (hw3 hw) d1 d2) (two_dr' (hw3 hw) d2 d1) (by decide) (by omega) few (prod2_mem.mpr ⟨lft_self d1, lft_self d2⟩) ?_ ?_ ?_ ?_ ?_ ?_ ?_ ?_ ?_ st
  · exact res_good (by simp) (mem2 d1.good d2.good)
  · exact res_good (by simp) (mem2 d2.good d1.good)
  · intro e he a ha
    obtain ⟨h1, h2⟩ := prod2_mem.mp he
    exact prod2_mem.mpr ⟨lft_bh d1 ha h1, lft_bh d2 ha h2⟩
  · intro e he
    obtain ⟨h1, h2⟩ := prod2_mem.mp he
    exact res_res (hw3 hw) (by simp) (mem2 (lft_res d1 h1) (lft_res d2 h2))
  · intro e he
    obtain ⟨h1, h2⟩ := prod2_mem.mp he
    exact res_res (hw3 hw) (by simp) (mem2 (lft_res d2 h2) (lft_res d1 h1))
  · intro e he h
    obtain ⟨h1, h2⟩ := prod2_mem.mp he
    refine same_res (mem2 (lft_res d1 h1) (lft_res d2 h2)) (mem2 (lft_res d2 h2) (lft_res d1 h1)) ?_ (fun _ => ?_) h
    · simp [Bool.or_comm]
    · cases q1 : e.1.isS <;> cases q2 : e.2.isS <;> simp [q1, q2]
  · intro e he a ha
    obtain ⟨h1, h2⟩ := prod2_mem.mp he
    exact bh_resG hw (mem2 (lft_res d1 h1) (lft_res d2 h2)) ha
  · intro e he a ha
    obtain ⟨h1, h2⟩ := prod2_mem.mp he
    exact bh_resG hw (mem2 (lft_res d2 h2) (lft_res d1 h1)) ha
  · intro e he
    obtain ⟨h1, h2⟩ := prod2_mem.mp he
    exact ⟨(okD_res (mem2 (lft_ok d1 h1) (lft_ok d2 h2))).mono (by decide), (okD_res (mem2 (lft_ok d2 h2) (lft_ok d1 h1))).mono (by decide)⟩
/-- twice the same -/
theorem al_twice {N : Nat} {w : String} (hw : w = "all" ∨ w = "any") (hN : 12 ≤ N) (d1 : Dr 2 2 one) (d2 : Dr 2 2 two) (st : Sto) : TL.run Pg N 17 [.tup [.str w, .tup [one, two, one]], .tup [.str w, .tup [two, one]]] st = .ok (.bl true) st := by
  have few : (prod2 (lft 2 one) (lft 2 two)).length ≤ 900000 := by
    rw [prod2_len]
    exact Nat.le_trans (Nat.mul_le_mul (lft_len d1) (lft_len d2)) (by decide)
  refine alike_by (n := 3) (T := prod2 (lft 2 one) (lft 2 two)) (U := fun p => resG w [p.1, p.2, p.1]) (V := fun p => resG w [p.2, p.1]) (stp := fun p a => (bh 2 a p.1, bh 2 a p.2)) (e0 := (one, two)) (three_dr (hw3 hw) d1 d2 d1) (two_dr' (hw3 hw) d2 d1) (by decide) (by omega) few (prod2_mem.mpr ⟨lft_self d1, lft_self d2⟩) ?_ ?_ ?_ ?_ ?_ ?_ ?_ ?_ ?_ st
  · exact res_good (by simp) (mem3 d1.good d2.good d1.good)
  · exact res_good (by simp) (mem2 d2.good d1.good)
  · intro e he a ha
    obtain ⟨h1, h2⟩ := prod2_mem.mp he
    exact prod2_mem.mpr ⟨lft_bh d1 ha h1, lft_bh d2 ha h2⟩
  · intro e he
    obtain ⟨h1, h2⟩ := prod2_mem.mp he
    exact res_res (hw3 hw) (by simp) (mem3 (lft_res d1 h1) (lft_res d2 h2) (lft_res d1 h1))
  · intro e he
    obtain ⟨h1, h2⟩ := prod2_mem.mp he
    exact res_res (hw3 hw) (by simp) (mem2 (lft_res d2 h2) (lft_res d1 h1))
  · intro e he h
    obtain ⟨h1, h2⟩ := prod2_mem.mp he
    refine same_res (mem3 (lft_res d1 h1) (lft_res d2 h2) (lft_res d1 h1)) (mem2 (lft_res d2 h2) (lft_res d1 h1)) ?_ (fun _ => ?_) h
    · simp only [List.any_cons, List.any_nil, Bool.or_false]
      cases e.1.eqv (enW w) <;> cases e.2.eqv (enW w) <;> rfl
    · cases q1 : e.1.isS <;> cases q2 : e.2.isS <;> simp [q1, q2]
  · intro e he a ha
    obtain ⟨h1, h2⟩ := prod2_mem.mp he
    exact bh_resG hw (mem3 (lft_res d1 h1) (lft_res d2 h2) (lft_res d1 h1)) ha
  · intro e he a ha
    obtain ⟨h1, h2⟩ := prod2_mem.mp he
    exact bh_resG hw (mem2 (lft_res d2 h2) (lft_res d1 h1)) ha
  · intro e he
    obtain ⟨h1, h2⟩ := prod2_mem.mp he
    exact ⟨(okD_res (mem3 (lft_ok d1 h1) (lft_ok d2 h2) (lft_ok d1 h1))).mono (by decide), (okD_res (mem2 (lft_ok d2 h2) (lft_ok d1 h1))).mono (by decide)⟩
def prod3 (X Y Z : List TL.D) : List (TL.D × TL.D × TL.D) := X.flatMap fun x => (prod2 Y Z).map fun y => (x, y)
theorem prod3_mem {X Y Z : List TL.D} {p : TL.D × TL.D × TL.D} : p ∈ prod3 X Y Z ↔ p.1 ∈ X ∧ p.2.1 ∈ Y ∧ p.2.2 ∈ Z := by
  obtain ⟨x, y, z⟩ := p
  simp only [prod3, List.mem_flatMap, List.mem_map]
  constructor
  · rintro ⟨x', hx, q, hq, e⟩
    cases e
    exact ⟨hx, (prod2_mem.mp hq).1, (prod2_mem.mp hq).2⟩
  · rintro ⟨hx, hy, hz⟩
    exact ⟨x, hx, (y, z), prod2_mem.mpr ⟨hy, hz⟩, rfl⟩
theorem prod3_len {X Y Z : List TL.D} : (prod3 X Y Z).length = X.length * (Y.length * Z.length) := by
  unfold prod3
  rw [← prod2_len]
  induction X with
  | nil => simp
  | cons x X ih => rw [List.flatMap_cons, List.length_append, ih, List.length_map, List.length_cons, Nat.add_mul]; omega
/-- a group in a group -/
theorem al_nest {N : Nat} {w : String} (hw : w = "all" ∨ w = "any") (hN : 12 ≤ N) (d1 : Dr 2 2 one) (d2 : Dr 2 2 two) (d3 : Dr 2 2 three) (st : Sto) : TL.run Pg N 17 [.tup [.str w, .tup [.tup [.str w, .tup [one, two]], three]], .tup [.str w, .tup [one, two, three]]] st = .ok (.bl true) st := by
  have few : (prod3 (lft 2 one) (lft 2 two) (lft 2 three)).length ≤ 900000 := by
    rw [prod3_len]
    exact Nat.le_trans (Nat.mul_le_mul (lft_len d1) (Nat.mul_le_mul (lft_len d2) (lft_len d3))) (by decide)
  have dA : Dr 2 3 (.tup [.str w, .tup [one, two]]) := two_dr' (hw3 hw) d1 d2
  have inner : ∀ e ∈ prod3 (lft 2 one) (lft 2 two) (lft 2 three), Res 3 (resG w [e.1, e.2.1]) ∧ Res 3 e.2.2 ∧ Res 2 e.1 ∧ Res 2 e.2.1 ∧ Res 2 e.2.2 := fun e he => by
    obtain ⟨h1, h2, h3⟩ := prod3_mem.mp he
    exact ⟨res_res (hw3 hw) (by simp) (mem2 (lft_res d1 h1) (lft_res d2 h2)), (lft_res d3 h3).mono (by decide), lft_res d1 h1, lft_res d2 h2, lft_res d3 h3⟩
  refine alike_by (n := 4) (T := prod3 (lft 2 one) (lft 2 two) (lft 2 three)) (U := fun p => resG w [resG w [p.1, p.2.1], p.2.2]) (V := fun p => resG w [p.1, p.2.1, p.2.2]) (stp := fun p a => (bh 2 a p.1, bh 2 a p.2.1, bh 2 a p.2.2)) (e0 := (one, two, three)) (two_dr' (hw3 hw) dA d3.succ) (three_dr (hw3 hw) d1.succ d2.succ d3.succ) (by decide) (by omega) few (prod3_mem.mpr ⟨lft_self d1, lft_self d2, lft_self d3⟩) ?_ ?_ ?_ ?_ ?_ ?_ ?_ ?_ ?_ st
  · have e : resG w [one, two] = .tup [.str w, .tup [one, two]] := res_good (by simp) (mem2 d1.good d2.good)
    show resG w [resG w [one, two], three] = _
    rw [e]
    exact res_good (n := 3) (by simp) (mem2 dA.good d3.succ.good)
  · exact res_good (by simp) (mem3 d1.good d2.good d3.good)
  · intro e he a ha
    obtain ⟨h1, h2, h3⟩ := prod3_mem.mp he
    exact prod3_mem.mpr ⟨lft_bh d1 ha h1, lft_bh d2 ha h2, lft_bh d3 ha h3⟩
  · intro e he
    obtain ⟨r1, r2, _⟩ := inner e he
    exact res_res (hw3 hw) (by simp) (mem2 r1 r2)
  · intro e he
    obtain ⟨_, r2, r3, r4, _⟩ := inner e he
    exact res_res (hw3 hw) (by simp) (mem3 (r3.mono (by decide)) (r4.mono (by decide)) r2)
  · intro e he h
    obtain ⟨r1, r2, r3, r4, r5⟩ := inner e he
    refine same_res (n := 3) (mem2 r1 r2) (mem3 (r3.mono (by decide)) (r4.mono (by decide)) r2) ?_ (fun hn => ?_) h
    · simp only [List.any_cons, List.any_nil, Bool.or_false, res_en (mem2 r3 r4), Bool.or_assoc]
    · simp only [List.any_cons, List.any_nil, Bool.or_false, res_en (mem2 r3 r4), Bool.or_eq_false_iff] at hn
      have hi := res_isS (w := w) (mem2 r3 r4)
      simp only [List.any_cons, List.any_nil, Bool.or_false, hn.1.1, hn.1.2, Bool.false_eq_true, false_or] at hi
      cases q1 : e.1.isS <;> cases q2 : e.2.1.isS <;> cases q3 : e.2.2.isS <;> cases q4 : (resG w [e.1, e.2.1]).isS <;> simp [q1, q2, q3, q4] at hi ⊢
  · intro e he a ha
    obtain ⟨r1, r2, r3, r4, r5⟩ := inner e he
    show bh 4 a (resG w [resG w [e.1, e.2.1], e.2.2]) = resG w [resG w [bh 2 a e.1, bh 2 a e.2.1], bh 2 a e.2.2]
    rw [bh_resG (n := 3) hw (mem2 r1 r2) ha, List.map_cons, List.map_cons, List.map_nil, bh_resG (n := 2) hw (mem2 r3 r4) ha, bh_succ r5]
    rfl
  · intro e he a ha
    obtain ⟨r1, r2, r3, r4, r5⟩ := inner e he
    show bh 4 a (resG w [e.1, e.2.1, e.2.2]) = resG w [bh 2 a e.1, bh 2 a e.2.1, bh 2 a e.2.2]
    rw [bh_resG (n := 3) hw (mem3 (r3.mono (by decide)) (r4.mono (by decide)) r2) ha, List.map_cons, List.map_cons, List.map_cons, List.map_nil, bh_succ r3, bh_succ r4, bh_succ r5]
  · intro e he
    obtain ⟨h1, h2, h3⟩ := prod3_mem.mp he
    have k3 := lft_ok d3 h3
    exact ⟨okD_res (mem2 (okD_res (mem2 (lft_ok d1 h1) (lft_ok d2 h2))) (k3.mono (by decide))), (okD_res (mem3 (lft_ok d1 h1) (lft_ok d2 h2) k3)).mono (by decide)⟩
end

end TP

namespace TP
open TL
open PySem (Str PyData)
open L2 (atI)
def thn (x y : TL.D) : TL.D := .tup [.str "then", .tup [x, y]]
theorem thn_beh {n : Nat} {x y : TL.D} {a : Str} : beh (n + 1) (thn x y) a = if (beh n x a).eqv (.str "failed") then .str "failed" else if (beh n x a).eqv (.str "done") then y else thn (beh n x a) y := by
  show beh (n + 1) (.tup [.str "then", .tup [x, y]]) a = _
  simp only [beh, if_true]
  rfl
theorem thn_dr {n : Nat} {x y : TL.D} (d1 : Dr 2 n x) (d2 : Dr 2 n y) : Dr 2 (n + 1) (thn x y) := two_dr' (.inr (.inr rfl)) d1 d2
theorem thn_ok {d : Nat} {x y : TL.D} (h1 : okD d x) (h2 : okD d y) : okD (d + 2) (thn x y) := okD_grp (w := "then") (ds := [x, y]) (by simp) (mem2 h1 h2)
theorem lft_dr {t s : TL.D} {n : Nat} (d : Dr 2 n t) (h : s ∈ sts n t) : Dr 2 n s := sts_dr d h
theorem al_then {N : Nat} {one two three : TL.D} (hN : 12 ≤ N) (d1 : Dr 2 2 one) (d2 : Dr 2 2 two) (d3 : Dr 2 2 three) (st : Sto) : TL.run Pg N 17 [thn (thn one two) three, thn one (thn two three)] st = .ok (.bl true) st := by
  have d23 : Dr 2 3 (thn two three) := thn_dr d2 d3
  have l23 : (sts 3 (thn two three)).length ≤ 19682 := sts_len3 d23
  have l1 := sts_len2 d1
  have few : (((sts 2 one).map fun x => (false, x)) ++ (lft 3 (thn two three)).map fun x => (true, x)).length ≤ 900000 := by
    simp [lft]
    omega
  have cas : ∀ e ∈ ((sts 2 one).map fun x => (false, x)) ++ (lft 3 (thn two three)).map (fun x => (true, x)), (∃ x ∈ sts 2 one, e = (false, x)) ∨ ∃ x ∈ lft 3 (thn two three), e = (true, x) := by
    intro e he
    rcases List.mem_append.mp he with h | h
    · obtain ⟨x, hx, rfl⟩ := List.mem_map.mp h
      exact .inl ⟨x, hx, rfl⟩
    · obtain ⟨x, hx, rfl⟩ := List.mem_map.mp h
      exact .inr ⟨x, hx, rfl⟩
  have inF : ∀ x ∈ sts 2 one, (false, x) ∈ ((sts 2 one).map fun x => (false, x)) ++ (lft 3 (thn two three)).map fun x => (true, x) := fun x hx => List.mem_append_left _ (List.mem_map.mpr ⟨x, hx, rfl⟩)
  have inT : ∀ x ∈ lft 3 (thn two three), (true, x) ∈ ((sts 2 one).map fun x => (false, x)) ++ (lft 3 (thn two three)).map fun x => (true, x) := fun x hx => List.mem_append_right _ (List.mem_map.mpr ⟨x, hx, rfl⟩)
  refine alike_by (n := 4) (T := ((sts 2 one).map fun x => (false, x)) ++ (lft 3 (thn two three)).map fun x => (true, x)) (U := fun p => if p.1 then p.2 else thn (thn p.2 two) three) (V := fun p => if p.1 then p.2 else thn p.2 (thn two three))
    (stp := fun p a => if p.1 then (true, bh 3 a p.2) else if (beh 2 p.2 a).eqv (.str "failed") then (true, .str "failed") else if (beh 2 p.2 a).eqv (.str "done") then (true, thn two three) else (false, beh 2 p.2 a)) (e0 := (false, one)) (thn_dr (thn_dr d1 d2) d3.succ) (thn_dr d1.succ d23) (by decide) (by omega) few (inF _ (sts_self d1.good)) rfl rfl ?_ ?_ ?_ ?_ ?_ ?_ ?_ st
  · intro e he a ha
    rcases cas e he with ⟨x, hx, rfl⟩ | ⟨x, hx, rfl⟩
    · simp only [Bool.false_eq_true, if_false]
      rcases beh_res ha (sts_good d1.good hx) with q | q | q
      · rw [q]
        simp only [eqv_str, str_inj]
        simp
        exact lft_self d23
      · rw [q]
        simp only [eqv_str, str_inj]
        simp
        exact List.mem_cons_of_mem _ (List.mem_cons_self ..)
      · rw [q.eqvS, q.eqvS]
        exact inF _ (sts_beh ha d1.good hx q.isS)
    · exact inT _ (lft_bh d23 ha hx)
  · intro e he
    rcases cas e he with ⟨x, hx, rfl⟩ | ⟨x, hx, rfl⟩
    · exact .inr (.inr (thn_dr (thn_dr (sts_dr d1 hx) d2) d3.succ).good)
    · exact (lft_res d23 hx).mono (by decide)
  · intro e he
    rcases cas e he with ⟨x, hx, rfl⟩ | ⟨x, hx, rfl⟩
    · exact .inr (.inr (thn_dr (sts_dr d1 hx).succ d23).good)
    · exact (lft_res d23 hx).mono (by decide)
  · intro e he h
    rcases cas e he with ⟨x, hx, rfl⟩ | ⟨x, hx, rfl⟩
    · simp [thn, TL.D.isS] at h
    · rfl
  · intro e he a ha
    rcases cas e he with ⟨x, hx, rfl⟩ | ⟨x, hx, rfl⟩
    · simp only [Bool.false_eq_true, if_false]
      have i0 : (thn (thn x two) three).isS = false := rfl
      unfold bh
      rw [if_neg (by rw [i0]; simp), thn_beh, thn_beh]
      rcases beh_res ha (sts_good d1.good hx) with q | q | q
      · rw [q]
        have e2 := d2.good.eqvS
        simp [eqv_str, e2]
      · rw [q]
        simp [eqv_str]
      · rw [q.eqvS, q.eqvS]
        simp [thn, eqv_tup_str]
    · simp only [if_true]
      exact bh_succ (lft_res d23 hx)
  · intro e he a ha
    rcases cas e he with ⟨x, hx, rfl⟩ | ⟨x, hx, rfl⟩
    · simp only [Bool.false_eq_true, if_false]
      have i0 : (thn x (thn two three)).isS = false := rfl
      have gx := sts_good d1.good hx
      unfold bh
      rw [if_neg (by rw [i0]; simp), thn_beh, beh_succ gx]
      rcases beh_res ha gx with q | q | q
      · rw [q]
        simp [eqv_str]
      · rw [q]
        simp [eqv_str]
      · rw [q.eqvS, q.eqvS]
        simp
    · simp only [if_true]
      exact bh_succ (lft_res d23 hx)
  · intro e he
    rcases cas e he with ⟨x, hx, rfl⟩ | ⟨x, hx, rfl⟩
    · have k1 : okD 3 x := (sts_good d1.good hx).okS
      have k2 : okD 3 two := d2.good.okS
      have k3 : okD 3 three := d3.good.okS
      exact ⟨thn_ok (thn_ok k1 k2) (k3.mono (by decide)), thn_ok (k1.mono (by decide)) (thn_ok k2 k3)⟩
    · have := lft_ok d23 hx
      exact ⟨this.mono (by decide), this.mono (by decide)⟩
/-- all pairs of what is left of two -/
theorem pr_room {n : Nat} {s t : TL.D} {as : List Str} (hn : n ≤ 4) (ds : Dr 2 n s) (dt : Dr 2 n t) (few : (sts n s).length * (sts n t).length ≤ 900000) (ok : ∀ x ∈ as, PyData.strOk x = true) : Rm2 n as ((prod2 (sts n s) (sts n t)).map fun p => .tup [p.1, p.2]) := by
  have key : ∀ {n : Nat} {x y : TL.D}, n ≤ 4 → Good n x → Good n y → isKey (.tup [x, y]) = true := by
    intro n x y h gx gy
    match n, h, gx, gy with
    | n + 1, h, gx, gy => exact pair_key gx gy (gx.okS.mono (by omega)) (gy.okS.mono (by omega))
  refine ⟨by omega, ok, fun p hp => ?_, fun x y hp a ha h1 h2 => ?_, by rw [List.length_map, prod2_len]; exact few⟩
  · obtain ⟨q, hq, rfl⟩ := List.mem_map.mp hp
    obtain ⟨h1, h2⟩ := prod2_mem.mp hq
    have g1 := sts_good ds.good h1
    have g2 := sts_good dt.good h2
    exact ⟨_, _, rfl, g1, g2, key hn g1 g2⟩
  · obtain ⟨q, hq, e⟩ := List.mem_map.mp hp
    cases e
    obtain ⟨q1, q2⟩ := prod2_mem.mp hq
    exact List.mem_map.mpr ⟨(_, _), prod2_mem.mpr ⟨sts_beh (ok a ha) ds.good q1 h1, sts_beh (ok a ha) dt.good q2 h2⟩, rfl⟩
theorem two_ok {n : Nat} {s t : TL.D} (ds : Dr 2 n s) (dt : Dr 2 n t) : ∀ x ∈ twoN n s t ++ [("aa" : Str)], PyData.strOk x = true := fun x hx => by
  rcases List.mem_append.mp hx with hx | hx
  · exact abc_strOk x ((twoN_abc ds dt).1 x hx)
  · rw [List.mem_singleton.mp hx]; exact strOk_of _
/-- alike, as unlike finds it -/
theorem w_alike2 {N n : Nat} {s t : TL.D} (hn : n ≤ 4) (ds : Dr 2 n s) (dt : Dr 2 n t) (few : (sts n s).length * (sts n t).length ≤ 900000) (hN : 2 * n + 4 ≤ N) (st : Sto) : ∃ r, Fnd (hop2 n) (twoN n s t ++ [("aa" : Str)]) (.tup [s, t]) r ∧ TL.run Pg N 17 [s, t] st = .ok (.bl r.isNone) st := by
  obtain ⟨N, rfl⟩ : ∃ M, N = M + 1 := ⟨N - 1, by omega⟩
  obtain ⟨r, f, e⟩ := w_unlike ds dt (by omega : 2 * n + 3 ≤ N) (pr_room hn ds dt few (two_ok ds dt)) (List.mem_map.mpr ⟨(s, t), prod2_mem.mpr ⟨sts_self ds.good, sts_self dt.good⟩, rfl⟩) st
  refine ⟨r, f, ?_⟩
  have o1' := ds.good.ok.own
  have o2' := dt.good.ok.own
  rw [run_c (F := c_alike) rfl rfl]
  cases r with
  | none => simp [c_alike, enter, o1', o2', e]
  | some q => simp [c_alike, enter, o1', o2', e]
theorem hop2_swap {n : Nat} {x y : TL.D} {a : Str} (gx : Good n x) (gy : Good n y) (ha : PyData.strOk a = true) : hop2 n (.tup [y, x]) a = match hop2 n (.tup [x, y]) a with
    | .hit => .hit | .over => .over | .go _ => .go (.tup [beh n y a, beh n x a]) := by
  have sym : ∀ {u v : TL.D}, Res n u → Res n v → u.eqv v = v.eqv u := by
    intro u v ru rv
    rcases ru with rfl | rfl | gu <;> rcases rv with rfl | rfl | gv
    · rfl
    · simp [eqv_str]
    · obtain ⟨ds, rfl⟩ := gv.isT
      rw [eqv_str_tup, eqv_tup_str]
    · simp [eqv_str]
    · rfl
    · obtain ⟨ds, rfl⟩ := gv.isT
      rw [eqv_str_tup, eqv_tup_str]
    · obtain ⟨ds, rfl⟩ := gu.isT
      rw [eqv_str_tup, eqv_tup_str]
    · obtain ⟨ds, rfl⟩ := gu.isT
      rw [eqv_str_tup, eqv_tup_str]
    · cases h : u.eqv v with
      | true => rw [(gu.eq gv).mp h, gv.ok.eqv_refl]
      | false =>
        cases k : v.eqv u with
        | false => rfl
        | true =>
          rw [(gv.eq gu).mp k, gu.ok.eqv_refl] at h
          cases h
  unfold hop2
  simp only
  rw [Bool.or_comm, sym (beh_res ha gy) (beh_res ha gx)]
  by_cases h1 : ((beh n x a).isS || (beh n y a).isS) = true
  · rw [if_pos h1, if_pos h1]
    by_cases h2 : (beh n x a).eqv (beh n y a) = true
    · rw [if_pos h2]
    · rw [if_neg h2]
  · rw [if_neg h1, if_neg h1]
theorem hits_swap {n : Nat} : ∀ {w : List Str} {x y : TL.D}, (∀ a ∈ w, PyData.strOk a = true) → Good n x → Good n y → Hits (hop2 n) (.tup [x, y]) w → Hits (hop2 n) (.tup [y, x]) w
  | [], _, _, _, _, _, h => h.elim
  | a :: w, x, y, ok, gx, gy, h => by
    have ha := ok a (List.mem_cons_self ..)
    have sw := hop2_swap gx gy ha
    cases q : hop2 n (.tup [x, y]) a with
    | hit =>
      rw [q] at sw
      rw [hits_hit q] at h
      exact (hits_hit sw).mpr h
    | over => exact (hits_over q h).elim
    | go z =>
      rw [q] at sw
      rw [hits_go q] at h
      rw [hits_go sw]
      unfold hop2 at q
      simp only at q
      split at q
      · split at q <;> cases q
      · next hn =>
        cases q
        simp only [Bool.or_eq_true, not_or, Bool.not_eq_true] at hn
        exact hits_swap (fun b hb => ok b (List.mem_cons_of_mem _ hb)) ((beh_res ha gx).good hn.1) ((beh_res ha gy).good hn.2) h
theorem twoN_comm {n : Nat} {s t : TL.D} : twoN n s t = twoN n t s := srt_ext fun x => by simp [List.mem_append, or_comm]
/-- what a row that parts two tasks makes of them -/
theorem hits_tols {n : Nat} : ∀ {w : List Str} {x y : TL.D} (i : Nat), (∀ a ∈ w, PyData.strOk a = true) → Good n x → Good n y → Hits (hop2 n) (.tup [x, y]) w → ∃ u v, Res n u ∧ Res n v ∧ u.eqv v = false ∧ (u.isS = true ∨ v.isS = true) ∧
    tol n x w i = .tup [u, if u.isS then .int ((i : Int) + w.length) else .non] ∧ tol n y w i = .tup [v, if v.isS then .int ((i : Int) + w.length) else .non]
  | [], _, _, _, _, _, _, h => h.elim
  | a :: w, x, y, i, ok, gx, gy, h => by
    have ha := ok a (List.mem_cons_self ..)
    have rx := beh_res ha gx
    have ry := beh_res ha gy
    by_cases h1 : ((beh n x a).isS || (beh n y a).isS) = true
    · by_cases h2 : (beh n x a).eqv (beh n y a) = true
      · have q : hop2 n (.tup [x, y]) a = .over := by unfold hop2; simp only; rw [if_pos h1, if_pos h2]
        exact (hits_over q h).elim
      · have q : hop2 n (.tup [x, y]) a = .hit := by unfold hop2; simp only; rw [if_pos h1, if_neg h2]
        rw [hits_hit q] at h
        subst h
        refine ⟨_, _, rx, ry, by simpa using h2, by simpa using h1, ?_, ?_⟩
        · unfold tol
          cases beh n x a |>.isS <;> simp [tol]
        · unfold tol
          cases beh n y a |>.isS <;> simp [tol]
    · have q : hop2 n (.tup [x, y]) a = .go (.tup [beh n x a, beh n y a]) := by unfold hop2; simp only; rw [if_neg h1]
      rw [hits_go q] at h
      simp only [Bool.or_eq_true, not_or, Bool.not_eq_true] at h1
      obtain ⟨u, v, a1, a2, a3, a4, a5, a6⟩ := hits_tols (i + 1) (fun b hb => ok b (List.mem_cons_of_mem _ hb)) (rx.good h1.1) (ry.good h1.2) h
      refine ⟨u, v, a1, a2, a3, a4, ?_, ?_⟩
      · unfold tol
        rw [if_neg (by simp [h1.1]), a5]
        simp only [List.length_cons]
        congr 3
        split <;> first | rfl | (congr 1; omega)
      · unfold tol
        rw [if_neg (by simp [h1.2]), a6]
        simp only [List.length_cons]
        congr 3
        split <;> first | rfl | (congr 1; omega)

end TP

namespace TP
open TL
open PySem (Str PyData)
open L2 (atI)
theorem hits_uni {f : TL.D → Str → Hop} : ∀ {v v' u : List Str} {s : TL.D}, Hits f s v → Hits f s v' → v <+: u → v' <+: u → v = v'
  | [], _, _, _, h, _, _, _ => h.elim
  | _ :: _, [], _, _, _, h, _, _ => h.elim
  | a :: v, b :: v', u, s, h, h', ⟨x, e⟩, ⟨y, e'⟩ => by
    subst e
    injection e' with e1 e2
    subst e1
    cases q : f s b with
    | hit =>
      rw [hits_hit q] at h h'
      rw [h, h']
    | over => exact (hits_over q h).elim
    | go z =>
      rw [hits_go q] at h h'
      rw [hits_uni h h' ⟨x, rfl⟩ ⟨y, e2⟩]
/-- decided alike -/
def Ev (n : Nat) (t u : TL.D) : Prop := ∀ (as : List Str) (i : Int), (∀ a ∈ as, PyData.strOk a = true) → decI n u as i = decI n t as i
theorem ev_dc {n : Nat} {t u : TL.D} (gt : Good n t) (gu : Good n u) (h : ∀ (v : List Str), (∀ a ∈ v, PyData.strOk a = true) → ∀ g, (g = .str "done" ∨ g = .str "failed") → (Dc n g t v ↔ Dc n g u v)) : Ev n t u := by
  intro as i ok
  have go : ∀ {t u : TL.D}, Good n t → Good n u → (∀ (v : List Str), (∀ a ∈ v, PyData.strOk a = true) → ∀ g, (g = .str "done" ∨ g = .str "failed") → (Dc n g t v ↔ Dc n g u v)) → ∀ o p, decI n t as i = some (o, p) → decI n u as i = some (o, p) := by
    intro t u gt gu h o p hd
    have ho := (decI_bd ok gt hd).2.2
    obtain ⟨v, pv, hv, rfl⟩ := dec_hits ho ok gt hd
    have okv : ∀ a ∈ v, PyData.strOk a = true := fun a ha => ok a (pv.subset ha)
    obtain ⟨v', pv', hv'⟩ := (h v okv o ho).mp ⟨v, List.prefix_refl _, hv⟩
    have okv' : ∀ a ∈ v', PyData.strOk a = true := fun a ha => okv a (pv'.subset ha)
    obtain ⟨v2, pv2, hv2⟩ := (h v' okv' o ho).mpr ⟨v', List.prefix_refl _, hv'⟩
    have e := hits_uni hv hv2 (List.prefix_refl _) (pv2.trans pv')
    subst e
    have e2 : v' = v := List.IsPrefix.eq_of_length_le pv' pv2.length_le
    subst e2
    obtain ⟨x, rfl⟩ := pv
    exact decI_pre x (hits_dec ho okv gu hv')
  cases h1 : decI n t as i with
  | some q =>
    obtain ⟨o, p⟩ := q
    exact go gt gu h o p h1
  | none =>
    cases h2 : decI n u as i with
    | none => rfl
    | some q =>
      obtain ⟨o, p⟩ := q
      have := go gu gt (fun v ok g hg => (h v ok g hg).symm) o p h2
      rw [h1] at this
      cases this
theorem Ev.dc {n : Nat} {t u : TL.D} (e : Ev n t u) (gt : Good n t) (gu : Good n u) {g : TL.D} (hg : g = .str "done" ∨ g = .str "failed") {v : List Str} (ok : ∀ a ∈ v, PyData.strOk a = true) : Dc n g t v ↔ Dc n g u v := by
  constructor
  · intro h
    obtain ⟨p, hp⟩ := h.to hg ok gt 0
    exact .of (i := 0) (p := p) hg ok gu (by rw [e v 0 ok]; exact hp)
  · intro h
    obtain ⟨p, hp⟩ := h.to hg ok gu 0
    exact .of (i := 0) (p := p) hg ok gt (by rw [← e v 0 ok]; exact hp)
theorem en_or (w : String) {g : TL.D} (hg : g = .str "done" ∨ g = .str "failed") : g = enW w ∨ g = otW w := by
  rcases en_ot w hg with ⟨e, _⟩ | ⟨e, _⟩
  · exact .inl e
  · exact .inr e
theorem dc_succ {n : Nat} {g t : TL.D} {v : List Str} (hg : g = .str "done" ∨ g = .str "failed") (ok : ∀ a ∈ v, PyData.strOk a = true) (gt : Good n t) : Dc (n + 1) g t v ↔ Dc n g t v := by
  constructor
  · intro h
    obtain ⟨p, hp⟩ := h.to hg ok gt.succ 0
    rw [decI_succ ok gt] at hp
    exact .of hg ok gt hp
  · intro h
    obtain ⟨p, hp⟩ := h.to hg ok gt 0
    rw [← decI_succ ok gt] at hp
    exact .of hg ok gt.succ hp
/-- groups whose parts tell the same -/
theorem ev_grp {n : Nat} {w : String} (hw : w = "all" ∨ w = "any") {ts us : List TL.D} (h0 : ts ≠ []) (h0' : us ≠ []) (hl : ts.length ≤ 1000) (hl' : us.length ≤ 1000) (G : ∀ t ∈ ts, Good n t) (G' : ∀ t ∈ us, Good n t)
    (h : ∀ (v : List Str), (∀ a ∈ v, PyData.strOk a = true) → ((∃ t ∈ ts, Dc n (enW w) t v) ↔ ∃ t ∈ us, Dc n (enW w) t v) ∧ ((∀ t ∈ ts, Dc n (otW w) t v) ↔ ∀ t ∈ us, Dc n (otW w) t v)) : Ev (n + 1) (.tup [.str w, .tup ts]) (.tup [.str w, .tup us]) := by
  have mk : ∀ {ts : List TL.D}, ts ≠ [] → ts.length ≤ 1000 → (∀ t ∈ ts, Good n t) → Good (n + 1) (.tup [.str w, .tup ts]) := fun a b c => .inr (.inl ⟨w, _, by rcases hw with rfl | rfl; exact .inl rfl; exact .inr (.inl rfl), a, b, (by rcases hw with rfl | rfl <;> (intro e; exact absurd e (by decide))), c, rfl⟩)
  refine ev_dc (mk h0 hl G) (mk h0' hl' G') fun v ok g hg => ?_
  rcases en_or w hg with rfl | rfl
  · rw [grp_en hw ok h0 hl G, grp_en hw ok h0' hl' G']
    exact (h v ok).1
  · rw [grp_ot hw ok h0 hl G, grp_ot hw ok h0' hl' G']
    exact (h v ok).2
theorem seqD_app {n : Nat} {ds : List Str} : ∀ (us C : List TL.D) (i : Int), seqD n ds (us ++ C) i = match seqD n ds us i with
    | none => none
    | some (o, p) => if o.eqv (.str "failed") then some (o, p) else seqD n ds C p
  | [], C, i => by simp [seqD, eqv_str]
  | t :: us, C, i => by
    rw [List.cons_append, seqD, seqD]
    cases h : decI n t (ds.drop i.toNat) i with
    | none => rfl
    | some q =>
      obtain ⟨o, p⟩ := q
      simp only
      by_cases e : o.eqv (.str "failed") = true
      · rw [if_pos e, if_pos e]
        simp only
        rw [if_pos e]
      · rw [if_neg e, if_neg e]
        exact seqD_app us C p
theorem seqD_nn {n : Nat} {ds : List Str} (ok : ∀ a ∈ ds, PyData.strOk a = true) : ∀ (us : List TL.D) (i p : Int) (o : TL.D), 0 ≤ i → (∀ t ∈ us, Good n t) → seqD n ds us i = some (o, p) → 0 ≤ p
  | [], i, p, o, hi, _, h => by
    unfold seqD at h
    cases h
    exact hi
  | t :: us, i, p, o, hi, hg, h => by
    have okd : ∀ a ∈ ds.drop i.toNat, PyData.strOk a = true := fun a ha => ok a (List.mem_of_mem_drop ha)
    unfold seqD at h
    cases hd : decI n t (ds.drop i.toNat) i with
    | none => rw [hd] at h; cases h
    | some q =>
      obtain ⟨o1, p1⟩ := q
      rw [hd] at h
      simp only at h
      have b := (decI_bd okd (hg t (List.mem_cons_self ..)) hd).1
      split at h
      · cases h; omega
      · exact seqD_nn ok us p1 p o (by omega) (fun s hs => hg s (List.mem_cons_of_mem _ hs)) h
theorem dec_then {n : Nat} {ts : List TL.D} (h2 : 2 ≤ ts.length) (hl : ts.length ≤ 1000) (G : ∀ t ∈ ts, Good n t) {ds : List Str} (ok : ∀ a ∈ ds, PyData.strOk a = true) (j : Nat) : decI (n + 1) (.tup [.str "then", .tup ts]) (ds.drop j) j = seqD (n + 1) ds ts j := by
  have h0 : ts ≠ [] := by rintro rfl; simp at h2
  have := decI_then ok (as := ds.drop j) (j := j) rfl h0 hl G
  match ts, h2 with
  | _ :: _ :: _, _ => exact this
theorem ev_then {n : Nat} {ts us : List TL.D} (h2 : 2 ≤ ts.length) (h2' : 2 ≤ us.length) (hl : ts.length ≤ 1000) (hl' : us.length ≤ 1000) (G : ∀ t ∈ ts, Good n t) (G' : ∀ t ∈ us, Good n t)
    (h : ∀ (ds : List Str), (∀ a ∈ ds, PyData.strOk a = true) → seqD (n + 1) ds us 0 = seqD (n + 1) ds ts 0) : Ev (n + 1) (.tup [.str "then", .tup ts]) (.tup [.str "then", .tup us]) := by
  intro as i ok
  have a := dec_then h2 hl G ok 0
  have b := dec_then h2' hl' G' ok 0
  rw [List.drop_zero] at a b
  have s := fun (t : TL.D) => decI_shift (n := n + 1) (as := as) (t := t) (i := 0) i
  rw [Int.zero_add] at s
  rw [s, s]
  have a : decI (n + 1) (.tup [.str "then", .tup ts]) as 0 = seqD (n + 1) as ts 0 := a
  have b : decI (n + 1) (.tup [.str "then", .tup us]) as 0 = seqD (n + 1) as us 0 := b
  rw [a, b, h as ok]
theorem Ev.succ {n : Nat} {t u : TL.D} (e : Ev n t u) (gt : Good n t) (gu : Good n u) : Ev (n + 1) t u := fun as i ok => by
  rw [decI_succ ok gt, decI_succ ok gu, e as i ok]
theorem seqD_congr {n : Nat} {ds : List Str} (ok : ∀ a ∈ ds, PyData.strOk a = true) {p q : TL.D} (e : Ev n p q) (A C : List TL.D) (i : Int) : seqD n ds (A ++ q :: C) i = seqD n ds (A ++ p :: C) i := by
  rw [seqD_app, seqD_app]
  cases seqD n ds A i with
  | none => rfl
  | some x =>
    obtain ⟨o, r⟩ := x
    simp only
    split
    · rfl
    · rw [seqD, seqD, e _ _ fun a ha => ok a (List.mem_of_mem_drop ha)]
theorem Good.grpI {n : Nat} {w : String} {ts : List TL.D} (h : Good (n + 1) (.tup [.str w, .tup ts])) : (w = "all" ∨ w = "any" ∨ w = "then") ∧ ts ≠ [] ∧ ts.length ≤ 1000 ∧ (w = "then" → 2 ≤ ts.length) ∧ ∀ t ∈ ts, Good n t := by
  rcases h with ⟨a, k, _, _, e⟩ | ⟨w', ts', a, b, b2, c, d, e⟩ | ⟨a, t, b, c, e⟩ | ⟨k, t, b, c, e⟩
  · simp at e
  · simp at e
    obtain ⟨rfl, rfl⟩ := e
    exact ⟨a, b, b2, c, d⟩
  · simp at e
  · simp at e
theorem Good.woI {n : Nat} {b : Str} {t : TL.D} (h : Good (n + 1) (.tup [.str "without", .str b, t])) : nmOk b ∧ Good n t := by
  rcases h with ⟨a, k, _, _, e⟩ | ⟨w', ts', a, b, b2, c, d, e⟩ | ⟨a, t, b, c, e⟩ | ⟨k, t, b, c, e⟩
  · simp at e
  · simp at e
  · simp at e
    obtain ⟨rfl, rfl⟩ := e
    exact ⟨b, c⟩
  · simp at e
theorem Good.wiI {n : Nat} {k : Int} {t : TL.D} (h : Good (n + 1) (.tup [.str "within", .int k, t])) : 1 ≤ k ∧ Good n t := by
  rcases h with ⟨a, k, _, _, e⟩ | ⟨w', ts', a, b, b2, c, d, e⟩ | ⟨a, t, b, c, e⟩ | ⟨k, t, b, c, e⟩
  · simp at e
  · simp at e
  · simp at e
  · simp at e
    obtain ⟨rfl, rfl⟩ := e
    exact ⟨b, c⟩
theorem woD_same (os : List Int) (x : Option (TL.D × Int)) : woD os (woD os x) = woD os x := by
  cases os with
  | nil => cases x <;> rfl
  | cons a p => cases x with
    | none => simp [woD]
    | some x =>
      obtain ⟨o, r⟩ := x
      simp only [woD]
      by_cases h1 : a ≤ r <;> simp [h1, woD]
theorem wiD_min2 {i j len : Int} (x : Option (TL.D × Int)) : wiD (min i j) len x = wiD i len (wiD j len x) := by
  cases x with
  | none =>
    simp only [wiD]
    by_cases h1 : j ≤ len
    · simp only [h1, if_true]
      by_cases h2 : j ≤ i
      · rw [if_pos h2, show min i j = j from by omega, if_pos h1]
      · rw [if_neg h2, if_pos (by omega), if_pos (by omega), show min i j = i from by omega]
    · simp only [h1, if_false]
      by_cases h3 : i ≤ len
      · rw [if_pos h3, show min i j = i from by omega, if_pos h3]
      · rw [if_neg h3, if_neg (by omega)]
  | some x =>
    obtain ⟨o, p⟩ := x
    simp only [wiD]
    by_cases h1 : p ≤ j
    · simp only [h1, if_true]
      by_cases h2 : p ≤ i
      · rw [if_pos h2, if_pos (by omega)]
      · rw [if_neg h2, if_neg (by omega), show min i j = i from by omega]
    · simp only [h1, if_false]
      rw [if_neg (by omega)]
      by_cases h2 : j ≤ len
      · simp only [h2, if_true]
        by_cases h3 : j ≤ i
        · rw [if_pos h3, show min i j = j from by omega, if_pos h2]
        · rw [if_neg h3, show min i j = i from by omega]
      · simp only [h2, if_false]
        by_cases h4 : i ≤ len
        · rw [if_pos h4, show min i j = i from by omega, if_pos h4]
        · rw [if_neg h4, if_neg (by omega)]

end TP

namespace TP
open TL
open PySem (Str PyData)
open L2 (atI)
theorem len_sz {n : Nat} {w : Str} {ts : List TL.D} (h : ∀ t ∈ ts, Tk n t) (hs : szD (n + 1) (.tup [.str w, .tup ts]) ≤ 1000) : ts.length ≤ 1000 := by
  rw [szD_grp] at hs
  have := szD_len h
  omega
theorem Stp.ev {t u : TL.D} (s : Stp t u) : ∀ {n : Nat}, Good n t → szD n t ≤ 1000 → Good n u ∧ Ev n t u := by
  induction s with
  | one w x hw =>
    intro n g hs
    cases n with
    | zero => exact g.elim
    | succ n =>
      obtain ⟨_, h0, hl, h2, hg⟩ := g.grpI
      have gx := hg x (List.mem_singleton.mpr rfl)
      have wt : w ≠ "then" := by rintro rfl; have := h2 rfl; simp at this
      have hw' : w = "all" ∨ w = "any" := by rcases hw with h | h | h; exact .inl h; exact .inr h; exact (wt h).elim
      refine ⟨gx.succ, fun as i ok => ?_⟩
      rw [decI_grp hw' ok h0 hl hg]
      simp only [List.map_cons, List.map_nil]
      rw [grpD_one w (fun q hq => by
        obtain ⟨o, p⟩ := q
        exact (decI_bd ok gx.succ hq).2.2)]
  | spl w A us C hw =>
    intro n g hs
    cases n with
    | zero => exact g.elim
    | succ n =>
      have sp : Stp (.tup [.str w, .tup (A ++ .tup [.str w, .tup us] :: C)]) (.tup [.str w, .tup (A ++ us ++ C)]) := .spl w A us C hw
      have tk := sp.tk g.tk
      have sz := sp.sz g.tk
      obtain ⟨_, h0, hl, h2, hg⟩ := g.grpI
      have gi := hg (.tup [.str w, .tup us]) (by simp)
      have lu := len_sz (w := (w : Str)) (tk.grpI).2.2 (by omega)
      cases n with
      | zero => exact gi.elim
      | succ m =>
        obtain ⟨_, u0, ul, u2, ug⟩ := gi.grpI
        have G' : ∀ t ∈ A ++ us ++ C, Good (m + 1) t := fun t ht => by
          rcases List.mem_append.mp ht with ht | ht
          · rcases List.mem_append.mp ht with ht | ht
            · exact hg t (List.mem_append_left _ ht)
            · exact (ug t ht).succ
          · exact hg t (List.mem_append_right _ (List.mem_cons_of_mem _ ht))
        have n0 : A ++ us ++ C ≠ [] := by simp [u0]
        have g2 : Good (m + 1 + 1) (.tup [.str w, .tup (A ++ us ++ C)]) := .inr (.inl ⟨w, _, hw, n0, lu, fun e => by have := u2 e; simp; omega, G', rfl⟩)
        refine ⟨g2, ?_⟩
        by_cases ht : w = "then"
        · subst ht
          refine ev_then (h2 rfl) (by have := u2 rfl; simp; omega) hl lu hg G' fun ds ok => ?_
          rw [List.append_assoc, seqD_app, seqD_app A]
          cases hA : seqD (m + 1 + 1) ds A 0 with
          | none => rfl
          | some x =>
            obtain ⟨o, p⟩ := x
            simp only
            split
            · rfl
            · rw [seqD_app, seqD]
              have pn := seqD_nn ok A 0 p o (by decide) (fun s hs => (hg s (List.mem_append_left _ hs)).succ) hA
              obtain ⟨j, rfl⟩ : ∃ j : Nat, p = j := ⟨p.toNat, by omega⟩
              rw [Int.toNat_natCast, decI_succ (fun a ha => ok a (List.mem_of_mem_drop ha)) gi, dec_then (u2 rfl) ul ug ok j]
              have sc : ∀ (us : List TL.D) (i : Int), (∀ t ∈ us, Good m t) → seqD (m + 1 + 1) ds us i = seqD (m + 1) ds us i := by
                intro us
                induction us with
                | nil => intro i _; rfl
                | cons t r ih =>
                  intro i hr
                  rw [seqD, seqD, decI_succ (fun a ha => ok a (List.mem_of_mem_drop ha)) (hr t (List.mem_cons_self ..)).succ]
                  cases decI (m + 1) t (ds.drop i.toNat) i with
                  | none => rfl
                  | some q =>
                    obtain ⟨o, p⟩ := q
                    simp only
                    rw [ih p fun s hs => hr s (List.mem_cons_of_mem _ hs)]
              rw [sc us _ ug]
              try (cases seqD (m + 1) ds us j <;> rfl)
        · have hw' : w = "all" ∨ w = "any" := by rcases hw with h | h | h; exact .inl h; exact .inr h; exact (ht h).elim
          refine ev_grp hw' h0 n0 hl lu hg G' fun v ok => ?_
          have ie := grp_en (n := m) hw' ok u0 ul ug
          have io := grp_ot (n := m) hw' ok u0 ul ug
          constructor
          · constructor
            · rintro ⟨t, ht, hd⟩
              rcases List.mem_append.mp ht with ht | ht
              · exact ⟨t, List.mem_append_left _ (List.mem_append_left _ ht), hd⟩
              · rcases List.mem_cons.mp ht with rfl | ht
                · obtain ⟨x, hx, hd⟩ := ie.mp hd
                  exact ⟨x, List.mem_append_left _ (List.mem_append_right _ hx), (dc_succ (enW_g w) ok (ug x hx)).mpr hd⟩
                · exact ⟨t, List.mem_append_right _ ht, hd⟩
            · rintro ⟨t, ht, hd⟩
              rcases List.mem_append.mp ht with ht | ht
              · rcases List.mem_append.mp ht with ht | ht
                · exact ⟨t, List.mem_append_left _ ht, hd⟩
                · exact ⟨_, List.mem_append_right _ (List.mem_cons_self ..), ie.mpr ⟨t, ht, (dc_succ (enW_g w) ok (ug t ht)).mp hd⟩⟩
              · exact ⟨t, List.mem_append_right _ (List.mem_cons_of_mem _ ht), hd⟩
          · constructor
            · intro h t ht
              rcases List.mem_append.mp ht with ht | ht
              · rcases List.mem_append.mp ht with ht | ht
                · exact h t (List.mem_append_left _ ht)
                · exact (dc_succ (otW_g w) ok (ug t ht)).mpr (io.mp (h _ (List.mem_append_right _ (List.mem_cons_self ..))) t ht)
              · exact h t (List.mem_append_right _ (List.mem_cons_of_mem _ ht))
            · intro h t ht
              rcases List.mem_append.mp ht with ht | ht
              · exact h t (List.mem_append_left _ (List.mem_append_left _ ht))
              · rcases List.mem_cons.mp ht with rfl | ht
                · exact io.mpr fun x hx => (dc_succ (otW_g w) ok (ug x hx)).mp (h x (List.mem_append_left _ (List.mem_append_right _ hx)))
                · exact h t (List.mem_append_right _ ht)
  | dup w p A C hw hp =>
    intro n g hs
    cases n with
    | zero => exact g.elim
    | succ n =>
      obtain ⟨hw3, h0, hl, h2, hg⟩ := g.grpI
      have n0 : A ++ C ≠ [] := by
        intro e
        rw [(List.append_eq_nil_iff.mp e).1] at hp
        cases hp
      have G' : ∀ t ∈ A ++ C, Good n t := fun t ht => by
        rcases List.mem_append.mp ht with ht | ht
        · exact hg t (List.mem_append_left _ ht)
        · exact hg t (List.mem_append_right _ (List.mem_cons_of_mem _ ht))
      have lu : (A ++ C).length ≤ 1000 := by simp at hl ⊢; omega
      have wt : w ≠ "then" := by rcases hw with rfl | rfl <;> decide
      refine ⟨.inr (.inl ⟨w, _, hw3, n0, lu, fun e => (wt e).elim, G', rfl⟩), ev_grp hw h0 n0 hl lu hg G' fun v ok => ⟨⟨?_, ?_⟩, ?_, ?_⟩⟩
      · rintro ⟨t, ht, hd⟩
        rcases List.mem_append.mp ht with ht | ht
        · exact ⟨t, List.mem_append_left _ ht, hd⟩
        · rcases List.mem_cons.mp ht with rfl | ht
          · exact ⟨t, List.mem_append_left _ hp, hd⟩
          · exact ⟨t, List.mem_append_right _ ht, hd⟩
      · rintro ⟨t, ht, hd⟩
        rcases List.mem_append.mp ht with ht | ht
        · exact ⟨t, List.mem_append_left _ ht, hd⟩
        · exact ⟨t, List.mem_append_right _ (List.mem_cons_of_mem _ ht), hd⟩
      · intro h t ht
        rcases List.mem_append.mp ht with ht | ht
        · exact h t (List.mem_append_left _ ht)
        · exact h t (List.mem_append_right _ (List.mem_cons_of_mem _ ht))
      · intro h t ht
        rcases List.mem_append.mp ht with ht | ht
        · exact h t (List.mem_append_left _ ht)
        · rcases List.mem_cons.mp ht with rfl | ht
          · exact h t (List.mem_append_left _ hp)
          · exact h t (List.mem_append_right _ ht)
  | inn w p q A C hw s ih =>
    intro n g hs
    cases n with
    | zero => exact g.elim
    | succ n =>
      obtain ⟨_, h0, hl, h2, hg⟩ := g.grpI
      have gp := hg p (by simp)
      have sp : szD n p ≤ 1000 := by
        rw [szD_grp] at hs
        simp at hs
        omega
      obtain ⟨gq, ev⟩ := ih gp sp
      have G' : ∀ t ∈ A ++ q :: C, Good n t := fun t ht => by
        rcases List.mem_append.mp ht with ht | ht
        · exact hg t (List.mem_append_left _ ht)
        · rcases List.mem_cons.mp ht with rfl | ht
          · exact gq
          · exact hg t (List.mem_append_right _ (List.mem_cons_of_mem _ ht))
      have lu : (A ++ q :: C).length ≤ 1000 := by simp at hl ⊢; omega
      refine ⟨.inr (.inl ⟨w, _, hw, by simp, lu, fun e => by have := h2 e; simp at this ⊢; omega, G', rfl⟩), ?_⟩
      by_cases ht : w = "then"
      · subst ht
        exact ev_then (h2 rfl) (by have := h2 rfl; simp at this ⊢; omega) hl lu hg G' fun ds ok => seqD_congr ok (ev.succ gp gq) A C 0
      · have hw' : w = "all" ∨ w = "any" := by rcases hw with h | h | h; exact .inl h; exact .inr h; exact (ht h).elim
        refine ev_grp hw' h0 (by simp) hl lu hg G' fun v ok => ?_
        have e1 := ev.dc gp gq (enW_g w) ok
        have e2 := ev.dc gp gq (otW_g w) ok
        simp only [List.mem_append, List.mem_cons]
        constructor
        · constructor
          · rintro ⟨t, ht | rfl | ht, hd⟩
            · exact ⟨t, .inl ht, hd⟩
            · exact ⟨q, .inr (.inl rfl), e1.mp hd⟩
            · exact ⟨t, .inr (.inr ht), hd⟩
          · rintro ⟨t, ht | rfl | ht, hd⟩
            · exact ⟨t, .inl ht, hd⟩
            · exact ⟨p, .inr (.inl rfl), e1.mpr hd⟩
            · exact ⟨t, .inr (.inr ht), hd⟩
        · constructor
          · rintro h t (ht | rfl | ht)
            · exact h t (.inl ht)
            · exact e2.mp (h p (.inr (.inl rfl)))
            · exact h t (.inr (.inr ht))
          · rintro h t (ht | rfl | ht)
            · exact h t (.inl ht)
            · exact e2.mpr (h q (.inr (.inl rfl)))
            · exact h t (.inr (.inr ht))
  | wow b v =>
    intro n g hs
    cases n with
    | zero => exact g.elim
    | succ n =>
      obtain ⟨hb, gi⟩ := g.woI
      cases n with
      | zero => exact gi.elim
      | succ m =>
        obtain ⟨_, gv⟩ := gi.woI
        refine ⟨gi.succ, fun as i ok => ?_⟩
        rw [decI_wo (n := m + 1) ok gi, decI_succ ok gi, decI_wo ok gv, woD_same]
  | wiw k j v =>
    intro n g hs
    cases n with
    | zero => exact g.elim
    | succ n =>
      obtain ⟨hk, gi⟩ := g.wiI
      cases n with
      | zero => exact gi.elim
      | succ m =>
        obtain ⟨hj, gv⟩ := gi.wiI
        have gu : Good (m + 1) (.tup [.str "within", .int (min k j), v]) := .inr (.inr (.inr ⟨min k j, v, by omega, gv, rfl⟩))
        refine ⟨gu.succ, fun as i ok => ?_⟩
        rw [decI_wi (n := m + 1) hk ok gi, decI_succ ok gi, decI_succ ok gu, decI_wi hj ok gv, decI_wi (by omega) ok gv, ← wiD_min2]
        congr 1
        omega
  | woi b t u s ih =>
    intro n g hs
    cases n with
    | zero => exact g.elim
    | succ n =>
      obtain ⟨hb, gi⟩ := g.woI
      rw [szD_wo gi.tk] at hs
      obtain ⟨gu, ev⟩ := ih gi (by omega)
      refine ⟨.inr (.inr (.inl ⟨b, u, hb, gu, rfl⟩)), fun as i ok => ?_⟩
      rw [decI_wo ok gi, decI_wo ok gu, decI_succ ok gi, decI_succ ok gu, ev as i ok]
  | wii k t u s ih =>
    intro n g hs
    cases n with
    | zero => exact g.elim
    | succ n =>
      obtain ⟨hk, gi⟩ := g.wiI
      rw [szD_wi] at hs
      obtain ⟨gu, ev⟩ := ih gi (by omega)
      refine ⟨.inr (.inr (.inr ⟨k, u, hk, gu, rfl⟩)), fun as i ok => ?_⟩
      rw [decI_wi hk ok gi, decI_wi hk ok gu, decI_succ ok gi, decI_succ ok gu, ev as i ok]
/-- step by step -/
inductive Sts : TL.D → TL.D → Prop
  | refl (t : TL.D) : Sts t t
  | step {t u v : TL.D} : Stp t u → Sts u v → Sts t v
theorem Sts.trans {t u v : TL.D} (a : Sts t u) (b : Sts u v) : Sts t v := by
  induction a with
  | refl => exact b
  | step s _ ih => exact .step s (ih b)
theorem Sts.inn {w : String} {p q : TL.D} (A C : List TL.D) (hw : w = "all" ∨ w = "any" ∨ w = "then") (h : Sts p q) : Sts (.tup [.str w, .tup (A ++ p :: C)]) (.tup [.str w, .tup (A ++ q :: C)]) := by
  induction h with
  | refl => exact .refl _
  | step s _ ih => exact .step (.inn w _ _ A C hw s) ih
theorem Sts.woi {b : Str} {p q : TL.D} (h : Sts p q) : Sts (.tup [.str "without", .str b, p]) (.tup [.str "without", .str b, q]) := by
  induction h with
  | refl => exact .refl _
  | step s _ ih => exact .step (.woi b _ _ s) ih
theorem Sts.wii {k : Int} {p q : TL.D} (h : Sts p q) : Sts (.tup [.str "within", .int k, p]) (.tup [.str "within", .int k, q]) := by
  induction h with
  | refl => exact .refl _
  | step s _ ih => exact .step (.wii k _ _ s) ih
theorem Sts.ev {t u : TL.D} (s : Sts t u) {n : Nat} (g : Good n t) (hs : szD n t ≤ 1000) : Good n u ∧ Ev n t u ∧ szD n u ≤ szD n t := by
  induction s with
  | refl => exact ⟨g, fun _ _ _ => rfl, Nat.le_refl _⟩
  | step s _ ih =>
    obtain ⟨g1, e1⟩ := s.ev g hs
    have z := s.sz g.tk
    obtain ⟨g2, e2, z2⟩ := ih g1 (by omega)
    exact ⟨g2, fun as i ok => by rw [e2 as i ok, e1 as i ok], by omega⟩
theorem sts_parts {w : String} (hw : w = "all" ∨ w = "any" ∨ w = "then") {f : TL.D → TL.D} : ∀ (ts A : List TL.D), (∀ t ∈ ts, Sts t (f t)) → Sts (.tup [.str w, .tup (A ++ ts)]) (.tup [.str w, .tup (A ++ ts.map f)])
  | [], A, _ => by simpa using Sts.refl _
  | t :: r, A, h => by
    have a := Sts.inn (w := w) A r hw (h t (List.mem_cons_self ..))
    have b := sts_parts hw r (A ++ [f t]) fun s hs => h s (List.mem_cons_of_mem _ hs)
    simp only [List.append_assoc, List.singleton_append] at b
    exact a.trans b
theorem sts_flat {w : String} (hw : w = "all" ∨ w = "any" ∨ w = "then") : ∀ (ps A : List TL.D), Sts (.tup [.str w, .tup (A ++ ps)]) (.tup [.str w, .tup (A ++ flatD w ps)])
  | [], A => .refl _
  | p :: r, A => by
    rw [flatD_cons]
    have b := sts_flat hw r (A ++ flat1 w p)
    simp only [List.append_assoc] at b
    refine Sts.trans ?_ b
    unfold flat1
    split
    · next w' qs =>
      split
      · next e =>
        subst e
        have s := Stp.spl w A qs r hw
        rw [List.append_assoc] at s
        exact .step s (.refl _)
      · exact .refl _
    · exact .refl _
theorem sts_ded {n : Nat} {w : String} (hw : w = "all" ∨ w = "any") : ∀ (ps acc : List TL.D), (∀ a ∈ acc, Tk n a) → (∀ p ∈ ps, Tk n p) → Sts (.tup [.str w, .tup (acc ++ ps)]) (.tup [.str w, .tup (dedGo acc ps)])
  | [], acc, _, _ => by rw [List.append_nil]; exact .refl _
  | p :: r, acc, ha, hp => by
    have hp0 := hp p (List.mem_cons_self ..)
    have hp' : ∀ q ∈ r, Tk n q := fun q hq => hp q (List.mem_cons_of_mem _ hq)
    unfold dedGo
    split
    · next h => exact .step (.dup w p acc r hw ((isIn_mem ha hp0).mp h)) (sts_ded hw r acc ha hp')
    · have b := sts_ded hw r (acc ++ [p]) (fun a h => by
        rcases List.mem_append.mp h with h | h
        · exact ha a h
        · rw [List.mem_singleton.mp h]; exact hp0) hp'
      rw [List.append_assoc, List.singleton_append] at b
      exact b
theorem onc_sts : ∀ {n : Nat} {t : TL.D}, Tk n t → Sts t (onc n t)
  | 0, _, h => h.elim
  | n + 1, t, h => by
    rcases h with ⟨a, k, ha, rfl⟩ | ⟨w, ts, hw, h0, hg, rfl⟩ | ⟨b, t, hb, hg, rfl⟩ | ⟨k, t, hg, rfl⟩
    · simp only [onc]
      exact .refl _
    · have a := sts_parts hw (f := onc n) ts [] fun t ht => onc_sts (hg t ht)
      have b := sts_flat hw (ts.map (onc n)) []
      simp only [List.nil_append] at a b
      have c : Sts (.tup [.str w, .tup (flatD w (ts.map (onc n)))]) (.tup [.str w, .tup (un w (flatD w (ts.map (onc n))))]) := by
        unfold un
        split
        · exact .refl _
        · next hn =>
          have hw' : w = "all" ∨ w = "any" := by rcases hw with h | h | h; exact .inl h; exact .inr h; exact (hn (by rw [h])).elim
          have nf : ∀ p ∈ ts.map (onc n), Nf n p := fun p hp => by
            obtain ⟨t, ht, rfl⟩ := List.mem_map.mp hp
            exact onc_nf (hg t ht)
          have := sts_ded (n := n) hw' (flatD w (ts.map (onc n))) [] (fun _ h => nomatch h) fun p hp => (flatD_mem nf hp).1.tk
          rw [List.nil_append] at this
          exact this
      have d : Sts (.tup [.str w, .tup (un w (flatD w (ts.map (onc n))))]) (grp w (un w (flatD w (ts.map (onc n))))) := by
        match un w (flatD w (ts.map (onc n))) with
        | [] => exact .refl _
        | [x] => exact .step (.one w x hw) (.refl _)
        | _ :: _ :: _ => exact .refl _
      simp only [onc]
      exact a.trans (b.trans (c.trans d))
    · have a := (onc_sts hg).woi (b := b)
      refine a.trans ?_
      obtain ⟨ds, rfl⟩ := hg.isT
      simp only [onc]
      split
      · next w' b' u e =>
        split
        · next q =>
          obtain ⟨rfl, rfl⟩ := q
          rw [e]
          exact .step (.wow _ _) (.refl _)
        · rw [e]; exact .refl _
      · exact .refl _
    · have a := (onc_sts hg).wii (k := k)
      refine a.trans ?_
      simp only [onc]
      split
      · next w' j u e =>
        split
        · next q =>
          subst q
          rw [e]
          exact .step (.wiw _ _ _) (.refl _)
        · rw [e]; exact .refl _
      · exact .refl _
/-- short is decided alike -/
theorem onc_ev {n : Nat} {t : TL.D} (g : Good n t) (hs : szD n t ≤ 1000) : Good n (onc n t) ∧ Ev n t (onc n t) ∧ szD n (onc n t) ≤ szD n t := (onc_sts g.tk).ev g hs

end TP

namespace TP
open TL
open PySem (Str PyData)
open L2 (atI)
theorem onc_mono {n : Nat} {d : TL.D} (h : Tk n d) : ∀ k : Nat, onc (n + k) d = onc n d
  | 0 => rfl
  | k + 1 => by
    rw [← Nat.add_assoc, onc_succ (h.mono (by omega)), onc_mono h k]
theorem onc7 {n : Nat} {d : TL.D} (h : Tk n d) (hn : n ≤ 7) : onc 7 d = onc n d := by
  have := onc_mono h (7 - n)
  rw [show n + (7 - n) = 7 from by omega] at this
  exact this
theorem ded_len : ∀ (ps acc : List TL.D), (dedGo acc ps).length ≤ acc.length + ps.length
  | [], acc => by simp [dedGo]
  | p :: r, acc => by
    unfold dedGo
    split
    · have := ded_len r acc
      simp
      omega
    · have := ded_len r (acc ++ [p])
      simp at this ⊢
      omega
theorem onc_do1 {t : TL.D} (d : Dr 2 1 t) : onc 1 t = t ∧ ∀ w : String, (w = "all" ∨ w = "any" ∨ w = "then") → flat1 w t = [t] := by
  rcases d with ⟨a, k', ha, hk, hkm, rfl⟩ | ⟨w, ts, hw', h1, hl, h2, hg, rfl⟩ | ⟨a, t, ha, hg, rfl⟩ | ⟨k', t, hk, hk9, hg, rfl⟩
  · exact ⟨by simp [onc], fun w hw => by simp [flat1]⟩
  · match ts, h1 with
    | t :: r, _ => exact (hg t (List.mem_cons_self ..)).elim
  · exact hg.elim
  · exact hg.elim
theorem onc_dr2 {t : TL.D} (d : Dr 2 2 t) : Dr 2 2 (onc 2 t) := by
  have d0 := d
  rcases d with ⟨a, k', ha, hk, hkm, rfl⟩ | ⟨w, ts, hw, h1, hl, h2, hg, rfl⟩ | ⟨a, t, ha, hg, rfl⟩ | ⟨k', t, hk, hk9, hg, rfl⟩
  · simpa [onc] using d0
  · have e : ts.map (onc 1) = ts := by
      have : ts.map (onc 1) = ts.map id := List.map_congr_left fun t ht => (onc_do1 (hg t ht)).1
      rw [this, List.map_id]
    have f : flatD w ts = ts := flatD_id fun t ht => (onc_do1 (hg t ht)).2 w hw
    have h0 : ts ≠ [] := by rintro rfl; simp at h1
    have tk : ∀ t ∈ ts, Tk 1 t := fun t ht => (hg t ht).good.tk
    simp only [onc, e, f]
    have l : (un w ts).length ≤ 3 := by
      unfold un
      split
      · exact hl
      · have := ded_len ts []
        simp at this
        omega
    exact grp_dr hw (un_ne tk h0) l fun x hx => hg x (un_mem hx)
  · obtain ⟨o1, _⟩ := onc_do1 hg
    rcases hg with ⟨b, k, hb, hk, hkm, rfl⟩ | ⟨w, ts, hw', h1, hl, h2, hg, rfl⟩ | ⟨_, _, _, hg, _⟩ | ⟨_, _, _, _, hg, _⟩
    · simp only [onc]
      simp
      exact d0
    · match ts, h1 with
      | t :: r, _ => exact (hg t (List.mem_cons_self ..)).elim
    · exact hg.elim
    · exact hg.elim
  · rcases hg with ⟨b, k, hb, hk, hkm, rfl⟩ | ⟨w, ts, hw', h1, hl, h2, hg, rfl⟩ | ⟨_, _, _, hg, _⟩ | ⟨_, _, _, _, hg, _⟩
    · simp only [onc]
      exact d0
    · match ts, h1 with
      | t :: r, _ => exact (hg t (List.mem_cons_self ..)).elim
    · exact hg.elim
    · exact hg.elim
/-- a task as this law makes it, its short one -/
structure Pt (u f : TL.D) : Prop where
  du : Dr 2 4 u
  df : Dr 2 3 f
  fu : (sts 4 u).length ≤ 760
  ff : (sts 3 f).length ≤ 234
  eq : onc 7 u = f
theorem Pt.of2 {t : TL.D} (d : Dr 2 2 t) : Pt t (onc 2 t) := by
  refine ⟨d.mono (by decide), (onc_dr2 d).succ, ?_, ?_, onc7 d.good.tk (by decide)⟩
  · rw [sts_succ d.succ.good, sts_succ d.good]
    exact Nat.le_trans (sts_len2 d) (by decide)
  · rw [sts_succ (onc_dr2 d).good]
    exact Nat.le_trans (sts_len2 (onc_dr2 d)) (by decide)
theorem Pt.via {t u : TL.D} (d : Dr 2 2 t) (du : Dr 2 4 u) (fu : (sts 4 u).length ≤ 760) (s : Sts u t) : Pt u (onc 2 t) := by
  have p := Pt.of2 d
  refine ⟨du, p.df, fu, p.ff, ?_⟩
  rw [← p.eq]
  have : ∀ {u t : TL.D}, Sts u t → Tk 7 u → onc 7 u = onc 7 t := by
    intro u t s
    induction s with
    | refl => intro _; rfl
    | step s _ ih => intro k; rw [← s.onc k, ih (s.tk k)]
  exact this s (du.good.tk.mono (by decide))
theorem grp_sts2 {w : String} {a b : TL.D} (hw : w = "all" ∨ w = "any") (n : Nat) {A B : Nat} (ha : (sts n a).length ≤ A) (hb : (sts n b).length ≤ B) : (sts (n + 1) (.tup [.str w, .tup [a, b]])).length ≤ (A + 1) * (B + 1) := by
  unfold sts
  rw [List.length_append]
  have e0 : (if [a, b].length = 1 then [TL.D.tup [.str w, .tup [a, b]]] else []).length = 0 := rfl
  have wt : ¬ (w : Str) = "then" := by rcases hw with rfl | rfl <;> simp
  rw [e0, Nat.zero_add, if_neg wt, List.length_map]
  refine Nat.le_trans (List.length_filter_le _ _) ?_
  rw [chs_cons_len, chs_cons_len]
  have e1 : (chs (sts n) []).length = 1 := rfl
  rw [e1, Nat.mul_one]
  have a1 : ((sts n a).length + 1) * ((sts n b).length + 1) ≤ (A + 1) * (B + 1) := Nat.mul_le_mul (by omega) (by omega)
  have e2 : ((sts n a).length + 1) * ((sts n b).length + 1) = 1 + (sts n b).length + (sts n a).length * (1 + (sts n b).length) := by
    rw [Nat.add_mul, Nat.one_mul, Nat.add_comm (sts n b).length 1]
    omega
  omega
theorem pt_all {t : TL.D} (d : Dr 2 2 t) : ∃ f, Pt (.tup [.str "all", .tup [t, t]]) f := by
  have d3 : Dr 2 3 (.tup [.str "all", .tup [t, t]]) := two_dr' (.inl rfl) d d
  refine ⟨_, .via d d3.succ ?_ (.step (.dup "all" t [t] [] (.inl rfl) (by simp)) (.step (.one "all" t (.inl rfl)) (.refl _)))⟩
  rw [sts_succ d3.good]
  exact Nat.le_trans (grp_sts2 (.inl rfl) 2 (sts_len2 d) (sts_len2 d)) (by decide)
theorem pt_any {t : TL.D} (d : Dr 2 2 t) : ∃ f, Pt (.tup [.str "any", .tup [.tup [.str "any", .tup [t]], t]]) f := by
  have da : Dr 2 3 (.tup [.str "any", .tup [t]]) := .inr (.inl ⟨"any", [t], .inr (.inl rfl), by simp, by simp, (fun h => absurd h (by decide)), (fun s hs => by rw [List.mem_singleton.mp hs]; exact d), rfl⟩)
  have d4 : Dr 2 4 (.tup [.str "any", .tup [.tup [.str "any", .tup [t]], t]]) := two_dr' (.inr (.inl rfl)) da d.succ
  refine ⟨_, .via d d4 ?_ (.step (.inn "any" _ t [] [t] (.inr (.inl rfl)) (.one "any" t (.inr (.inl rfl)))) (.step (.dup "any" t [t] [] (.inr rfl) (by simp)) (.step (.one "any" t (.inr (.inl rfl))) (.refl _))))⟩
  have l2 := sts_len2 d
  have l1 : (sts 3 (.tup [.str "any", .tup [t]])).length ≤ 27 := by
    unfold sts
    have wt : ¬ (Str.ofString "any") = "then" := by simp
    rw [if_neg wt, List.length_append, List.length_map]
    have a : (chs (sts 2) [t]).length = 1 + (sts 2 t).length := by
      rw [chs_cons_len]
      simp [chs]
    have b : ((chs (sts 2) [t]).filter fun c => !c.isEmpty).length < (chs (sts 2) [t]).length := List.length_filter_lt_length_iff_exists.mpr ⟨[], chs_nil _ _, by simp⟩
    simp only [List.length_singleton, if_true]
    omega
  have l3 : (sts 3 t).length ≤ 26 := by rw [sts_succ d.good]; exact l2
  exact Nat.le_trans (grp_sts2 (.inr rfl) 3 l1 l3) (by decide)
theorem wi_len {n L : Nat} {k : Int} {t : TL.D} (g : Good n t) (hk : k ≤ 9) (h : (sts n t).length ≤ L) : (sts (n + 1) (.tup [.str "within", .int k, t])).length ≤ 9 * L := by
  obtain ⟨ds, rfl⟩ := g.isT
  unfold sts
  have z := flatm_len (g := fun (e : Nat) => (sts n (.tup ds)).map fun s => TL.D.tup [.str "within", .int ((e : Int) + 1), s]) (L := L) (fun i => by simpa using h) k.toNat
  have : k.toNat * L ≤ 9 * L := Nat.mul_le_mul_right _ (by omega)
  exact Nat.le_trans z this
theorem wo_len {n : Nat} {b : Str} {t : TL.D} (g : Good n t) : (sts (n + 1) (.tup [.str "without", .str b, t])).length = (sts n t).length := by
  obtain ⟨ds, rfl⟩ := g.isT
  simp only [sts, List.length_map]
theorem pt_within {t : TL.D} {k : Int} (hk : 1 ≤ k) (h9 : k ≤ 9) (d : Dr 2 2 t) : ∃ f, Pt (.tup [.str "within", .int k, t]) f := by
  have d3 : Dr 2 3 (.tup [.str "within", .int k, t]) := wi_dr hk h9 d
  have df := onc_dr2 d
  refine ⟨onc 3 (.tup [.str "within", .int k, t]), d3.succ, ?_, ?_, ?_, onc7 d3.good.tk (by decide)⟩
  · rcases df with ⟨a, k', ha, hk', hkm, e⟩ | ⟨w, ts, hw, h1, hl, h2, hg, e⟩ | ⟨a, s, ha, hg, e⟩ | ⟨j, s, hj, hj9, hg, e⟩
    · simp only [onc, e]
      exact wi_dr hk h9 (.inl ⟨a, k', ha, hk', hkm, rfl⟩)
    · simp only [onc, e]
      exact wi_dr hk h9 (.inr (.inl ⟨w, ts, hw, h1, hl, h2, hg, rfl⟩))
    · simp only [onc, e]
      exact wi_dr hk h9 (.inr (.inr (.inl ⟨a, s, ha, hg, rfl⟩)))
    · simp only [onc, e, if_true]
      exact (wi_dr (by omega) (by omega) hg).succ
  · rw [sts_succ d3.good]
    exact Nat.le_trans (wi_len d.good h9 (sts_len2 d)) (by decide)
  · have l := sts_len2 df
    rcases df with ⟨a, k', ha, hk', hkm, e⟩ | ⟨w, ts, hw, h1, hl, h2, hg, e⟩ | ⟨a, s, ha, hg, e⟩ | ⟨j, s, hj, hj9, hg, e⟩
    · rw [e] at l
      simp only [onc, e]
      exact wi_len (onc_dr2 d |> fun h => by rw [e] at h; exact h.good) h9 l
    · rw [e] at l
      simp only [onc, e]
      exact wi_len (onc_dr2 d |> fun h => by rw [e] at h; exact h.good) h9 l
    · rw [e] at l
      simp only [onc, e]
      exact wi_len (onc_dr2 d |> fun h => by rw [e] at h; exact h.good) h9 l
    · simp only [onc, e, if_true]
      have dm : Dr 2 2 (.tup [.str "within", .int (min k j), s]) := wi_dr (by omega) (by omega) hg
      rw [sts_succ dm.good]
      exact Nat.le_trans (sts_len2 dm) (by decide)
theorem pt_without {t : TL.D} {b : String} (hb : Nm b) (d : Dr 2 2 t) : ∃ f, Pt (.tup [.str "without", .str b, t]) f := by
  have d3 : Dr 2 3 (.tup [.str "without", .str b, t]) := .inr (.inr (.inl ⟨b, t, hb, d, rfl⟩))
  have df := onc_dr2 d
  have l := sts_len2 df
  have key : ∃ f, onc 3 (.tup [.str "without", .str b, t]) = f ∧ Dr 2 3 f ∧ (sts 3 f).length ≤ 26 := by
    have mk : Dr 2 3 (.tup [.str "without", .str b, onc 2 t]) ∧ (sts 3 (.tup [.str "without", .str b, onc 2 t])).length ≤ 26 := ⟨.inr (.inr (.inl ⟨b, _, hb, df, rfl⟩)), by rw [wo_len df.good]; exact l⟩
    obtain ⟨ds, e0⟩ := d.good.isT
    have eo : onc 3 (.tup [.str "without", .str b, t]) = match onc 2 t with
      | .tup [.str w', .str b', u] => if w' = "without" ∧ b' = b then .tup [.str w', .str b', u] else .tup [.str "without", .str b, .tup [.str w', .str b', u]]
      | u => .tup [.str "without", .str b, u] := by
      subst e0
      simp only [onc]
      try rfl
    refine ⟨_, rfl, ?_⟩
    rw [eo]
    split
    · next w' b' u e =>
      split
      · have h3 := df.succ
        have l3 : (sts 3 (onc 2 t)).length ≤ 26 := by rw [sts_succ df.good]; exact l
        rw [e] at h3 l3
        exact ⟨h3, l3⟩
      · rw [e] at mk
        exact mk
    · exact mk
  obtain ⟨f, e, df3, l3⟩ := key
  refine ⟨f, d3.succ, df3, ?_, Nat.le_trans l3 (by decide), by rw [onc7 d3.good.tk (by decide), e]⟩
  rw [sts_succ d3.good, wo_len d.good]
  exact Nat.le_trans (sts_len2 d) (by decide)

end TP

namespace TP
open TL
open PySem (Str PyData)
open L2 (atI)
theorem flat_go {N n : Nat} (hn : n ≤ 30) {w : String} (hw : w = "all" ∨ w = "any" ∨ w = "then") {st : Sto} {P : TL.D} (body : List S)
    (hb : body = [.ifs (.o2 .eq (.o2 .ix (.var 3) (.con (.int 0))) (.var 0)) [.ext 2 (.o1 .list (.o2 .ix (.var 3) (.con (.int 1))))] [.app 2 (.var 3)]]) :
    ∀ (ps acc : List TL.D) (x : Option TL.D), (∀ p ∈ ps, Tk n p) → acc.length + (flatD w ps).length ≤ 100000 → ∃ y, forE (TL.run Pg N) (.nm 3) body ps [some (.str w), some P, some (.mlst acc), x] st = .nx [some (.str w), some P, some (.mlst (acc ++ flatD w ps)), y] st := by
  intro ps
  induction ps with
  | nil => intro acc x _ _; exact ⟨x, by rw [forE_nil, show flatD (Str.ofString w) [] = [] from rfl, List.append_nil]⟩
  | cons p ps ih =>
    intro acc x hp hl
    have hp0 := hp p (List.mem_cons_self ..)
    have po := hp0.ok.own
    rw [flatD_cons] at hl
    rw [List.length_append] at hl
    obtain ⟨y, hy⟩ := ih (acc ++ flat1 w p) (some p) (fun q hq => hp q (List.mem_cons_of_mem _ hq)) (by rw [List.length_append]; omega)
    refine ⟨y, ?_⟩
    rw [forE_cons (ρ1 := [some (.str w), some P, some (.mlst acc), some p]) (by simp [po]), flatD_cons, ← List.append_assoc, ← hy]
    have step : execs (TL.run Pg N) body [some (.str w), some P, some (.mlst acc), some p] st = .nx [some (.str w), some P, some (.mlst (acc ++ flat1 w p)), some p] st := by
      subst hb
      have sl : (100000 : Nat) < PySem.sizeLine := by decide
      cases n with
      | zero => exact hp0.elim
      | succ n =>
        rcases hp0 with ⟨a, k, b, rfl⟩ | ⟨w', ts, a, b, e, rfl⟩ | ⟨a, t, b, c, rfl⟩ | ⟨k, t, c, rfl⟩
        · have l1 : acc.length < PySem.sizeLine := by simp [flat1] at hl; omega
          rcases hw with rfl | rfl | rfl <;> simp [dEqs, l1, flat1]
        · by_cases e : w' = w
          · subst e
            have l1 : acc.length + ts.length ≤ PySem.sizeLine := by simp [flat1] at hl; omega
            simp [dEqs, l1, flat1]
          · have l1 : acc.length < PySem.sizeLine := by simp [flat1, e] at hl; omega
            simp [dEqs, l1, flat1, e]
        · have l1 : acc.length < PySem.sizeLine := by
            have : flat1 (Str.ofString w) (.tup [.str "without", .str a, t]) = [.tup [.str "without", .str a, t]] := by simp [flat1]
            rw [this] at hl; simp at hl; omega
          rcases hw with rfl | rfl | rfl <;> simp [dEqs, l1, flat1]
        · have l1 : acc.length < PySem.sizeLine := by
            have : flat1 (Str.ofString w) (.tup [.str "within", .int k, t]) = [.tup [.str "within", .int k, t]] := by simp [flat1]
            rw [this] at hl; simp at hl; omega
          rcases hw with rfl | rfl | rfl <;> simp [dEqs, l1, flat1]
    rw [step]
    rfl
theorem w_flat {N n : Nat} (hN : 1 ≤ N) (hn : n ≤ 30) {w : String} (hw : w = "all" ∨ w = "any" ∨ w = "then") {st : Sto} {ps : List TL.D} (hp : ∀ p ∈ ps, Tk n p) (hl : (flatD w ps).length ≤ 100000) : TL.run Pg N 3 [.str w, .lst ps] st = .ok (.lst (flatD w ps)) st := by
  obtain ⟨N, rfl⟩ : ∃ M, N = M + 1 := ⟨N - 1, by omega⟩
  rw [run_c (F := c_flat) rfl rfl]
  obtain ⟨y, hy⟩ := flat_go (N := N) hn hw (st := st) (P := .lst ps) _ rfl ps [] none hp (by simpa using hl)
  simp [c_flat, enter, hy]
theorem unl_go {N n : Nat} (hn : n ≤ 30) {st : Sto} {P : TL.D} (body : List S) (hb : body = [.ifs (.inOwn true (.var 2) 1) [.app 1 (.var 2)] []]) :
    ∀ (ps acc : List TL.D) (x : Option TL.D), (∀ p ∈ ps, Tk n p) → (∀ p ∈ acc, Tk n p) → acc.length + ps.length ≤ 100000 → ∃ y, forE (TL.run Pg N) (.nm 2) body ps [some P, some (.mlst acc), x] st = .nx [some P, some (.mlst (dedGo acc ps)), y] st := by
  intro ps
  induction ps with
  | nil => intro acc x _ _ _; exact ⟨x, rfl⟩
  | cons p ps ih =>
    intro acc x hp ha hl
    have hp0 := hp p (List.mem_cons_self ..)
    have hp' : ∀ q ∈ ps, Tk n q := fun q hq => hp q (List.mem_cons_of_mem _ hq)
    have po := hp0.ok.own
    have sl : (100000 : Nat) < PySem.sizeLine := by decide
    simp only [List.length_cons] at hl
    have l1 : acc.length < PySem.sizeLine := by omega
    have i : inD p (.mlst acc) = some (isInD acc p) := by
      have a := hp0.ok.shp (by omega)
      have b := (okD_lst (ds := acc) fun d hd => (ha d hd).ok).shp (by omega)
      simp [inD, a, b, isInD]
    subst hb
    show ∃ y, _ = Fl.nx [_, some (.mlst (if isInD acc p then dedGo acc ps else dedGo (acc ++ [p]) ps)), y] st
    rw [forE_cons (ρ1 := [some P, some (.mlst acc), some p]) (by simp [po])]
    cases hi : isInD acc p with
    | true =>
      obtain ⟨y, hy⟩ := ih acc (some p) hp' ha (by omega)
      refine ⟨y, ?_⟩
      simp [po, i, hi, hy]
    | false =>
      obtain ⟨y, hy⟩ := ih (acc ++ [p]) (some p) hp' (fun q hq => by
        rcases List.mem_append.mp hq with hq | hq
        · exact ha q hq
        · rw [List.mem_singleton.mp hq]; exact hp0) (by rw [List.length_append, List.length_singleton]; omega)
      refine ⟨y, ?_⟩
      simp [po, i, hi, hy, l1]
theorem w_unlike_ones {N n : Nat} (hN : 1 ≤ N) (hn : n ≤ 30) {st : Sto} {ps : List TL.D} (hp : ∀ p ∈ ps, Tk n p) (hl : ps.length ≤ 100000) : TL.run Pg N 4 [.lst ps] st = .ok (.lst (dedGo [] ps)) st := by
  obtain ⟨N, rfl⟩ : ∃ M, N = M + 1 := ⟨N - 1, by omega⟩
  rw [run_c (F := c_unlike_ones) rfl rfl]
  obtain ⟨y, hy⟩ := unl_go (N := N) hn (st := st) (P := .lst ps) _ rfl ps [] none hp (by simp) (by simpa using hl)
  simp [c_unlike_ones, enter, hy]

end TP

namespace TP
open TL
open PySem (Str PyData)
open L2 (atI)
theorem sum_ded {f : TL.D → Nat} : ∀ (ps acc : List TL.D), ((dedGo acc ps).map f).sum ≤ (acc.map f).sum + (ps.map f).sum
  | [], acc => by simp [dedGo]
  | p :: ps, acc => by
    unfold dedGo
    split
    · have := sum_ded (f := f) ps acc
      simp only [List.map_cons, List.sum_cons]
      omega
    · have := sum_ded (f := f) ps (acc ++ [p])
      simp only [List.map_append, List.map_cons, List.map_nil, List.sum_append, List.sum_cons, List.sum_nil] at this ⊢
      omega
theorem sum_un {f : TL.D → Nat} (w : Str) (ps : List TL.D) : ((un w ps).map f).sum ≤ (ps.map f).sum := by
  unfold un
  split
  · exact Nat.le_refl _
  · have := sum_ded (f := f) ps []
    simpa using this
theorem sum_flat1 {n : Nat} {w : String} {p : TL.D} (h : Nf n p) : ((flat1 w p).map (szD n)).sum ≤ szD n p := by
  cases n with
  | zero => exact h.elim
  | succ n =>
    have key : flat1 (Str.ofString w) p = [p] ∨ ∃ ts, p = .tup [.str w, .tup ts] ∧ flat1 (Str.ofString w) p = ts ∧ ∀ t ∈ ts, Nf n t := by
      rcases h with ⟨a, k, b, rfl⟩ | ⟨w', ts, a, b, c, e, f, rfl⟩ | ⟨a, t, b, c, f, rfl⟩ | ⟨k, t, c, f, rfl⟩
      · exact .inl rfl
      · by_cases hw : w' = w
        · subst hw
          exact .inr ⟨ts, rfl, by simp [flat1], c⟩
        · exact .inl (by simp [flat1, hw])
      · exact .inl (by simp [flat1])
      · exact .inl (by simp [flat1])
    rcases key with e | ⟨ts, rfl, e, c⟩
    · rw [e]; simp
    · have em : ts.map (szD (n + 1)) = ts.map (szD n) := List.map_congr_left fun t ht => szD_succ (c t ht).tk
      rw [e, szD_grp, em]
      omega
theorem sum_flatD {n : Nat} {w : String} : ∀ {ps : List TL.D}, (∀ p ∈ ps, Nf n p) → ((flatD w ps).map (szD n)).sum ≤ (ps.map (szD n)).sum
  | [], _ => Nat.le_refl _
  | p :: ps, h => by
    have a := sum_flat1 (w := w) (h p (List.mem_cons_self ..))
    have b := sum_flatD (n := n) (w := w) fun q hq => h q (List.mem_cons_of_mem _ hq)
    rw [flatD_cons, List.map_append, List.sum_append, List.map_cons, List.sum_cons]
    omega
theorem sum_le {f g : TL.D → Nat} : ∀ {ts : List TL.D}, (∀ t ∈ ts, f t ≤ g t) → (ts.map f).sum ≤ (ts.map g).sum
  | [], _ => Nat.le_refl _
  | t :: ts, h => by
    have a := h t (List.mem_cons_self ..)
    have b := sum_le fun q hq => h q (List.mem_cons_of_mem _ hq)
    simp only [List.map_cons, List.sum_cons]
    omega
theorem szD_onc : ∀ {n : Nat} {d : TL.D}, Tk n d → szD n (onc n d) ≤ szD n d
  | 0, _, h => h.elim
  | n + 1, d, h => by
    rcases h with ⟨a, k, b, rfl⟩ | ⟨w, ts, a, b, e, rfl⟩ | ⟨a, t, b, c, rfl⟩ | ⟨k, t, c, rfl⟩
    · simp only [onc]; exact Nat.le_refl _
    · have nf : ∀ p ∈ ts.map (onc n), Nf n p := fun p hp => by
        obtain ⟨t, ht, rfl⟩ := List.mem_map.mp hp
        exact onc_nf (e t ht)
      have s1 := sum_flatD (w := w) nf
      have s2 := sum_un (f := szD n) w (flatD w (ts.map (onc n)))
      have s3 := sum_le (f := fun t => szD n (onc n t)) (g := szD n) fun t ht => szD_onc (e t ht)
      rw [List.map_map] at s1
      have s1 : ((flatD (Str.ofString w) (ts.map (onc n))).map (szD n)).sum ≤ (ts.map fun t => szD n (onc n t)).sum := s1
      have um : ∀ x ∈ un w (flatD w (ts.map (onc n))), Tk n x := fun x hx => (flatD_mem nf (un_mem hx)).1.tk
      rw [szD_grp]
      simp only [onc]
      generalize un w (flatD w (ts.map (onc n))) = U at *
      match U with
      | [] => simp [grp, szD_grp]
      | [x] =>
        show szD (n + 1) x ≤ _
        rw [szD_succ (um x (List.mem_singleton.mpr rfl))]
        simp only [List.map_cons, List.map_nil, List.sum_cons, List.sum_nil] at s2
        omega
      | x :: y :: r =>
        show szD (n + 1) (.tup [.str w, .tup (x :: y :: r)]) ≤ _
        rw [szD_grp]
        omega
    · have ih := szD_onc c
      have nf := onc_nf c
      have s := szD_succ nf.tk
      obtain ⟨z, ez⟩ := onc_wo (b := a) c
      rw [szD_wo c]
      obtain ⟨ds, rfl⟩ := c.isT
      simp only [onc]
      split
      · next w' b' u e =>
        rw [e] at ih s nf
        split
        · omega
        · rw [szD_wo nf.tk]; omega
      · rw [szD_wo nf.tk]; omega
    · have ih := szD_onc c
      have nf := onc_nf c
      rw [szD_wi]
      simp only [onc]
      split
      · next w' j u e =>
        rw [e] at ih nf
        split
        · next hc =>
          subst hc
          cases n with
          | zero => exact nf.elim
          | succ n =>
            rw [szD_wi] at ih
            rw [szD_wi, szD_succ nf.tk.wiI]
            omega
        · rw [szD_wi]; omega
      · rw [szD_wi]; omega
theorem flat_len {n : Nat} {w : String} {ts : List TL.D} (h : ∀ t ∈ ts, Tk n t) : (flatD w (ts.map (onc n))).length ≤ (ts.map (szD n)).sum := by
  have nf : ∀ p ∈ ts.map (onc n), Nf n p := fun p hp => by
    obtain ⟨t, ht, rfl⟩ := List.mem_map.mp hp
    exact onc_nf (h t ht)
  have s0 := szD_len (n := n) (ts := flatD w (ts.map (onc n))) fun x hx => (flatD_mem nf hx).1.tk
  have s1 := sum_flatD (w := w) nf
  have s3 := sum_le (f := fun t => szD n (onc n t)) (g := szD n) fun t ht => szD_onc (h t ht)
  rw [List.map_map] at s1
  have s1 : ((flatD (Str.ofString w) (ts.map (onc n))).map (szD n)).sum ≤ (ts.map fun t => szD n (onc n t)).sum := s1
  omega
theorem ti_do {N : Nat} (hN : 1 ≤ N) {a : Str} {k : Int} (st : Sto) : TL.run Pg N 0 [.tup [.str "do", .str a, .int k]] st = .ok (.tup []) st := by
  obtain ⟨N, rfl⟩ : ∃ M, N = M + 1 := ⟨N - 1, by omega⟩
  rw [run_c (F := c_tasks_in) rfl rfl]
  simp [c_tasks_in, enter, dEqs, inG]
theorem ti_grp {N : Nat} (hN : 1 ≤ N) {w : String} (hw : w = "all" ∨ w = "any" ∨ w = "then") {ts : List TL.D} (st : Sto) : TL.run Pg N 0 [.tup [.str w, .tup ts]] st = .ok (.tup ts) st := by
  obtain ⟨N, rfl⟩ : ∃ M, N = M + 1 := ⟨N - 1, by omega⟩
  rw [run_c (F := c_tasks_in) rfl rfl]
  rcases hw with rfl | rfl | rfl <;> simp [c_tasks_in, enter, dEqs, inG]
theorem ti_one {N : Nat} (hN : 1 ≤ N) {w : String} (hw : w = "without" ∨ w = "within") {x t : TL.D} (st : Sto) : TL.run Pg N 0 [.tup [.str w, x, t]] st = .ok (.tup [t]) st := by
  obtain ⟨N, rfl⟩ : ∃ M, N = M + 1 := ⟨N - 1, by omega⟩
  have cf := fun (x y z : TL.D) => cut_from [x, y, z] 2
  simp at cf
  rw [run_c (F := c_tasks_in) rfl rfl]
  rcases hw with rfl | rfl <;> simp [c_tasks_in, enter, dEqs, inG, cf]

end TP

namespace TP
open TL
open PySem (Str PyData)
open L2 (atI)
theorem inL' {n : Nat} {x : TL.D} {ds : List TL.D} (hx : okD n x) (hn : n + 1 ≤ 64) (h : ∀ d ∈ ds, okD n d) : dIn x (.lst ds) = some (.bl (isInD ds x)) := by
  have a := hx.shp (by omega)
  have b := (okD_lst h).shp hn
  simp [dIn, inD, a, b, isInD]
theorem w_with_do {N : Nat} (hN : 1 ≤ N) {a : Str} {k : Int} {x : List TL.D} (st : Sto) : TL.run Pg N 1 [.tup [.str "do", .str a, .int k], .lst x] st = .ok (.tup [.str "do", .str a, .int k]) st := by
  obtain ⟨N, rfl⟩ : ∃ M, N = M + 1 := ⟨N - 1, by omega⟩
  rw [run_c (F := c_with_tasks) rfl rfl]
  simp [c_with_tasks, enter, dEqs, inG]
theorem w_with_one {N : Nat} (hN : 1 ≤ N) {w : String} (hw : w = "without" ∨ w = "within") {x t u : TL.D} (st : Sto) : TL.run Pg N 1 [.tup [.str w, x, t], .lst [u]] st = .ok (.tup [.str w, x, u]) st := by
  obtain ⟨N, rfl⟩ : ∃ M, N = M + 1 := ⟨N - 1, by omega⟩
  have ct := fun (x y z : TL.D) => cut_to [x, y, z] 2
  simp at ct
  have ad := fun (a b c : TL.D) => oAddt (a := [a, b]) (b := [c]) (by simp)
  simp at ad
  rw [run_c (F := c_with_tasks) rfl rfl]
  rcases hw with rfl | rfl <;> simp [c_with_tasks, enter, dEqs, inG, ct, ad]
theorem once_grp {N n : Nat} (hn : 2 * n + 2 ≤ 60) (hN : 1 ≤ N) {w : String} (hw : w = "all" ∨ w = "any" ∨ w = "then") {ts : List TL.D} (h0 : ts ≠ []) (hg : ∀ t ∈ ts, Tk n t) (hs : (ts.map (szD n)).sum ≤ 50000) {st : Sto}
    (IH : ∀ t ∈ ts, TL.run Pg N 5 [t] st = .ok (onc n t) st) : TL.run Pg (N + 1) 5 [.tup [.str w, .tup ts]] st = .ok (onc (n + 1) (.tup [.str w, .tup ts])) st := by
  have nf : ∀ p ∈ ts.map (onc n), Nf n p := fun p hp => by
    obtain ⟨t, ht, rfl⟩ := List.mem_map.mp hp
    exact onc_nf (hg t ht)
  have fl := flat_len (w := w) hg
  have fm : ∀ x ∈ flatD w (ts.map (onc n)), Tk n x := fun x hx => (flatD_mem nf hx).1.tk
  have wf := w_flat (N := N) hN (n := n) (by omega) hw (st := st) (ps := ts.map (onc n)) (fun p hp => (nf p hp).tk) (by omega)
  have wu := w_unlike_ones (N := N) hN (n := n) (by omega) (st := st) (ps := flatD w (ts.map (onc n))) fm (by omega)
  have ne : ts.map (onc n) ≠ [] := by simpa using h0
  have gt := ti_grp (N := N) hN hw (ts := ts) st
  have go : (onc (n + 1) (.tup [.str w, .tup ts])).own = false := (onc_nf (n := n + 1) (.inr (.inl ⟨w, ts, hw, h0, hg, rfl⟩))).tk.ok.own
  have ug : ∀ us : List TL.D, (∀ x ∈ us, x.own = false) → us ≠ [] → (if ((us.length : Int) = 1) then atI us 0 else some (.tup [.str w, .tup us])) = some (grp w us) := by
    intro us _ h
    match us, h with
    | [x], _ => rfl
    | x :: y :: r, _ =>
      rw [if_neg (by simp only [List.length_cons]; omega)]
      rfl
  have une := un_ne (w := w) fm (by
    match ts, h0 with
    | t :: r, _ =>
      obtain ⟨y, hy⟩ := List.exists_mem_of_ne_nil _ (flat1_ne (w := w) (onc_nf (hg t (List.mem_cons_self ..))))
      exact List.ne_nil_of_mem (List.mem_flatMap.mpr ⟨_, List.mem_map.mpr ⟨t, List.mem_cons_self .., rfl⟩, hy⟩))
  have uo : ∀ x ∈ un w (flatD w (ts.map (onc n))), x.own = false := fun x hx => (fm x (un_mem hx)).ok.own
  rw [run_c (F := c_once) rfl rfl]
  simp only [onc]
  have lc : ∀ ρ : TL.Env, 3 < ρ.length → lcE (TL.run Pg N) (.call 5 [.var 3]) (.nm 3) [3] [] ts ρ st = .ok (ts.map (onc n)) st := by
    intro ρ h3
    have g3 : ∀ y, (ρ.set 3 y)[3]? = some y := fun y => by rw [List.getElem?_set_self h3]
    exact lcE_all fun t ht => ⟨ρ.set 3 (some t), by simp [(hg t ht).ok.own], by simp, by simp [(hg t ht).ok.own, g3, IH t ht], (onc_nf (hg t ht)).tk.ok.own⟩
  by_cases ht : w = "then"
  · subst ht
    have uu : un (Str.ofString "then") (flatD "then" (ts.map (onc n))) = flatD "then" (ts.map (onc n)) := by simp [un]
    rw [uu] at une uo ⊢
    have wf := wf
    generalize flatD (Str.ofString "then") (ts.map (onc n)) = us at *
    match us, une with
    | [x], _ =>
      have := uo x (List.mem_singleton.mpr rfl)
      simp [c_once, enter, gt, lc, dEqs, dNes, inG, wf, grp, this]
    | x :: y :: r, _ =>
      have l2 : ¬ ((r.length : Int) + 1 + 1 = 1) := by omega
      simp [c_once, enter, gt, lc, dEqs, dNes, inG, wf, grp, l2]
  · have uu : un (Str.ofString w) (flatD w (ts.map (onc n))) = dedGo [] (flatD w (ts.map (onc n))) := by simp [un, ht]
    rw [uu] at une uo ⊢
    generalize flatD (Str.ofString w) (ts.map (onc n)) = FF at *
    generalize dedGo [] FF = us at *
    match us, une with
    | [x], _ =>
      have := uo x (List.mem_singleton.mpr rfl)
      rcases hw with rfl | rfl | rfl
      · simp [c_once, enter, gt, lc, dEqs, dNes, inG, wf, wu, grp, this]
      · simp [c_once, enter, gt, lc, dEqs, dNes, inG, wf, wu, grp, this]
      · exact (ht rfl).elim
    | x :: y :: r, _ =>
      have l2 : ¬ ((r.length : Int) + 1 + 1 = 1) := by omega
      rcases hw with rfl | rfl | rfl
      · simp [c_once, enter, gt, lc, dEqs, dNes, inG, wf, wu, grp, l2]
      · simp [c_once, enter, gt, lc, dEqs, dNes, inG, wf, wu, grp, l2]
      · exact (ht rfl).elim
theorem once_wo {N n : Nat} (hn : 2 * n + 2 ≤ 60) (hN : 1 ≤ N) {b : Str} {t : TL.D} (hb : PyData.strOk b = true) (h : Tk n t) {st : Sto} (IH : TL.run Pg N 5 [t] st = .ok (onc n t) st) :
    TL.run Pg (N + 1) 5 [.tup [.str "without", .str b, t]] st = .ok (onc (n + 1) (.tup [.str "without", .str b, t])) st := by
  have nf := onc_nf h
  have gt := ti_one (N := N) hN (w := "without") (.inl rfl) (x := .str b) (t := t) st
  have ct3 := fun (x y z : TL.D) => cut_to [x, y, z] 2
  have ct2 := fun (x y : TL.D) => cut_to [x, y] 2
  simp at ct3 ct2
  have wo := w_with_one (N := N) hN (w := "without") (.inl rfl) (x := .str b) (t := t) (u := onc n t) st
  have lc : ∀ ρ : TL.Env, 3 < ρ.length → lcE (TL.run Pg N) (.call 5 [.var 3]) (.nm 3) [3] [] [t] ρ st = .ok [onc n t] st := by
    intro ρ h3
    have g3 : ∀ y, (ρ.set 3 y)[3]? = some y := fun y => by rw [List.getElem?_set_self h3]
    have := lcE_all (C := TL.run Pg N) (st := st) (ρ := ρ) (tg := .nm 3) (own := [3]) (elt := .call 5 [.var 3]) (cond := []) (g := onc n) (xs := [t]) fun s hs => by
      rw [List.mem_singleton.mp hs]
      exact ⟨ρ.set 3 (some t), by simp [h.ok.own], by simp, by simp [h.ok.own, g3, IH], nf.tk.ok.own⟩
    simpa using this
  have po : ∀ (x : String) (y : TL.D), okD 0 y → okD 1 (.tup [.str x, y]) := fun x y hy => okD_tup fun d hd => by
    simp at hd
    rcases hd with rfl | rfl
    · exact okD_str _ (strOk_of _)
    · exact hy
  rw [run_c (F := c_once) rfl rfl]
  obtain ⟨ds, rfl⟩ := h.isT
  cases n with
  | zero => exact h.elim
  | succ n =>
    have pb := po "without" (.str b) (okD_str 0 hb)
    simp only [onc]
    rcases nf with ⟨a, k, ha, e⟩ | ⟨w, ts, hw, h2, c, f1, f2, e⟩ | ⟨a, t, ha, c, f1, e⟩ | ⟨k, t, c, f1, e⟩
    · have ro : (TL.D.tup [.str "do", .str a, .int k]).own = false := rfl
      have de := dEq_ok (po "do" (.str a) (okD_str 0 ha)) pb (by decide) (by decide)
      simp only [eqv_cons, eqv_str, str_inj] at de
      simp at de
      rw [e] at lc wo
      rw [e]
      simp [c_once, enter, gt, lc, dEqs, dNes, inG, ct3, de, wo]
    · have de := dEq_ok (okD_tup (n := 2 * n + 1) (ds := [.str w, .tup ts]) fun d hd => by
        simp at hd
        rcases hd with rfl | rfl
        · exact okD_str _ (strOk_of _)
        · exact okD_tup fun t ht => (c t ht).tk.ok) pb (by omega) (by decide)
      have ww : w ≠ "without" := by rcases hw with rfl | rfl | rfl <;> decide
      simp only [eqv_cons, eqv_tup_str, eqv_str, str_inj] at de
      simp [ww] at de
      rw [e] at lc wo
      rw [e]
      simp [c_once, enter, gt, lc, dEqs, dNes, inG, ct3, ct2, de, wo]
    · have de := dEq_ok (po "without" (.str a) (okD_str 0 ha)) pb (by decide) (by decide)
      simp only [eqv_cons, eqv_str, str_inj] at de
      have n0 : (TL.D.tup []).eqv (.tup []) = true := rfl
      simp [n0] at de
      rw [e] at lc wo
      rw [e]
      by_cases hab : a = b
      · subst hab
        simp at de
        simp [c_once, enter, gt, lc, dEqs, dNes, inG, ct3, de, wo]
      · simp [hab] at de
        simp [c_once, enter, gt, lc, dEqs, dNes, inG, ct3, de, wo, hab]
    · have de := dEq_ok (po "within" (.int k) (okD_int 0 k)) pb (by decide) (by decide)
      simp only [eqv_cons, eqv_str, str_inj] at de
      simp at de
      rw [e] at lc wo
      rw [e]
      simp [c_once, enter, gt, lc, dEqs, dNes, inG, ct3, de, wo]

end TP

namespace TP
open TL
open PySem (Str PyData)
open L2 (atI)
theorem oMin (k j : Int) : o2 .min (.int k) (.int j) = some (.int (min k j)) := by
  show some (TL.D.int _) = _
  congr 2
  split <;> omega
theorem once_wi {N n : Nat} (hN : 1 ≤ N) {k : Int} {t : TL.D} (h : Tk n t) {st : Sto} (IH : TL.run Pg N 5 [t] st = .ok (onc n t) st) :
    TL.run Pg (N + 1) 5 [.tup [.str "within", .int k, t]] st = .ok (onc (n + 1) (.tup [.str "within", .int k, t])) st := by
  have nf := onc_nf h
  have gt := ti_one (N := N) hN (w := "within") (.inr rfl) (x := .int k) (t := t) st
  have wo := w_with_one (N := N) hN (w := "within") (.inr rfl) (x := .int k) (t := t) (u := onc n t) st
  have lc : ∀ ρ : TL.Env, 3 < ρ.length → lcE (TL.run Pg N) (.call 5 [.var 3]) (.nm 3) [3] [] [t] ρ st = .ok [onc n t] st := by
    intro ρ h3
    have g3 : ∀ y, (ρ.set 3 y)[3]? = some y := fun y => by rw [List.getElem?_set_self h3]
    have := lcE_all (C := TL.run Pg N) (st := st) (ρ := ρ) (tg := .nm 3) (own := [3]) (elt := .call 5 [.var 3]) (cond := []) (g := onc n) (xs := [t]) fun s hs => by
      rw [List.mem_singleton.mp hs]
      exact ⟨ρ.set 3 (some t), by simp [h.ok.own], by simp, by simp [h.ok.own, g3, IH], nf.tk.ok.own⟩
    simpa using this
  rw [run_c (F := c_once) rfl rfl]
  cases n with
  | zero => exact h.elim
  | succ n =>
    simp only [onc]
    rcases nf with ⟨a, i, ha, e⟩ | ⟨w, ts, hw, h2, c, f1, f2, e⟩ | ⟨a, v, ha, c, f1, e⟩ | ⟨j, v, c, f1, e⟩
    · rw [e] at lc wo
      rw [e]
      simp [c_once, enter, gt, lc, dEqs, dNes, inG, wo]
    · have ww : w ≠ "within" := by rcases hw with rfl | rfl | rfl <;> decide
      rw [e] at lc wo
      rw [e]
      simp [c_once, enter, gt, lc, dEqs, dNes, inG, wo, ww]
    · obtain ⟨vs, rfl⟩ := c.tk.isT
      rw [e] at lc wo
      rw [e]
      simp [c_once, enter, gt, lc, dEqs, dNes, inG, wo]
    · have vo := c.tk.ok.own
      rw [e] at lc wo
      rw [e]
      simp [c_once, enter, gt, lc, dEqs, dNes, inG, oMin, vo]
theorem mem_le_sum : ∀ {l : List Nat} {x : Nat}, x ∈ l → x ≤ l.sum
  | y :: l, x, h => by
    rw [List.sum_cons]
    rcases List.mem_cons.mp h with rfl | h
    · omega
    · have := mem_le_sum h; omega
theorem w_once : ∀ (n N : Nat) {t : TL.D} (st : Sto), 2 * n ≤ 50 → n + 1 ≤ N → Tk n t → szD n t ≤ 50000 → TL.run Pg N 5 [t] st = .ok (onc n t) st := by
  intro n
  induction n with
  | zero => intro N t st _ _ h; exact h.elim
  | succ n IH =>
    intro N t st hn hN h hs
    obtain ⟨N, rfl⟩ : ∃ M, N = M + 1 := ⟨N - 1, by omega⟩
    rcases h with ⟨a, k, b, rfl⟩ | ⟨w, ts, a, b, e, rfl⟩ | ⟨a, t, b, c, rfl⟩ | ⟨k, t, c, rfl⟩
    · have gt := ti_do (N := N) (by omega) (a := a) (k := k) st
      have wd := w_with_do (N := N) (by omega) (a := a) (k := k) (x := []) st
      have lc : ∀ ρ : TL.Env, lcE (TL.run Pg N) (.call 5 [.var 3]) (.nm 3) [3] [] [] ρ st = .ok [] st := fun ρ => rfl
      rw [run_c (F := c_once) rfl rfl]
      simp [c_once, enter, gt, lc, dEqs, dNes, inG, wd, onc]
    · rw [szD_grp] at hs
      refine once_grp (by omega) (by omega) a b e (by omega) fun t ht => IH N st (by omega) (by omega) (e t ht) ?_
      have := mem_le_sum (l := ts.map (szD n)) (List.mem_map.mpr ⟨t, ht, rfl⟩)
      omega
    · rw [szD_wo c] at hs
      exact once_wo (by omega) (by omega) b c (IH N st (by omega) (by omega) c (by omega))
    · rw [szD_wi] at hs
      exact once_wi (by omega) c (IH N st (by omega) (by omega) c (by omega))
theorem w_is_short {N n : Nat} (hn : 2 * n ≤ 50) (hN : n + 2 ≤ N) {t : TL.D} (st : Sto) (h : Tk n t) (hs : szD n t ≤ 50000) : TL.run Pg N 7 [t] st = .ok (.bl ((onc n t).eqv t)) st := by
  obtain ⟨N, rfl⟩ : ∃ M, N = M + 1 := ⟨N - 1, by omega⟩
  have w := w_once n N st hn (by omega) h hs
  have go := h.ok.own
  have de := dEq_ok (onc_nf h).tk.ok h.ok (by omega) (by omega)
  rw [run_c (F := c_is_short) rfl rfl]
  simp [c_is_short, enter, w, go, de]
theorem w_short {N n : Nat} (hn : 2 * n ≤ 50) (hN : n + 2 ≤ N) {t : TL.D} (st : Sto) (h : Tk n t) (hs : szD n t ≤ 50000) (ii : onc n (onc n t) = onc n t) : TL.run Pg N 6 [t] st = .ok (onc n t) st := by
  obtain ⟨N, rfl⟩ : ∃ M, N = M + 1 := ⟨N - 1, by omega⟩
  have w := w_once n N st hn (by omega) h hs
  have ho := (onc_nf h).tk
  have w2 := w_once n N st hn (by omega) ho (Nat.le_trans (szD_onc h) hs)
  rw [ii] at w2
  have go := h.ok.own
  have oo := ho.ok.own
  have dn := dNe_ok ho.ok h.ok (by omega) (by omega)
  have dn2 := dNe_ok ho.ok ho.ok (by omega) (by omega)
  rw [ho.refl] at dn2
  have wl : ∃ y, whileE (TL.run Pg N) (.o2 .ne (.var 1) (.var 0)) [.set 0 (.var 1), .set 1 (.call 5 [.var 0])] FU [some t, some (onc n t)] st = .nx [some (onc n t), y] st := by
    show ∃ y, whileGo _ _ FU _ _ = _
    unfold FU
    unfold whileGo
    cases he : (onc n t).eqv t with
    | true =>
      have e := ho.eq h he
      rw [he] at dn
      refine ⟨some (onc n t), ?_⟩
      simp [go, oo, dn]
      exact e.symm
    | false =>
      rw [he] at dn
      refine ⟨some (onc n t), ?_⟩
      simp [go, oo, dn, w2]
      unfold whileGo
      simp [oo, dn2]
  obtain ⟨y, wl⟩ := wl
  rw [run_c (F := c_short) rfl rfl]
  simp [c_short, enter, w, go, oo, wl]

end TP

namespace TP
open TL
open PySem (Str PyData)
open L2 (atI)
abbrev lawN : Nat := 90
theorem letter4' (i : Int) : ∃ a : String, Nm a ∧ o2 .ix (.str "abcd") (.int (i % 4)) = some (.str a) := by
  have h1 := Int.emod_nonneg i (b := 4) (by decide)
  have h2 := Int.emod_lt_of_pos i (b := 4) (by decide)
  generalize i % 4 = j at *
  have : j = 0 ∨ j = 1 ∨ j = 2 ∨ j = 3 := by omega
  rcases this with rfl | rfl | rfl | rfl
  · exact ⟨"a", .inl rfl, rfl⟩
  · exact ⟨"b", .inr (.inl rfl), rfl⟩
  · exact ⟨"c", .inr (.inr (.inl rfl)), rfl⟩
  · exact ⟨"d", .inr (.inr (.inr rfl)), rfl⟩
theorem oRev (ds : List TL.D) : o1 .rev (.tup ds) = some (.tup ds.reverse) := rfl
theorem w__law_rest {N : Nat} (hN : 1 ≤ N) {ts : List TL.D} (h0 : ts ≠ []) (ho : ∀ t ∈ ts, t.own = false) (st : Sto) : TL.run Pg N 24 [.tup ts] st = .ok (grp "then" ts) st := by
  obtain ⟨N, rfl⟩ : ∃ M, N = M + 1 := ⟨N - 1, by omega⟩
  rw [run_c (F := c__law_rest) rfl rfl]
  match ts, h0 with
  | [x], _ =>
    have := ho x (List.mem_singleton.mpr rfl)
    simp [c__law_rest, enter, grp, this]
  | x :: y :: r, _ =>
    have l2 : ¬ ((r.length : Int) + 1 + 1 = 1) := by omega
    simp [c__law_rest, enter, grp, l2]
theorem w__law_other {N : Nat} (hN : 20 ≤ N) {t : TL.D} (d : Dr 2 2 t) (z : Int) (st : Sto) : ∃ u f, Pt u f ∧ TL.run Pg N 23 [t, .int z] st = .ok u st := by
  obtain ⟨N, rfl⟩ : ∃ M, N = M + 1 := ⟨N - 1, by omega⟩
  have to := d.good.ok.own
  have r8 := oMod (i := z) (j := 8) (by decide)
  have d8 := oDiv (i := z) (j := 8) (by decide) (by decide)
  have r9 := oMod (i := z / 8) (j := 9) (by decide)
  have r4 := oMod (i := z / 8) (j := 4) (by decide)
  have b0 := Int.emod_nonneg (z / 8) (b := 9) (by decide)
  have b9 := Int.emod_lt_of_pos (z / 8) (b := 9) (by decide)
  obtain ⟨a, ha, ea⟩ := letter4' (z / 8)
  obtain ⟨v, dv, wv⟩ := w__law_task' 1 N (z / 8) 2 st (by decide) (by decide) (by omega)
  have vo := dv.good.ok.own
  simp at wv
  have q0 := Int.emod_nonneg z (b := 8) (by decide)
  have q1 := Int.emod_lt_of_pos z (b := 8) (by decide)
  rw [run_c (F := c__law_other) rfl rfl]
  have iT := fun (x : String) => inT (x := x) ["all", "any"] (strOk_of _)
  simp at iT
  generalize hk : z % 8 = k at *
  by_cases k0 : k = 0
  · subst k0
    obtain ⟨f, p⟩ := pt_all d
    refine ⟨_, f, p, ?_⟩
    simp [c__law_other, enter, r8, to]
  by_cases k1 : k = 1
  · subst k1
    obtain ⟨f, p⟩ := pt_any d
    refine ⟨_, f, p, ?_⟩
    simp [c__law_other, enter, r8, to]
  by_cases k2 : k = 2
  · subst k2
    obtain ⟨f, p⟩ := pt_within (k := 1 + z / 8 % 9) (by omega) (by omega) d
    refine ⟨_, f, p, ?_⟩
    simp [c__law_other, enter, r8, to, d8, r9]
  by_cases k3 : k = 3
  · subst k3
    obtain ⟨f, p⟩ := pt_without ha d
    refine ⟨_, f, p, ?_⟩
    simp [c__law_other, enter, r8, to, d8, r4, ea]
  by_cases k4 : k = 4
  · subst k4
    rcases d with ⟨b, k', hb, hk', hkm, rfl⟩ | ⟨w, ts, hw, h1, hl, h2, hg, rfl⟩ | ⟨b, s, hb, hg, rfl⟩ | ⟨k', s, hk', hk9, hg, rfl⟩
    · refine ⟨v, _, .of2 dv, ?_⟩
      simp [c__law_other, enter, r8, iT, dEqs, d8, wv, vo]
    · by_cases ht : w = "then"
      · subst ht
        refine ⟨v, _, .of2 dv, ?_⟩
        simp [c__law_other, enter, r8, iT, dEqs, d8, wv, vo]
      · have dr : Dr 2 2 (.tup [.str w, .tup ts.reverse]) := .inr (.inl ⟨w, ts.reverse, hw, by simpa using h1, by simpa using hl, fun e => (ht e).elim, fun t h => hg t (by simpa using h), rfl⟩)
        refine ⟨_, _, .of2 dr, ?_⟩
        have hw' : w = "all" ∨ w = "any" := by rcases hw with h | h | h; exact .inl h; exact .inr h; exact (ht h).elim
        rcases hw' with rfl | rfl <;> simp [c__law_other, enter, r8, iT, oRev]
    · obtain ⟨ds, rfl⟩ := hg.good.isT
      refine ⟨v, _, .of2 dv, ?_⟩
      simp [c__law_other, enter, r8, iT, dEqs, d8, wv, vo]
    · refine ⟨v, _, .of2 dv, ?_⟩
      simp [c__law_other, enter, r8, iT, dEqs, d8, wv, vo]
  by_cases k5 : k = 5
  · subst k5
    have d0 := d
    rcases d with ⟨b, k', hb, hk', hkm, rfl⟩ | ⟨w, ts, hw, h1, hl, h2, hg, rfl⟩ | ⟨b, s, hb, hg, rfl⟩ | ⟨k', s, hk', hk9, hg, rfl⟩
    · refine ⟨v, _, .of2 dv, ?_⟩
      simp [c__law_other, enter, r8, iT, dEqs, d8, wv, vo]
    · by_cases ht : w = "then"
      · subst ht
        have l2 := h2 rfl
        match ts, l2, hl, d0, hg with
        | [x, y], _, _, d0, hg =>
          have xo := (hg x (by simp)).good.ok.own
          have yo := (hg y (by simp)).good.ok.own
          refine ⟨_, _, .of2 d0, ?_⟩
          have wr := w__law_rest (N := N) (by omega) (ts := [y]) (by simp) (fun t ht => by rw [List.mem_singleton.mp ht]; exact yo) st
          rw [show grp "then" [y] = y from rfl] at wr
          have cf := cut_from [x, y] 1
          simp at cf
          simp [c__law_other, enter, r8, iT, dEqs, xo, wr]
        | [x, y, e], _, _, d0, hg =>
          have dx := hg x (by simp)
          have dy := hg y (by simp)
          have de := hg e (by simp)
          have xo := dx.good.ok.own
          have wr := w__law_rest (N := N) (by omega) (ts := [y, e]) (by simp) (mem2 (P := fun t => t.own = false) dy.good.ok.own de.good.ok.own) st
          rw [show grp "then" [y, e] = .tup [.str "then", .tup [y, e]] from rfl] at wr
          have du : Dr 2 3 (.tup [.str "then", .tup [x, .tup [.str "then", .tup [y, e]]]]) := two_dr' (.inr (.inr rfl)) dx.succ (two_dr' (.inr (.inr rfl)) dy de)
          have p : Pt (.tup [.str "then", .tup [x, .tup [.str "then", .tup [y, e]]]]) (onc 2 (.tup [.str "then", .tup [x, y, e]])) := by
            refine .via d0 du.succ ?_ (.step (.spl "then" [x] [y, e] [] (.inr (.inr rfl))) (.refl _))
            rw [sts_succ du.good]
            have a : (sts 2 x).length ≤ 26 := sts_len2 dx.succ
            have b : (sts 2 (.tup [.str "then", .tup [y, e]])).length ≤ 26 := sts_len2 (two_dr' (.inr (.inr rfl)) dy de)
            have c : (sts 3 (.tup [.str "then", .tup [x, .tup [.str "then", .tup [y, e]]]])).length = (sts 2 x).length + (sts 2 (.tup [.str "then", .tup [y, e]])).length := by
              rw [sts]
              simp [suf]
            omega
          refine ⟨_, _, p, ?_⟩
          simp [c__law_other, enter, r8, iT, dEqs, xo, wr]
      · refine ⟨v, _, .of2 dv, ?_⟩
        have hw' : w = "all" ∨ w = "any" := by rcases hw with h | h | h; exact .inl h; exact .inr h; exact (ht h).elim
        rcases hw' with rfl | rfl <;> simp [c__law_other, enter, r8, iT, dEqs, d8, wv, vo]
    · obtain ⟨ds, rfl⟩ := hg.good.isT
      refine ⟨v, _, .of2 dv, ?_⟩
      simp [c__law_other, enter, r8, iT, dEqs, d8, wv, vo]
    · refine ⟨v, _, .of2 dv, ?_⟩
      simp [c__law_other, enter, r8, iT, dEqs, d8, wv, vo]
  by_cases k6 : k = 6
  · subst k6
    rcases d with ⟨b, k', hb, hk', hkm, rfl⟩ | ⟨w, ts, hw, h1, hl, h2, hg, rfl⟩ | ⟨b, s, hb, hg, rfl⟩ | ⟨k', s, hk', hk9, hg, rfl⟩
    · by_cases h1 : 1 < k'
      · have dr : Dr 2 2 (.tup [.str "then", .tup [.tup [.str "do", .str b, .int 1], .tup [.str "do", .str b, .int (k' - 1)]]]) := two_dr' (.inr (.inr rfl)) (.inl ⟨b, 1, hb, by decide, by decide, rfl⟩) (.inl ⟨b, k' - 1, hb, by omega, by omega, rfl⟩)
        refine ⟨_, _, .of2 dr, ?_⟩
        simp [c__law_other, enter, r8, iT, dEqs, h1]
      · refine ⟨v, _, .of2 dv, ?_⟩
        simp [c__law_other, enter, r8, iT, dEqs, h1, d8, wv, vo]
    · refine ⟨v, _, .of2 dv, ?_⟩
      rcases hw with rfl | rfl | rfl <;> simp [c__law_other, enter, r8, iT, dEqs, d8, wv, vo]
    · obtain ⟨ds, rfl⟩ := hg.good.isT
      refine ⟨v, _, .of2 dv, ?_⟩
      simp [c__law_other, enter, r8, iT, dEqs, d8, wv, vo]
    · refine ⟨v, _, .of2 dv, ?_⟩
      simp [c__law_other, enter, r8, iT, dEqs, d8, wv, vo]
  · have k7 : k = 7 := by omega
    subst k7
    refine ⟨v, _, .of2 dv, ?_⟩
    simp [c__law_other, enter, r8, to, d8, wv, vo]
theorem dr_sz {m : Nat} : ∀ {n : Nat} {d : TL.D}, Dr m (n + 1) d → szD (n + 1) d ≤ 4 ^ (n + 1) := by
  intro n
  induction n with
  | zero =>
    intro d h
    rcases h with ⟨a, k', ha, hk, hkm, rfl⟩ | ⟨w, ts, hw, h1, hl, h2, hg, rfl⟩ | ⟨a, t, ha, hg, rfl⟩ | ⟨k', t, hk, hk9, hg, rfl⟩
    · simp [szD]
    · match ts, h1 with
      | t :: r, _ => exact (hg t (List.mem_cons_self ..)).elim
    · exact hg.elim
    · exact hg.elim
  | succ n ih =>
    intro d h
    have p4 : 4 ^ (n + 1 + 1) = 4 * 4 ^ (n + 1) := by rw [Nat.pow_succ, Nat.mul_comm]
    have p1 : 1 ≤ 4 ^ (n + 1) := Nat.one_le_pow _ _ (by decide)
    rcases h with ⟨a, k', ha, hk, hkm, rfl⟩ | ⟨w, ts, hw, h1, hl, h2, hg, rfl⟩ | ⟨a, t, ha, hg, rfl⟩ | ⟨k', t, hk, hk9, hg, rfl⟩
    · simp only [szD]
      omega
    · exact grp_sz hl fun d hd => ih (hg d hd)
    · have := ih hg
      rw [szD_wo hg.good.tk]
      omega
    · have := ih hg
      rw [szD_wi]
      omega
/-- the place of a decision -/
def plc : Option (TL.D × Int) → TL.D
  | none => .non
  | some (_, p) => .int p
theorem tol_plc {n : Nat} {t : TL.D} {as : List Str} (ok : ∀ a ∈ as, PyData.strOk a = true) (g : Good n t) : ∃ d, tol n t as 0 = .tup [d, plc (decI n t as 0)] ∧ Res n d ∧ (∀ o p, decI n t as 0 = some (o, p) → d = o) ∧ (decI n t as 0 = none → Und n t as d) := by
  cases h : decI n t as 0 with
  | none =>
    obtain ⟨l, u, e⟩ := tol_none (i := 0) h
    exact ⟨l, e, .inr (.inr (u.good ok g)), (by intro o p q; cases q), fun _ => u⟩
  | some q =>
    obtain ⟨o, p⟩ := q
    refine ⟨o, tol_some (i := 0) h, ?_, fun o' p' q => by cases q; rfl, by intro q; cases q⟩
    rcases (decI_bd ok g h).2.2 with rfl | rfl
    · exact .inl rfl
    · exact .inr (.inl rfl)
theorem pair_ok' {n : Nat} {d k : TL.D} (r : Res n d) (hk : k = .non ∨ ∃ j : Int, k = .int j) : okD (2 * n + 1) (.tup [d, k]) := pair_ok r hk
theorem plc_ok (x : Option (TL.D × Int)) : plc x = .non ∨ ∃ j : Int, plc x = .int j := by
  cases x with
  | none => exact .inl rfl
  | some q => exact .inr ⟨_, rfl⟩
theorem plc_eq (x : Option (TL.D × Int)) : dNe (plc x) (plc x) = some (.bl false) := by
  have o : okD 0 (plc x) := by
    rcases plc_ok x with e | ⟨j, e⟩
    · rw [e]; exact okD_non _
    · rw [e]; exact okD_int _ _
  rw [dNe_ok o o (by decide) (by decide), o.eqv_refl]
  rfl
theorem szm {n : Nat} {d : TL.D} (h : Tk n d) : ∀ k : Nat, szD (n + k) d = szD n d
  | 0 => rfl
  | k + 1 => by
    rw [← Nat.add_assoc, szD_succ (h.mono (by omega)), szm h k]
theorem intsOf_map7 : ∀ (l : List Int), intsOf (l.map TL.D.int) = some l
  | [] => rfl
  | x :: r => by simp [intsOf, intsOf_map7 r]
theorem w_size7 : ∀ (n N : Nat) {t : TL.D} (st : Sto), n ≤ 20 → n + 1 ≤ N → Tk n t → TL.run Pg N 2 [t] st = .ok (.int (szD n t : Nat)) st := by
  intro n
  induction n with
  | zero => intro N t st _ _ g; exact g.elim
  | succ n IH =>
    intro N t st h20 hN g
    obtain ⟨N, rfl⟩ : ∃ M, N = M + 1 := ⟨N - 1, by omega⟩
    have go := g.ok.own
    have parts : ∃ ts, TL.run Pg N 0 [t] st = .ok (.tup ts) st ∧ (∀ s ∈ ts, Tk n s) ∧ szD (n + 1) t = 1 + (ts.map (szD n)).sum := by
      rcases g with ⟨a, k, ha, rfl⟩ | ⟨w, ts, hw, h0, hg, rfl⟩ | ⟨b, t, hb, hg, rfl⟩ | ⟨k, t, hg, rfl⟩
      · exact ⟨[], ti_do (by omega) st, fun _ h => (by cases h), by simp [szD]⟩
      · exact ⟨ts, ti_grp (by omega) hw st, hg, szD_grp⟩
      · exact ⟨[t], ti_one (by omega) (.inl rfl) st, fun s hs => (by rw [List.mem_singleton.mp hs]; exact hg), by rw [szD_wo hg]; simp⟩
      · exact ⟨[t], ti_one (by omega) (.inr rfl) st, fun s hs => (by rw [List.mem_singleton.mp hs]; exact hg), by rw [szD_wi]; simp⟩
    obtain ⟨ts, h1, h2, h3⟩ := parts
    rw [run_c (F := c_size) rfl rfl]
    simp [c_size, enter, go, h1]
    rw [lcE_all (g := fun s => .int (szD n s : Nat)) (fun s hs => ⟨_, by simp [(h2 s hs).ok.own]; rfl, by simp, by simp [(h2 s hs).ok.own, IH N st (by omega) (by omega) (h2 s hs)], rfl⟩)]
    have e : o1 .sum (.lst (ts.map fun s => TL.D.int (szD n s : Nat))) = some (.int ((ts.map (szD n)).sum : Nat)) := by
      show (intsOf _).map _ = _
      rw [show (ts.map fun s => TL.D.int (szD n s : Nat)) = (ts.map fun s => ((szD n s : Nat) : Int)).map TL.D.int from by rw [List.map_map]; rfl, intsOf_map7]
      simp only [Option.map]
      congr 2
      clear h1 h2 h3
      induction ts with
      | nil => rfl
      | cons t r ih => simp [ih]
    simp [e, h3]
/-- what this law asks of each part -/
theorem pt_facts {u f : TL.D} (p : Pt u f) : TL.run Pg 89 6 [u] [] = .ok f [] ∧ TL.run Pg 89 6 [f] [] = .ok f [] ∧ TL.run Pg 89 7 [f] [] = .ok (.bl true) [] ∧ TL.run Pg 89 7 [u] [] = .ok (.bl (f.eqv u)) [] ∧ dEq f u = some (.bl (f.eqv u)) ∧ dNe f f = some (.bl false) ∧
    (∃ a b : Nat, TL.run Pg 89 2 [f] [] = .ok (.int a) [] ∧ TL.run Pg 89 2 [u] [] = .ok (.int b) [] ∧ ¬ (b : Int) < (a : Int)) ∧ TL.run Pg 89 17 [u, f] [] = .ok (.bl true) [] := by
  have ku4 := p.du.good.tk
  have ku := ku4.mono (m := 7) (by decide)
  have kf3 := p.df.good.tk
  have kf := kf3.mono (m := 7) (by decide)
  have zu4 : szD 4 u ≤ 256 := Nat.le_trans (dr_sz p.du) (by decide)
  have zu : szD 7 u ≤ 256 := by rw [szm ku4 3]; exact zu4
  have ff : onc 7 f = f := by rw [← p.eq]; exact onc_onc ku
  have zf : szD 7 f ≤ szD 7 u := by
    have := szD_onc ku
    rw [p.eq] at this
    exact this
  have h1 := w_short (N := 89) (n := 7) (by decide) (by decide) [] ku (by omega) (onc_onc ku)
  have h2 := w_short (N := 89) (n := 7) (by decide) (by decide) [] kf (by omega) (onc_onc kf)
  have h3 := w_is_short (N := 89) (n := 7) (by decide) (by decide) [] kf (by omega)
  have h4 := w_is_short (N := 89) (n := 7) (by decide) (by decide) [] ku (by omega)
  rw [p.eq] at h1 h4
  rw [ff] at h2 h3
  rw [kf.refl] at h3
  have dn := dNe_ok kf.ok kf.ok (by decide) (by decide)
  rw [kf.refl] at dn
  refine ⟨h1, h2, h3, h4, dEq_ok kf.ok ku.ok (by decide) (by decide), dn, ⟨szD 7 f, szD 7 u, w_size7 7 89 [] (by decide) (by decide) kf, w_size7 7 89 [] (by decide) (by decide) ku, by omega⟩, ?_⟩
  have df4 := p.df.succ
  have few : (sts 4 u).length * (sts 4 f).length ≤ 900000 := by
    rw [sts_succ p.df.good]
    exact Nat.le_trans (Nat.mul_le_mul p.fu p.ff) (by decide)
  obtain ⟨r, fr, er⟩ := w_alike2 (N := 89) (by decide) p.du df4 few (by decide) []
  have e4 : onc 4 u = f := by rw [← onc7 ku4 (by decide), p.eq]
  obtain ⟨g1, ev, _⟩ := onc_ev p.du.good (by omega)
  rw [e4] at g1 ev
  cases r with
  | none => exact er
  | some q =>
    have okq : ∀ a ∈ q, PyData.strOk a = true := fun a ha => two_ok p.du df4 a (fr.2.1 a ha)
    obtain ⟨x, y, rx, ry, ne, iv, t1, t2⟩ := hits_tols 0 okq p.du.good df4.good fr.1
    have e := ev q 0 okq
    cases hd : decI 4 u q 0 with
    | some z =>
      obtain ⟨o, pp⟩ := z
      rw [hd] at e
      have a1 := tol_some (i := 0) hd
      have a2 := tol_some (i := 0) e
      rw [t1] at a1
      rw [t2] at a2
      simp only [TL.D.tup.injEq, List.cons.injEq] at a1 a2
      rw [a1.1, a2.1] at ne
      have ho := (decI_bd okq p.du.good hd).2.2
      rcases ho with rfl | rfl <;> simp [eqv_str] at ne
    | none =>
      rw [hd] at e
      obtain ⟨l1, u1, a1⟩ := tol_none (i := 0) hd
      obtain ⟨l2, u2, a2⟩ := tol_none (i := 0) e
      rw [t1] at a1
      rw [t2] at a2
      simp only [TL.D.tup.injEq, List.cons.injEq] at a1 a2
      have i1 := (u1.good okq p.du.good).isS
      have i2 := (u2.good okq df4.good).isS
      rw [← a1.1] at i1
      rw [← a2.1] at i2
      rw [i1, i2] at iv
      simp at iv
theorem sh7 {t : TL.D} (h : Tk 7 t) (hs : szD 7 t ≤ 50000) : TL.run Pg 89 6 [t] [] = .ok (onc 7 t) [] := w_short (N := 89) (n := 7) (by decide) (by decide) [] h hs (onc_onc h)
theorem tkg {n : Nat} {w : String} (hw : w = "all" ∨ w = "any" ∨ w = "then") {ts : List TL.D} (h0 : ts ≠ []) (h : ∀ t ∈ ts, Tk n t) : Tk (n + 1) (.tup [.str w, .tup ts]) := .inr (.inl ⟨w, ts, hw, h0, h, rfl⟩)
theorem onc_grp {n : Nat} {w : Str} {ts : List TL.D} : onc (n + 1) (.tup [.str w, .tup ts]) = grp w (un w (flatD w (ts.map (onc n)))) := by simp only [onc]
/-- what this law asks of a word -/
theorem word_facts {u1 u2 u3 f1 f2 f3 : TL.D} (p1 : Pt u1 f1) (p2 : Pt u2 f2) (p3 : Pt u3 f3) {w : String} (hw : w = "all" ∨ w = "any" ∨ w = "then") {as : List Str} (ok : ∀ a ∈ as, PyData.strOk a = true) :
    ∃ made twice d1 d2 pl : TL.D, TL.run Pg 89 6 [.tup [.str w, .tup [u1, u2, u3]]] [] = .ok made [] ∧ TL.run Pg 89 6 [.tup [.str w, .tup [f1, f2, f3]]] [] = .ok made [] ∧ TL.run Pg 89 6 [.tup [.str w, .tup [made]]] [] = .ok made [] ∧
      TL.run Pg 89 6 [.tup [.str w, .tup [.tup [.str w, .tup [u1, u2]], u3]]] [] = .ok made [] ∧ TL.run Pg 89 6 [.tup [.str w, .tup [u1, .tup [.str w, .tup [u2, u3]]]]] [] = .ok made [] ∧
      TL.run Pg 89 13 [made, .tup (as.map .str)] [] = .ok (.tup [d1, pl]) [] ∧ TL.run Pg 89 13 [.tup [.str w, .tup [u1, u2, u3]], .tup (as.map .str)] [] = .ok (.tup [d2, pl]) [] ∧ TL.run Pg 89 6 [.tup [.str w, .tup [u1, u1]]] [] = .ok twice [] ∧
      (w ≠ "then" → dNe twice f1 = some (.bl false)) ∧ (w = "then" → ∃ a b : Nat, TL.run Pg 89 2 [twice] [] = .ok (.int a) [] ∧ TL.run Pg 89 2 [f1] [] = .ok (.int b) [] ∧ ¬ (a : Int) < (b : Int)) ∧
      dNe made made = some (.bl false) ∧ dNe pl pl = some (.bl false) ∧ made.own = false ∧ twice.own = false ∧ pl.own = false := by
  have k1 := p1.du.good.tk
  have k2 := p2.du.good.tk
  have k3 := p3.du.good.tk
  have z1 : szD 4 u1 ≤ 256 := Nat.le_trans (dr_sz p1.du) (by decide)
  have z2 : szD 4 u2 ≤ 256 := Nat.le_trans (dr_sz p2.du) (by decide)
  have z3 : szD 4 u3 ≤ 256 := Nat.le_trans (dr_sz p3.du) (by decide)
  have zk : ∀ {u : TL.D} (k : Tk 4 u) (j : Nat), 4 ≤ j → szD j u = szD 4 u := fun {u} k j hj => by
    have := szm k (j - 4)
    rw [show 4 + (j - 4) = j from by omega] at this
    exact this
  have g5 : Dr 2 5 (.tup [.str w, .tup [u1, u2, u3]]) := three_dr hw p1.du p2.du p3.du
  have kw := g5.good.tk
  have kw7 := kw.mono (m := 7) (by decide)
  have s5 : szD 5 (.tup [.str w, .tup [u1, u2, u3]]) ≤ 800 := by
    rw [szD_grp]
    simp
    omega
  have o7 : onc 7 (.tup [.str w, .tup [u1, u2, u3]]) = onc 5 (.tup [.str w, .tup [u1, u2, u3]]) := onc7 kw (by decide)
  have s7 : szD 7 (.tup [.str w, .tup [u1, u2, u3]]) ≤ 800 := by rw [szm kw 2]; exact s5
  have e12 : Tk 6 (.tup [.str w, .tup [.tup [.str w, .tup [u1, u2]], u3]]) := tkg hw (by simp) (mem2 (tkg hw (by simp) (mem2 k1 k2)) k3.succ)
  have e23 : Tk 6 (.tup [.str w, .tup [u1, .tup [.str w, .tup [u2, u3]]]]) := tkg hw (by simp) (mem2 k1.succ (tkg hw (by simp) (mem2 k2 k3)))
  have kf1 := p1.df.good.tk
  have kf2 := p2.df.good.tk
  have kf3 := p3.df.good.tk
  have kff : Tk 4 (.tup [.str w, .tup [f1, f2, f3]]) := tkg hw (by simp) (mem3 kf1 kf2 kf3)
  have zf : ∀ {u f : TL.D}, Pt u f → szD 3 f ≤ 256 := fun {u f} p => by
    have := szD_onc (p.du.good.tk)
    rw [show onc 4 u = f from by rw [← onc7 p.du.good.tk (by decide), p.eq]] at this
    have a : szD 4 f = szD 3 f := szD_succ p.df.good.tk
    have b : szD 4 u ≤ 256 := Nat.le_trans (dr_sz p.du) (by decide)
    omega
  have on6 : ∀ {u f : TL.D}, Pt u f → onc 6 u = f ∧ onc 6 f = f := fun {u f} p => by
    have a := onc_mono p.du.good.tk 2
    have b := onc_mono p.du.good.tk 3
    have e : onc 6 u = f := by rw [show (6 : Nat) = 4 + 2 from rfl, a, ← b]; exact p.eq
    refine ⟨e, ?_⟩
    rw [← e]
    exact onc_onc (p.du.good.tk.mono (by decide))
  have E1 : onc 7 (.tup [.str w, .tup [f1, f2, f3]]) = onc 7 (.tup [.str w, .tup [u1, u2, u3]]) := by
    rw [onc_grp, onc_grp]
    simp only [List.map_cons, List.map_nil, (on6 p1).1, (on6 p1).2, (on6 p2).1, (on6 p2).2, (on6 p3).1, (on6 p3).2]
  have kmade : Tk 5 (onc 7 (.tup [.str w, .tup [u1, u2, u3]])) := by rw [o7]; exact (onc_nf kw).tk
  have kmw : Tk 6 (.tup [.str w, .tup [onc 7 (.tup [.str w, .tup [u1, u2, u3]])]]) := tkg hw (by simp) fun t ht => by rw [List.mem_singleton.mp ht]; exact kmade
  have zmade : szD 7 (onc 7 (.tup [.str w, .tup [u1, u2, u3]])) ≤ 800 := Nat.le_trans (szD_onc kw7) s7
  have zmade5 : szD 5 (onc 7 (.tup [.str w, .tup [u1, u2, u3]])) ≤ 800 := by rw [← szm kmade 2]; exact zmade
  have E2 : onc 7 (.tup [.str w, .tup [onc 7 (.tup [.str w, .tup [u1, u2, u3]])]]) = onc 7 (.tup [.str w, .tup [u1, u2, u3]]) := by
    rw [← (Stp.one w _ hw).onc (kmw.mono (by decide)), onc_onc kw7]
  have E3 : onc 7 (.tup [.str w, .tup [.tup [.str w, .tup [u1, u2]], u3]]) = onc 7 (.tup [.str w, .tup [u1, u2, u3]]) := ((Stp.spl w [] [u1, u2] [u3] hw).onc (e12.mono (by decide))).symm
  have E4 : onc 7 (.tup [.str w, .tup [u1, .tup [.str w, .tup [u2, u3]]]]) = onc 7 (.tup [.str w, .tup [u1, u2, u3]]) := ((Stp.spl w [u1] [u2, u3] [] hw).onc (e23.mono (by decide))).symm
  have kt : Tk 5 (.tup [.str w, .tup [u1, u1]]) := tkg hw (by simp) (mem2 k1 k1)
  have zt : szD 5 (.tup [.str w, .tup [u1, u1]]) ≤ 800 := by rw [szD_grp]; simp; omega
  have w1 := sh7 kw7 (by omega)
  have w2 := sh7 (kff.mono (by decide)) (by
    rw [szm kff 3, szD_grp]
    have a := zf p1
    have b := zf p2
    have c := zf p3
    simp
    omega)
  have w3 := sh7 (kmw.mono (by decide)) (by
    rw [szm kmw 1, szD_grp]
    simp
    omega)
  have w4 := sh7 (e12.mono (by decide)) (by
    rw [szm e12 1, szD_grp]
    have a := zk k3 5 (by decide)
    simp only [List.map_cons, List.map_nil, List.sum_cons, List.sum_nil, szD_grp]
    omega)
  have w5 := sh7 (e23.mono (by decide)) (by
    rw [szm e23 1, szD_grp]
    have a := zk k1 5 (by decide)
    simp only [List.map_cons, List.map_nil, List.sum_cons, List.sum_nil, szD_grp]
    omega)
  have w6 := sh7 (kt.mono (by decide)) (by rw [szm kt 2]; omega)
  rw [E1] at w2
  rw [E2] at w3
  rw [E3] at w4
  rw [E4] at w5
  obtain ⟨gm, ev, _⟩ := onc_ev g5.good (by omega)
  rw [← o7] at gm ev
  obtain ⟨d1, t1, _, _, _⟩ := tol_plc ok gm
  obtain ⟨d2, t2, _, _, _⟩ := tol_plc ok g5.good
  rw [ev as 0 ok] at t1
  have v1 := w_told (N := 89) (n := 5) (by decide) (by decide) (st := []) (as := as) ok gm
  have v2 := w_told (N := 89) (n := 5) (by decide) (by decide) (st := []) (as := as) ok g5.good
  rw [t1] at v1
  rw [t2] at v2
  have dm := dNe_ok kmade.ok kmade.ok (by decide) (by decide)
  rw [kmade.refl] at dm
  have ktw : Tk 5 (onc 7 (.tup [.str w, .tup [u1, u1]])) := by rw [onc7 kt (by decide)]; exact (onc_nf kt).tk
  refine ⟨_, _, d1, d2, _, w1, w2, w3, w4, w5, v1, v2, w6, fun hn => ?_, fun hn => ?_, dm, plc_eq _, kmade.ok.own, ktw.ok.own, ?_⟩
  · have hw' : w = "all" ∨ w = "any" := by rcases hw with h | h | h; exact .inl h; exact .inr h; exact (hn h).elim
    have a := (Stp.dup w u1 [u1] [] hw' (by simp)).onc (kt.mono (m := 7) (by decide))
    have b := (Stp.one w u1 hw).onc (n := 7) (tkg (n := 6) hw (by simp) fun t ht => by rw [List.mem_singleton.mp ht]; exact k1.mono (by decide))
    have a : onc 7 (.tup [.str w, .tup [u1]]) = onc 7 (.tup [.str w, .tup [u1, u1]]) := a
    rw [← a, ← b, p1.eq]
    have dn := dNe_ok kf1.ok kf1.ok (by decide) (by decide)
    rw [kf1.refl] at dn
    exact dn
  · subst hn
    refine ⟨_, _, w_size7 7 89 [] (by decide) (by decide) (ktw.mono (by decide)), w_size7 7 89 [] (by decide) (by decide) (kf1.mono (by decide)), ?_⟩
    have nf : Nf 6 f1 := by rw [← (on6 p1).1]; exact onc_nf (k1.mono (by decide))
    have e : onc 7 (.tup [.str "then", .tup [u1, u1]]) = grp "then" (flat1 "then" f1 ++ flat1 "then" f1) := by
      rw [onc_grp]
      simp only [List.map_cons, List.map_nil, (on6 p1).1, flatD_cons]
      rw [show flatD (Str.ofString "then") [] = [] from rfl, List.append_nil]
      unfold un
      rw [if_pos rfl]
    rw [e]
    have kf7 : szD 7 f1 = szD 6 f1 := szD_succ (kf1.mono (by decide))
    have ne := flat1_ne (w := "then") nf
    have two : grp "then" (flat1 "then" f1 ++ flat1 "then" f1) = .tup [.str "then", .tup (flat1 "then" f1 ++ flat1 "then" f1)] := by
      match flat1 (Str.ofString "then") f1, ne with
      | [x], _ => rfl
      | _ :: _ :: _, _ => rfl
    rw [two, szD_grp, kf7]
    have le : szD 6 f1 ≤ 1 + ((flat1 (Str.ofString "then") f1).map (szD 6)).sum := by
      unfold flat1
      split
      · next w' qs =>
        split
        · next hww =>
          subst hww
          rw [szD_grp]
          have : (qs.map (szD 5)) = qs.map (szD 6) := List.map_congr_left fun q hq => by
            have hk := (Tk.grpI (n := 5) (w := "then") nf.tk).2.2 q hq
            exact (szD_succ hk).symm
          rw [this]
          omega
        · simp
      · simp
    simp
    omega
  · rcases plc_ok (decI 5 (.tup [.str w, .tup [u1, u2, u3]]) as 0) with e | ⟨_, e⟩ <;> rw [e] <;> rfl
theorem words_go {u1 u2 u3 f1 f2 f3 : TL.D} (p1 : Pt u1 f1) (p2 : Pt u2 f2) (p3 : Pt u3 f3) {as : List Str} (ok : ∀ a ∈ as, PyData.strOk a = true) {sc a8 a9 : Option TL.D} (body : List S)
    (hb : body = [.set 10 (.call 6 [.tup [.var 4, .var 1]]), .ifs (.or [.o2 .ne (.call 6 [.tup [.var 4, .var 2]]) (.var 10), .o2 .ne (.call 6 [.tup [.var 4, .tup [.var 10]]]) (.var 10)]) [.ret (.con (.bl false))] [], .ifs (.or [.o2 .ne (.call 6 [.tup [.var 4, .tup [.tup [.var 4, .tup [.var 5, .var 6]], .var 7]]]) (.var 10), .o2 .ne (.call 6 [.tup [.var 4, .tup [.var 5, .tup [.var 4, .tup [.var 6, .var 7]]]]]) (.var 10)]) [.ret (.con (.bl false))] [], .ifs (.o2 .ne (.o2 .ix (.call 13 [.var 10, .var 3]) (.con (.int 1))) (.o2 .ix (.call 13 [.tup [.var 4, .var 1], .var 3]) (.con (.int 1)))) [.ret (.con (.bl false))] [], .set 11 (.call 6 [.tup [.var 4, .tup [.var 5, .var 5]]]), .ifs (.and [.o2 .ne (.var 4) (.con (.str "then")), .o2 .ne (.var 11) (.o2 .ix (.var 2) (.con (.int 0)))]) [.ret (.con (.bl false))] [], .ifs (.and [.o2 .eq (.var 4) (.con (.str "then")), .o2 .lt (.call 2 [.var 11]) (.call 2 [.o2 .ix (.var 2) (.con (.int 0))])]) [.ret (.con (.bl false))] []]) :
    ∀ (ws : List String) (x4 x10 x11 : Option TL.D), (∀ w ∈ ws, w = "all" ∨ w = "any" ∨ w = "then") → ∃ y4 y10 y11, forE (TL.run Pg 89) (.nm 4) body (ws.map fun (w : String) => TL.D.str (w : Str)) [sc, some (.tup [u1, u2, u3]), some (.tup [f1, f2, f3]), some (.tup (as.map .str)), x4, some u1, some u2, some u3, a8, a9, x10, x11] [] = .nx [sc, some (.tup [u1, u2, u3]), some (.tup [f1, f2, f3]), some (.tup (as.map .str)), y4, some u1, some u2, some u3, a8, a9, y10, y11] []
  | [], x4, x10, x11, _ => ⟨x4, x10, x11, rfl⟩
  | w :: ws, x4, x10, x11, h => by
    have hw := h w (List.mem_cons_self ..)
    obtain ⟨made, twice, d1, d2, pl, w1, w2, w3, w4, w5, v1, v2, w6, nt, it, dm, dp, mo, tw, po⟩ := word_facts p1 p2 p3 hw ok
    obtain ⟨y4, y10, y11, e⟩ := words_go p1 p2 p3 ok (sc := sc) (a8 := a8) (a9 := a9) body hb ws (some (.str w)) (some made) (some twice) fun v hv => h v (List.mem_cons_of_mem _ hv)
    refine ⟨y4, y10, y11, ?_⟩
    rw [← e]
    have o1' := p1.du.good.ok.own
    have o2' := p2.du.good.ok.own
    have o3' := p3.du.good.ok.own
    rw [List.map_cons, forE_cons (ρ1 := [sc, some (.tup [u1, u2, u3]), some (.tup [f1, f2, f3]), some (.tup (as.map .str)), some (.str w), some u1, some u2, some u3, a8, a9, x10, x11]) (by simp)]
    have bd : execs (TL.run Pg 89) body [sc, some (.tup [u1, u2, u3]), some (.tup [f1, f2, f3]), some (.tup (as.map .str)), some (.str w), some u1, some u2, some u3, a8, a9, x10, x11] [] = .nx [sc, some (.tup [u1, u2, u3]), some (.tup [f1, f2, f3]), some (.tup (as.map .str)), some (.str w), some u1, some u2, some u3, a8, a9, some made, some twice] [] := by
      subst hb
      by_cases ht : w = "then"
      · obtain ⟨a, b, s1, s2, s3⟩ := it ht
        subst ht
        have s3 : ¬ a < b := by omega
        simp [w1, w2, w3, w4, w5, v1, v2, w6, dm, dp, mo, tw, po, o1', o2', o3', dEqs, dNes, s1, s2, s3]
      · have n1 := nt ht
        simp [w1, w2, w3, w4, w5, v1, v2, w6, dm, dp, mo, tw, po, o1', o2', o3', dEqs, dNes, ht, n1]
    rw [bd, seq_nx]
theorem law_holds : ∀ ns : List Int, ns.length ≤ 63 → ∃ st', TL.run (Ts.map (·.code)) lawN 25 [.fls (ns.map .int)] [] = .ok (.bl true) st' := by
  intro ns hl
  refine ⟨[], ?_⟩
  show TL.run Pg 90 25 _ _ = _
  rw [run_c (n := 89) (F := c_law) rfl rfl]
  have m9 := w__law_mixed (N := 89) (by decide) ns 9 []
  obtain ⟨as, ok, hal, wd⟩ := w__law_deeds (N := 89) (by decide) (mixZ ns 9) 12 (by decide) []
  obtain ⟨ts, et, lt, ht⟩ := lcE_ex (C := TL.run Pg 89) (st := []) (P := fun u => ∃ f, Pt u f) (ρ := enter c_law [.fls (ns.map .int)]) (tg := .nm 8) (own := [8]) (cond := []) (elt := .call 23 [.call 21 [.call 19 [.var 0, .var 8], .con (.int 2), .con (.int 2)], .call 19 [.var 0, .o2 .add (.con (.int 5)) (.var 8)]])
    (xs := (List.range 3).map fun (i : Nat) => .int (i : Int)) (fun x hx => by
      obtain ⟨i, _, rfl⟩ := List.mem_map.mp hx
      have m := w__law_mixed (N := 89) (by decide) ns i []
      have m5 := w__law_mixed (N := 89) (by decide) ns (5 + i) []
      obtain ⟨t, g, wt⟩ := w__law_task' 1 89 (mixZ ns i) 2 [] (by decide) (by decide) (by omega)
      obtain ⟨u, f, p, wo⟩ := w__law_other (N := 89) (by decide) g (mixZ ns (5 + i)) []
      have cc : ((5 + i : Nat) : Int) = 5 + (i : Int) := by omega
      rw [cc] at m5
      refine ⟨(enter c_law [.fls (ns.map .int)]).set 8 (some (.int i)), u, by simp [enter, c_law], by simp, ?_, p.du.good.ok.own, f, p⟩
      simp at wt
      simp [enter, c_law, m, m5, wt, wo])
  rw [List.length_map, List.length_range] at lt
  match ts, lt with
  | [u1, u2, u3], _ =>
  obtain ⟨f1, p1⟩ := ht u1 (by simp)
  obtain ⟨f2, p2⟩ := ht u2 (by simp)
  obtain ⟨f3, p3⟩ := ht u3 (by simp)
  have o1' := p1.du.good.ok.own
  have o2' := p2.du.good.ok.own
  have o3' := p3.du.good.ok.own
  have q1 := p1.df.good.ok.own
  have q2 := p2.df.good.ok.own
  have q3 := p3.df.good.ok.own
  obtain ⟨a1, b1, c1, e1, g1, h1, ⟨x1, y1, i1, j1, k1⟩, l1⟩ := pt_facts p1
  obtain ⟨a2, b2, c2, e2, g2, h2, ⟨x2, y2, i2, j2, k2⟩, l2⟩ := pt_facts p2
  obtain ⟨a3, b3, c3, e3, g3, h3, ⟨x3, y3, i3, j3, k3⟩, l3⟩ := pt_facts p3
  have k1 : ¬ y1 < x1 := by omega
  have k2 : ¬ y2 < x2 := by omega
  have k3 : ¬ y3 < x3 := by omega
  have rg := itRng (k := 3) (by decide) (by decide)
  have rg : items .rng [.int 3] = some ((List.range 3).map fun (i : Nat) => .int (i : Int)) := rg
  have ib : o2 .isNotB (.bl true) (.bl true) = some (.bl false) := rfl
  have dnb : ∀ a : Bool, dNe (.bl a) (.bl a) = some (.bl false) := fun a => by cases a <;> rfl
  have lc := lcE_all (C := TL.run Pg 89) (st := []) (ρ := [some (.fls (ns.map .int)), some (.tup [u1, u2, u3]), none, none, none, some u1, some u2, some u3, none, none, none, none]) (tg := .nm 9) (own := [9]) (elt := .call 6 [.var 9]) (cond := [])
    (xs := [u1, u2, u3]) (g := onc 7) (fun x hx => by
      have key : ∀ {u f : TL.D}, Pt u f → TL.run Pg 89 6 [u] [] = .ok f [] → ∃ ρ' , bindT (.nm 9) u (wipeE [some (.fls (ns.map .int)), some (.tup [u1, u2, u3]), none, none, none, some u1, some u2, some u3, none, none, none, none] [9]) = some ρ' ∧ evAnd1 (TL.run Pg 89) [] ρ' [] = .ok (.bl true) [] ∧ ev (TL.run Pg 89) (.call 6 [.var 9]) ρ' [] = .ok (onc 7 u) [] ∧ (onc 7 u).own = false := fun {u f} p r => by
        have uo := p.du.good.ok.own
        have fo := p.df.good.ok.own
        refine ⟨[some (.fls (ns.map .int)), some (.tup [u1, u2, u3]), none, none, none, some u1, some u2, some u3, none, some u, none, none], by simp [uo], by simp, ?_, by rw [p.eq]; exact fo⟩
        rw [p.eq]
        simp [uo, r]
      simp only [List.mem_cons, List.not_mem_nil, or_false] at hx
      rcases hx with rfl | rfl | rfl
      · exact key p1 a1
      · exact key p2 a2
      · exact key p3 a3)
  simp only [List.map_cons, List.map_nil, p1.eq, p2.eq, p3.eq] at lc
  obtain ⟨y4, y10, y11, wg⟩ := words_go p1 p2 p3 ok (sc := some (.fls (ns.map .int))) (a8 := some (.int 2)) (a9 := some u3) _ rfl ["all", "any", "then"] none none none (by simp)
  have bs : c_law.body = c_law.body.take 5 ++ (c_law.body.drop 5) := (List.take_append_drop 5 _).symm
  have pre : TL.execs (TL.run Pg 89) (c_law.body.take 5) (enter c_law [.fls (ns.map .int)]) [] = .nx [some (.fls (ns.map .int)), some (.tup [u1, u2, u3]), some (.tup [f1, f2, f3]), some (.tup (as.map .str)), none, some u1, some u2, some u3, some (.int 2), some u3, none, none] [] := by
    simp [enter, c_law] at et
    simp at m9 rg wd
    simp [c_law, enter, rg, et, lc, o1', o2', o3', q1, q2, q3, forE_c, forE_nil, k_ForS, b1, b2, b3, h1, h2, h3, c1, c2, c3, ib, i1, i2, i3, j1, j2, j3, k1, k2, k3, e1, e2, e3, g1, g2, g3, dnb, l1, l2, l3, m9, wd]
  rw [bs, execs_app, pre, seq_nx]
  have k1 := p1.du.good.tk
  have kf := p1.df.good.tk
  have u6 : onc 6 u1 = f1 := by
    have a := onc_mono k1 2
    have b := onc_mono k1 3
    rw [show (6 : Nat) = 4 + 2 from rfl, a, ← b]
    exact p1.eq
  have f6 : onc 6 f1 = f1 := by rw [← u6]; exact onc_onc (k1.mono (by decide))
  have zu : szD 4 u1 ≤ 256 := Nat.le_trans (dr_sz p1.du) (by decide)
  have zu6 : szD 6 u1 = szD 4 u1 := szm k1 2
  have zu5 : szD 5 u1 = szD 4 u1 := szm k1 1
  have zf : szD 6 f1 ≤ 256 := by
    have := szD_onc (k1.mono (m := 6) (by decide))
    rw [u6] at this
    omega
  have sa : PyData.strOk ("a" : Str) = true := strOk_of _
  have kw1 : Tk 7 (.tup [.str "without", .str "a", u1]) := .inr (.inr (.inl ⟨"a", u1, sa, k1.mono (by decide), rfl⟩))
  have kw2 : Tk 7 (.tup [.str "without", .str "a", f1]) := .inr (.inr (.inl ⟨"a", f1, sa, kf.mono (by decide), rfl⟩))
  have kw3 : Tk 7 (.tup [.str "without", .str "a", .tup [.str "without", .str "a", u1]]) := .inr (.inr (.inl ⟨"a", _, sa, .inr (.inr (.inl ⟨"a", u1, sa, k1.mono (by decide), rfl⟩)), rfl⟩))
  have kw4 : Tk 7 (.tup [.str "within", .int 3, .tup [.str "within", .int 7, u1]]) := .inr (.inr (.inr ⟨3, _, .inr (.inr (.inr ⟨7, u1, k1.mono (by decide), rfl⟩)), rfl⟩))
  have kw5 : Tk 7 (.tup [.str "within", .int 3, f1]) := .inr (.inr (.inr ⟨3, f1, kf.mono (by decide), rfl⟩))
  have kw6 : Tk 7 (.tup [.str "within", .int 3, u1]) := .inr (.inr (.inr ⟨3, u1, k1.mono (by decide), rfl⟩))
  have kw7 : Tk 7 (.tup [.str "do", .str "a", .int 2]) := .inl ⟨"a", 2, sa, rfl⟩
  have E1 : onc 7 (.tup [.str "without", .str "a", f1]) = onc 7 (.tup [.str "without", .str "a", u1]) := by
    obtain ⟨ds, e⟩ := k1.isT
    obtain ⟨fs, e'⟩ := kf.isT
    subst e e'
    simp only [onc, u6, f6]
  have E2 : onc 7 (.tup [.str "without", .str "a", .tup [.str "without", .str "a", u1]]) = onc 7 (.tup [.str "without", .str "a", u1]) := ((Stp.wow "a" u1).onc kw3).symm
  have E3 : onc 7 (.tup [.str "within", .int 3, .tup [.str "within", .int 7, u1]]) = onc 7 (.tup [.str "within", .int 3, f1]) := by
    rw [← (Stp.wiw 3 7 u1).onc kw4]
    show onc 7 (.tup [.str "within", .int 3, u1]) = _
    simp only [onc, u6, f6]
  have E4 : onc 7 (.tup [.str "do", .str "a", .int 2]) = .tup [.str "do", .str "a", .int 2] := by simp only [onc]
  have t1 := sh7 kw1 (by rw [szD_wo (k1.mono (by decide))]; omega)
  have t2 := sh7 kw2 (by rw [szD_wo (kf.mono (by decide))]; omega)
  have t3 := sh7 kw3 (by rw [szD_wo (show Tk 6 (.tup [.str "without", .str "a", u1]) from .inr (.inr (.inl ⟨"a", u1, sa, k1.mono (by decide), rfl⟩))), szD_wo (k1.mono (by decide))]; omega)
  have t4 := sh7 kw4 (by rw [szD_wi, szD_wi]; omega)
  have t5 := sh7 kw5 (by rw [szD_wi]; omega)
  have t6 := sh7 kw7 (by simp [szD])
  rw [E1] at t2
  rw [E2] at t3
  rw [E3] at t4
  rw [E4] at t6
  have nn : ∀ {t : TL.D}, Tk 7 t → dNe (onc 7 t) (onc 7 t) = some (.bl false) ∧ (onc 7 t).own = false := fun {t} k => by
    have kk := (onc_nf k).tk
    have := dNe_ok kk.ok kk.ok (by decide) (by decide)
    rw [kk.refl] at this
    exact ⟨this, kk.ok.own⟩
  obtain ⟨n1, _⟩ := nn kw1
  obtain ⟨n2, _⟩ := nn kw5
  have ed := dEq_ok kw7.ok kw7.ok (by decide) (by decide)
  rw [kw7.refl] at ed
  simp only [List.map_cons, List.map_nil] at wg
  simp [c_law, wg, o1', q1, t1, t2, t3, t4, t5, t6, n1, n2, ed]

end TP

namespace TP
open PySem L2 TL
theorem all_mk {l : PySem.W.OpenLaw} {w : World} {K : PySem.W.Frag} {h : Heap} {mg : Str → Option Value} {f0 f1 f2 f3 f4 f5 f6 f7 f8 f9 f10 f11 f12 f13 f14 f15 f16 f17 f18 f19 f20 f21 f22 f23 f24 f25 : Addr} (X : K.In h) (G : h.Ns mainGlobals mg)
  {od0 an0 : Option Addr} {sl0 : Array (Option Value)} {oc0 kV0 dc0 pm0 cd0 ct0 : Value}
  (a0 : PySem.W.nsIn K mainGlobals "tasks_in" = some (some (.ref f0))) (l0 : K.lookup f0 = some ⟨oc0, od0, .func (PySem.W.fnOf "tasks_in" "tasks_in" (defArgs (top 3)) (defBody (top 3)) (defScope (top 3)) .none kV0 dc0 pm0 an0 cd0 ct0), sl0⟩) (c0 : PySem.W.codeIn K cd0 "tasks_in" = true) (k0 : PySem.W.keepIn K (.ref f0) = true)
  {od1 an1 : Option Addr} {sl1 : Array (Option Value)} {oc1 kV1 dc1 pm1 cd1 ct1 : Value}
  (a1 : PySem.W.nsIn K mainGlobals "with_tasks" = some (some (.ref f1))) (l1 : K.lookup f1 = some ⟨oc1, od1, .func (PySem.W.fnOf "with_tasks" "with_tasks" (defArgs (top 4)) (defBody (top 4)) (defScope (top 4)) .none kV1 dc1 pm1 an1 cd1 ct1), sl1⟩) (c1 : PySem.W.codeIn K cd1 "with_tasks" = true) (k1 : PySem.W.keepIn K (.ref f1) = true)
  {od2 an2 : Option Addr} {sl2 : Array (Option Value)} {oc2 kV2 dc2 pm2 cd2 ct2 : Value}
  (a2 : PySem.W.nsIn K mainGlobals "size" = some (some (.ref f2))) (l2 : K.lookup f2 = some ⟨oc2, od2, .func (PySem.W.fnOf "size" "size" (defArgs (top 5)) (defBody (top 5)) (defScope (top 5)) .none kV2 dc2 pm2 an2 cd2 ct2), sl2⟩) (c2 : PySem.W.codeIn K cd2 "size" = true) (k2 : PySem.W.keepIn K (.ref f2) = true)
  {od3 an3 : Option Addr} {sl3 : Array (Option Value)} {oc3 kV3 dc3 pm3 cd3 ct3 : Value}
  (a3 : PySem.W.nsIn K mainGlobals "flat" = some (some (.ref f3))) (l3 : K.lookup f3 = some ⟨oc3, od3, .func (PySem.W.fnOf "flat" "flat" (defArgs (top 7)) (defBody (top 7)) (defScope (top 7)) .none kV3 dc3 pm3 an3 cd3 ct3), sl3⟩) (c3 : PySem.W.codeIn K cd3 "flat" = true) (k3 : PySem.W.keepIn K (.ref f3) = true)
  {od4 an4 : Option Addr} {sl4 : Array (Option Value)} {oc4 kV4 dc4 pm4 cd4 ct4 : Value}
  (a4 : PySem.W.nsIn K mainGlobals "unlike_ones" = some (some (.ref f4))) (l4 : K.lookup f4 = some ⟨oc4, od4, .func (PySem.W.fnOf "unlike_ones" "unlike_ones" (defArgs (top 8)) (defBody (top 8)) (defScope (top 8)) .none kV4 dc4 pm4 an4 cd4 ct4), sl4⟩) (c4 : PySem.W.codeIn K cd4 "unlike_ones" = true) (k4 : PySem.W.keepIn K (.ref f4) = true)
  {od5 an5 : Option Addr} {sl5 : Array (Option Value)} {oc5 kV5 dc5 pm5 cd5 ct5 : Value}
  (a5 : PySem.W.nsIn K mainGlobals "once" = some (some (.ref f5))) (l5 : K.lookup f5 = some ⟨oc5, od5, .func (PySem.W.fnOf "once" "once" (defArgs (top 9)) (defBody (top 9)) (defScope (top 9)) .none kV5 dc5 pm5 an5 cd5 ct5), sl5⟩) (c5 : PySem.W.codeIn K cd5 "once" = true) (k5 : PySem.W.keepIn K (.ref f5) = true)
  {od6 an6 : Option Addr} {sl6 : Array (Option Value)} {oc6 kV6 dc6 pm6 cd6 ct6 : Value}
  (a6 : PySem.W.nsIn K mainGlobals "short" = some (some (.ref f6))) (l6 : K.lookup f6 = some ⟨oc6, od6, .func (PySem.W.fnOf "short" "short" (defArgs (top 10)) (defBody (top 10)) (defScope (top 10)) .none kV6 dc6 pm6 an6 cd6 ct6), sl6⟩) (c6 : PySem.W.codeIn K cd6 "short" = true) (k6 : PySem.W.keepIn K (.ref f6) = true)
  {od7 an7 : Option Addr} {sl7 : Array (Option Value)} {oc7 kV7 dc7 pm7 cd7 ct7 : Value}
  (a7 : PySem.W.nsIn K mainGlobals "is_short" = some (some (.ref f7))) (l7 : K.lookup f7 = some ⟨oc7, od7, .func (PySem.W.fnOf "is_short" "is_short" (defArgs (top 11)) (defBody (top 11)) (defScope (top 11)) .none kV7 dc7 pm7 an7 cd7 ct7), sl7⟩) (c7 : PySem.W.codeIn K cd7 "is_short" = true) (k7 : PySem.W.keepIn K (.ref f7) = true)
  {od8 an8 : Option Addr} {sl8 : Array (Option Value)} {oc8 kV8 dc8 pm8 cd8 ct8 : Value}
  (a8 : PySem.W.nsIn K mainGlobals "is_over" = some (some (.ref f8))) (l8 : K.lookup f8 = some ⟨oc8, od8, .func (PySem.W.fnOf "is_over" "is_over" (defArgs (top 15)) (defBody (top 15)) (defScope (top 15)) .none kV8 dc8 pm8 an8 cd8 ct8), sl8⟩) (c8 : PySem.W.codeIn K cd8 "is_over" = true) (k8 : PySem.W.keepIn K (.ref f8) = true)
  {od9 an9 : Option Addr} {sl9 : Array (Option Value)} {oc9 kV9 dc9 pm9 cd9 ct9 : Value}
  (a9 : PySem.W.nsIn K mainGlobals "grouped" = some (some (.ref f9))) (l9 : K.lookup f9 = some ⟨oc9, od9, .func (PySem.W.fnOf "grouped" "grouped" (defArgs (top 16)) (defBody (top 16)) (defScope (top 16)) .none kV9 dc9 pm9 an9 cd9 ct9), sl9⟩) (c9 : PySem.W.codeIn K cd9 "grouped" = true) (k9 : PySem.W.keepIn K (.ref f9) = true)
  {od10 an10 : Option Addr} {sl10 : Array (Option Value)} {oc10 kV10 dc10 pm10 cd10 ct10 : Value}
  (a10 : PySem.W.nsIn K mainGlobals "group_behind" = some (some (.ref f10))) (l10 : K.lookup f10 = some ⟨oc10, od10, .func (PySem.W.fnOf "group_behind" "group_behind" (defArgs (top 17)) (defBody (top 17)) (defScope (top 17)) .none kV10 dc10 pm10 an10 cd10 ct10), sl10⟩) (c10 : PySem.W.codeIn K cd10 "group_behind" = true) (k10 : PySem.W.keepIn K (.ref f10) = true)
  {od11 an11 : Option Addr} {sl11 : Array (Option Value)} {oc11 kV11 dc11 pm11 cd11 ct11 : Value}
  (a11 : PySem.W.nsIn K mainGlobals "then_behind" = some (some (.ref f11))) (l11 : K.lookup f11 = some ⟨oc11, od11, .func (PySem.W.fnOf "then_behind" "then_behind" (defArgs (top 18)) (defBody (top 18)) (defScope (top 18)) .none kV11 dc11 pm11 an11 cd11 ct11), sl11⟩) (c11 : PySem.W.codeIn K cd11 "then_behind" = true) (k11 : PySem.W.keepIn K (.ref f11) = true)
  {od12 an12 : Option Addr} {sl12 : Array (Option Value)} {oc12 kV12 dc12 pm12 cd12 ct12 : Value}
  (a12 : PySem.W.nsIn K mainGlobals "behind" = some (some (.ref f12))) (l12 : K.lookup f12 = some ⟨oc12, od12, .func (PySem.W.fnOf "behind" "behind" (defArgs (top 19)) (defBody (top 19)) (defScope (top 19)) .none kV12 dc12 pm12 an12 cd12 ct12), sl12⟩) (c12 : PySem.W.codeIn K cd12 "behind" = true) (k12 : PySem.W.keepIn K (.ref f12) = true)
  {od13 an13 : Option Addr} {sl13 : Array (Option Value)} {oc13 kV13 dc13 pm13 cd13 ct13 : Value}
  (a13 : PySem.W.nsIn K mainGlobals "told" = some (some (.ref f13))) (l13 : K.lookup f13 = some ⟨oc13, od13, .func (PySem.W.fnOf "told" "told" (defArgs (top 20)) (defBody (top 20)) (defScope (top 20)) .none kV13 dc13 pm13 an13 cd13 ct13), sl13⟩) (c13 : PySem.W.codeIn K cd13 "told" = true) (k13 : PySem.W.keepIn K (.ref f13) = true)
  {od14 an14 : Option Addr} {sl14 : Array (Option Value)} {oc14 kV14 dc14 pm14 cd14 ct14 : Value}
  (a14 : PySem.W.nsIn K mainGlobals "deeds_of" = some (some (.ref f14))) (l14 : K.lookup f14 = some ⟨oc14, od14, .func (PySem.W.fnOf "deeds_of" "deeds_of" (defArgs (top 22)) (defBody (top 22)) (defScope (top 22)) .none kV14 dc14 pm14 an14 cd14 ct14), sl14⟩) (c14 : PySem.W.codeIn K cd14 "deeds_of" = true) (k14 : PySem.W.keepIn K (.ref f14) = true)
  {od15 an15 : Option Addr} {sl15 : Array (Option Value)} {oc15 kV15 dc15 pm15 cd15 ct15 : Value}
  (a15 : PySem.W.nsIn K mainGlobals "other_deed" = some (some (.ref f15))) (l15 : K.lookup f15 = some ⟨oc15, od15, .func (PySem.W.fnOf "other_deed" "other_deed" (defArgs (top 23)) (defBody (top 23)) (defScope (top 23)) .none kV15 dc15 pm15 an15 cd15 ct15), sl15⟩) (c15 : PySem.W.codeIn K cd15 "other_deed" = true) (k15 : PySem.W.keepIn K (.ref f15) = true)
  {od16 an16 : Option Addr} {sl16 : Array (Option Value)} {oc16 kV16 dc16 pm16 cd16 ct16 : Value}
  (a16 : PySem.W.nsIn K mainGlobals "unlike" = some (some (.ref f16))) (l16 : K.lookup f16 = some ⟨oc16, od16, .func (PySem.W.fnOf "unlike" "unlike" (defArgs (top 25)) (defBody (top 25)) (defScope (top 25)) .none kV16 dc16 pm16 an16 cd16 ct16), sl16⟩) (c16 : PySem.W.codeIn K cd16 "unlike" = true) (k16 : PySem.W.keepIn K (.ref f16) = true)
  {od17 an17 : Option Addr} {sl17 : Array (Option Value)} {oc17 kV17 dc17 pm17 cd17 ct17 : Value}
  (a17 : PySem.W.nsIn K mainGlobals "alike" = some (some (.ref f17))) (l17 : K.lookup f17 = some ⟨oc17, od17, .func (PySem.W.fnOf "alike" "alike" (defArgs (top 26)) (defBody (top 26)) (defScope (top 26)) .none kV17 dc17 pm17 an17 cd17 ct17), sl17⟩) (c17 : PySem.W.codeIn K cd17 "alike" = true) (k17 : PySem.W.keepIn K (.ref f17) = true)
  {od18 an18 : Option Addr} {sl18 : Array (Option Value)} {oc18 kV18 dc18 pm18 cd18 ct18 : Value}
  (a18 : PySem.W.nsIn K mainGlobals "_law_cell_at" = some (some (.ref f18))) (l18 : K.lookup f18 = some ⟨oc18, od18, .func (PySem.W.fnOf "_law_cell_at" "_law_cell_at" (defArgs (top 28)) (defBody (top 28)) (defScope (top 28)) .none kV18 dc18 pm18 an18 cd18 ct18), sl18⟩) (c18 : PySem.W.codeIn K cd18 "_law_cell_at" = true) (k18 : PySem.W.keepIn K (.ref f18) = true)
  {od19 an19 : Option Addr} {sl19 : Array (Option Value)} {oc19 kV19 dc19 pm19 cd19 ct19 : Value}
  (a19 : PySem.W.nsIn K mainGlobals "_law_mixed" = some (some (.ref f19))) (l19 : K.lookup f19 = some ⟨oc19, od19, .func (PySem.W.fnOf "_law_mixed" "_law_mixed" (defArgs (top 29)) (defBody (top 29)) (defScope (top 29)) .none kV19 dc19 pm19 an19 cd19 ct19), sl19⟩) (c19 : PySem.W.codeIn K cd19 "_law_mixed" = true) (k19 : PySem.W.keepIn K (.ref f19) = true)
  {od20 an20 : Option Addr} {sl20 : Array (Option Value)} {oc20 kV20 dc20 pm20 cd20 ct20 : Value}
  (a20 : PySem.W.nsIn K mainGlobals "_law_drawn" = some (some (.ref f20))) (l20 : K.lookup f20 = some ⟨oc20, od20, .func (PySem.W.fnOf "_law_drawn" "_law_drawn" (defArgs (top 30)) (defBody (top 30)) (defScope (top 30)) .none kV20 dc20 pm20 an20 cd20 ct20), sl20⟩) (c20 : PySem.W.codeIn K cd20 "_law_drawn" = true) (k20 : PySem.W.keepIn K (.ref f20) = true)
  {od21 an21 : Option Addr} {sl21 : Array (Option Value)} {oc21 kV21 dc21 pm21 cd21 ct21 : Value}
  (a21 : PySem.W.nsIn K mainGlobals "_law_task" = some (some (.ref f21))) (l21 : K.lookup f21 = some ⟨oc21, od21, .func (PySem.W.fnOf "_law_task" "_law_task" (defArgs (top 31)) (defBody (top 31)) (defScope (top 31)) .none kV21 dc21 pm21 an21 cd21 ct21), sl21⟩) (c21 : PySem.W.codeIn K cd21 "_law_task" = true) (k21 : PySem.W.keepIn K (.ref f21) = true)
  {od22 an22 : Option Addr} {sl22 : Array (Option Value)} {oc22 kV22 dc22 pm22 cd22 ct22 : Value}
  (a22 : PySem.W.nsIn K mainGlobals "_law_deeds" = some (some (.ref f22))) (l22 : K.lookup f22 = some ⟨oc22, od22, .func (PySem.W.fnOf "_law_deeds" "_law_deeds" (defArgs (top 32)) (defBody (top 32)) (defScope (top 32)) .none kV22 dc22 pm22 an22 cd22 ct22), sl22⟩) (c22 : PySem.W.codeIn K cd22 "_law_deeds" = true) (k22 : PySem.W.keepIn K (.ref f22) = true)
  {od23 an23 : Option Addr} {sl23 : Array (Option Value)} {oc23 kV23 dc23 pm23 cd23 ct23 : Value}
  (a23 : PySem.W.nsIn K mainGlobals "_law_other" = some (some (.ref f23))) (l23 : K.lookup f23 = some ⟨oc23, od23, .func (PySem.W.fnOf "_law_other" "_law_other" (defArgs (top 33)) (defBody (top 33)) (defScope (top 33)) .none kV23 dc23 pm23 an23 cd23 ct23), sl23⟩) (c23 : PySem.W.codeIn K cd23 "_law_other" = true) (k23 : PySem.W.keepIn K (.ref f23) = true)
  {od24 an24 : Option Addr} {sl24 : Array (Option Value)} {oc24 kV24 dc24 pm24 cd24 ct24 : Value}
  (a24 : PySem.W.nsIn K mainGlobals "_law_rest" = some (some (.ref f24))) (l24 : K.lookup f24 = some ⟨oc24, od24, .func (PySem.W.fnOf "_law_rest" "_law_rest" (defArgs (top 34)) (defBody (top 34)) (defScope (top 34)) .none kV24 dc24 pm24 an24 cd24 ct24), sl24⟩) (c24 : PySem.W.codeIn K cd24 "_law_rest" = true) (k24 : PySem.W.keepIn K (.ref f24) = true)
  {od25 an25 : Option Addr} {sl25 : Array (Option Value)} {oc25 kV25 dc25 pm25 cd25 ct25 : Value}
  (a25 : PySem.W.nsIn K mainGlobals "law" = some (some (.ref f25))) (l25 : K.lookup f25 = some ⟨oc25, od25, .func (PySem.W.fnOf "law" "law" (defArgs (top 35)) (defBody (top 35)) (defScope (top 35)) .none kV25 dc25 pm25 an25 cd25 ct25), sl25⟩) (c25 : PySem.W.codeIn K cd25 "law" = true) (k25 : PySem.W.keepIn K (.ref f25) = true)
  {tk0 : Tok} (q0 : PySem.W.nsIn K mainGlobals "DONE" = some (some (.str "done" tk0)))
  {tk1 : Tok} (q1 : PySem.W.nsIn K mainGlobals "FAILED" = some (some (.str "failed" tk1)))
  {qa2 : Addr} {qd2 : Option Addr} {qn2 : Nat} {qs2 : Array (Option Value)} {tk2_0 tk2_1 tk2_2 : Tok} (q2 : PySem.W.nsIn K mainGlobals "GROUPS" = some (some (.ref qa2))) (ql2 : K.lookup qa2 = some ⟨.type "tuple", qd2, .seq #[.str "all" tk2_0, .str "any" tk2_1, .str "then" tk2_2] qn2, qs2⟩)
  {tk3 : Tok} (q3 : PySem.W.nsIn K mainGlobals "LETTERS" = some (some (.str "abcdefghijklmnopqrstuvwxyz" tk3)))
  (z0 : PySem.W.nsIn K mainGlobals "enumerate" = some none)
  (z1 : PySem.W.nsIn K mainGlobals "isinstance" = some none)
  (z2 : PySem.W.nsIn K mainGlobals "len" = some none)
  (z3 : PySem.W.nsIn K mainGlobals "list" = some none)
  (z4 : PySem.W.nsIn K mainGlobals "max" = some none)
  (z5 : PySem.W.nsIn K mainGlobals "min" = some none)
  (z6 : PySem.W.nsIn K mainGlobals "range" = some none)
  (z7 : PySem.W.nsIn K mainGlobals "set" = some none)
  (z8 : PySem.W.nsIn K mainGlobals "sorted" = some none)
  (z9 : PySem.W.nsIn K mainGlobals "str" = some none)
  (z10 : PySem.W.nsIn K mainGlobals "sum" = some none)
  (z11 : PySem.W.nsIn K mainGlobals "tuple" = some none)
  : ProgOk K mg Gt Ts where
  fns := rfl
  chk := by
    intro t ht
    rcases List.mem_cons.mp ht with rfl | ht
    · exact TP.k0
    rcases List.mem_cons.mp ht with rfl | ht
    · exact TP.k1
    rcases List.mem_cons.mp ht with rfl | ht
    · exact TP.k2
    rcases List.mem_cons.mp ht with rfl | ht
    · exact TP.k3
    rcases List.mem_cons.mp ht with rfl | ht
    · exact TP.k4
    rcases List.mem_cons.mp ht with rfl | ht
    · exact TP.k5
    rcases List.mem_cons.mp ht with rfl | ht
    · exact TP.k6
    rcases List.mem_cons.mp ht with rfl | ht
    · exact TP.k7
    rcases List.mem_cons.mp ht with rfl | ht
    · exact TP.k8
    rcases List.mem_cons.mp ht with rfl | ht
    · exact TP.k9
    rcases List.mem_cons.mp ht with rfl | ht
    · exact TP.k10
    rcases List.mem_cons.mp ht with rfl | ht
    · exact TP.k11
    rcases List.mem_cons.mp ht with rfl | ht
    · exact TP.k12
    rcases List.mem_cons.mp ht with rfl | ht
    · exact TP.k13
    rcases List.mem_cons.mp ht with rfl | ht
    · exact TP.k14
    rcases List.mem_cons.mp ht with rfl | ht
    · exact TP.k15
    rcases List.mem_cons.mp ht with rfl | ht
    · exact TP.k16
    rcases List.mem_cons.mp ht with rfl | ht
    · exact TP.k17
    rcases List.mem_cons.mp ht with rfl | ht
    · exact TP.k18
    rcases List.mem_cons.mp ht with rfl | ht
    · exact TP.k19
    rcases List.mem_cons.mp ht with rfl | ht
    · exact TP.k20
    rcases List.mem_cons.mp ht with rfl | ht
    · exact TP.k21
    rcases List.mem_cons.mp ht with rfl | ht
    · exact TP.k22
    rcases List.mem_cons.mp ht with rfl | ht
    · exact TP.k23
    rcases List.mem_cons.mp ht with rfl | ht
    · exact TP.k24
    rcases List.mem_cons.mp ht with rfl | ht
    · exact TP.k25
    cases ht
  at_ := by
    intro t ht
    rcases List.mem_cons.mp ht with rfl | ht
    · exact ⟨f0, _, fun_mk (st := top 3) l0 c0 k0, PySem.W.mg_of X G a0, (fun_mk (st := top 3) l0 c0 k0).binds fun _ _ _ _ _ _ us hl => match us, hl with | [_], _ => rfl⟩
    rcases List.mem_cons.mp ht with rfl | ht
    · exact ⟨f1, _, fun_mk (st := top 4) l1 c1 k1, PySem.W.mg_of X G a1, (fun_mk (st := top 4) l1 c1 k1).binds fun _ _ _ _ _ _ us hl => match us, hl with | [_, _], _ => rfl⟩
    rcases List.mem_cons.mp ht with rfl | ht
    · exact ⟨f2, _, fun_mk (st := top 5) l2 c2 k2, PySem.W.mg_of X G a2, (fun_mk (st := top 5) l2 c2 k2).binds fun _ _ _ _ _ _ us hl => match us, hl with | [_], _ => rfl⟩
    rcases List.mem_cons.mp ht with rfl | ht
    · exact ⟨f3, _, fun_mk (st := top 7) l3 c3 k3, PySem.W.mg_of X G a3, (fun_mk (st := top 7) l3 c3 k3).binds fun _ _ _ _ _ _ us hl => match us, hl with | [_, _], _ => rfl⟩
    rcases List.mem_cons.mp ht with rfl | ht
    · exact ⟨f4, _, fun_mk (st := top 8) l4 c4 k4, PySem.W.mg_of X G a4, (fun_mk (st := top 8) l4 c4 k4).binds fun _ _ _ _ _ _ us hl => match us, hl with | [_], _ => rfl⟩
    rcases List.mem_cons.mp ht with rfl | ht
    · exact ⟨f5, _, fun_mk (st := top 9) l5 c5 k5, PySem.W.mg_of X G a5, (fun_mk (st := top 9) l5 c5 k5).binds fun _ _ _ _ _ _ us hl => match us, hl with | [_], _ => rfl⟩
    rcases List.mem_cons.mp ht with rfl | ht
    · exact ⟨f6, _, fun_mk (st := top 10) l6 c6 k6, PySem.W.mg_of X G a6, (fun_mk (st := top 10) l6 c6 k6).binds fun _ _ _ _ _ _ us hl => match us, hl with | [_], _ => rfl⟩
    rcases List.mem_cons.mp ht with rfl | ht
    · exact ⟨f7, _, fun_mk (st := top 11) l7 c7 k7, PySem.W.mg_of X G a7, (fun_mk (st := top 11) l7 c7 k7).binds fun _ _ _ _ _ _ us hl => match us, hl with | [_], _ => rfl⟩
    rcases List.mem_cons.mp ht with rfl | ht
    · exact ⟨f8, _, fun_mk (st := top 15) l8 c8 k8, PySem.W.mg_of X G a8, (fun_mk (st := top 15) l8 c8 k8).binds fun _ _ _ _ _ _ us hl => match us, hl with | [_], _ => rfl⟩
    rcases List.mem_cons.mp ht with rfl | ht
    · exact ⟨f9, _, fun_mk (st := top 16) l9 c9 k9, PySem.W.mg_of X G a9, (fun_mk (st := top 16) l9 c9 k9).binds fun _ _ _ _ _ _ us hl => match us, hl with | [_, _], _ => rfl⟩
    rcases List.mem_cons.mp ht with rfl | ht
    · exact ⟨f10, _, fun_mk (st := top 17) l10 c10 k10, PySem.W.mg_of X G a10, (fun_mk (st := top 17) l10 c10 k10).binds fun _ _ _ _ _ _ us hl => match us, hl with | [_, _], _ => rfl⟩
    rcases List.mem_cons.mp ht with rfl | ht
    · exact ⟨f11, _, fun_mk (st := top 18) l11 c11 k11, PySem.W.mg_of X G a11, (fun_mk (st := top 18) l11 c11 k11).binds fun _ _ _ _ _ _ us hl => match us, hl with | [_, _], _ => rfl⟩
    rcases List.mem_cons.mp ht with rfl | ht
    · exact ⟨f12, _, fun_mk (st := top 19) l12 c12 k12, PySem.W.mg_of X G a12, (fun_mk (st := top 19) l12 c12 k12).binds fun _ _ _ _ _ _ us hl => match us, hl with | [_, _], _ => rfl⟩
    rcases List.mem_cons.mp ht with rfl | ht
    · exact ⟨f13, _, fun_mk (st := top 20) l13 c13 k13, PySem.W.mg_of X G a13, (fun_mk (st := top 20) l13 c13 k13).binds fun _ _ _ _ _ _ us hl => match us, hl with | [_, _], _ => rfl⟩
    rcases List.mem_cons.mp ht with rfl | ht
    · exact ⟨f14, _, fun_mk (st := top 22) l14 c14 k14, PySem.W.mg_of X G a14, (fun_mk (st := top 22) l14 c14 k14).binds fun _ _ _ _ _ _ us hl => match us, hl with | [_], _ => rfl⟩
    rcases List.mem_cons.mp ht with rfl | ht
    · exact ⟨f15, _, fun_mk (st := top 23) l15 c15 k15, PySem.W.mg_of X G a15, (fun_mk (st := top 23) l15 c15 k15).binds fun _ _ _ _ _ _ us hl => match us, hl with | [_], _ => rfl⟩
    rcases List.mem_cons.mp ht with rfl | ht
    · exact ⟨f16, _, fun_mk (st := top 25) l16 c16 k16, PySem.W.mg_of X G a16, (fun_mk (st := top 25) l16 c16 k16).binds fun _ _ _ _ _ _ us hl => match us, hl with | [_, _], _ => rfl⟩
    rcases List.mem_cons.mp ht with rfl | ht
    · exact ⟨f17, _, fun_mk (st := top 26) l17 c17 k17, PySem.W.mg_of X G a17, (fun_mk (st := top 26) l17 c17 k17).binds fun _ _ _ _ _ _ us hl => match us, hl with | [_, _], _ => rfl⟩
    rcases List.mem_cons.mp ht with rfl | ht
    · exact ⟨f18, _, fun_mk (st := top 28) l18 c18 k18, PySem.W.mg_of X G a18, (fun_mk (st := top 28) l18 c18 k18).binds fun _ _ _ _ _ _ us hl => match us, hl with | [_, _], _ => rfl⟩
    rcases List.mem_cons.mp ht with rfl | ht
    · exact ⟨f19, _, fun_mk (st := top 29) l19 c19 k19, PySem.W.mg_of X G a19, (fun_mk (st := top 29) l19 c19 k19).binds fun _ _ _ _ _ _ us hl => match us, hl with | [_, _], _ => rfl⟩
    rcases List.mem_cons.mp ht with rfl | ht
    · exact ⟨f20, _, fun_mk (st := top 30) l20 c20 k20, PySem.W.mg_of X G a20, (fun_mk (st := top 30) l20 c20 k20).binds fun _ _ _ _ _ _ us hl => match us, hl with | [_, _], _ => rfl⟩
    rcases List.mem_cons.mp ht with rfl | ht
    · exact ⟨f21, _, fun_mk (st := top 31) l21 c21 k21, PySem.W.mg_of X G a21, (fun_mk (st := top 31) l21 c21 k21).binds fun _ _ _ _ _ _ us hl => match us, hl with | [_, _, _], _ => rfl⟩
    rcases List.mem_cons.mp ht with rfl | ht
    · exact ⟨f22, _, fun_mk (st := top 32) l22 c22 k22, PySem.W.mg_of X G a22, (fun_mk (st := top 32) l22 c22 k22).binds fun _ _ _ _ _ _ us hl => match us, hl with | [_, _], _ => rfl⟩
    rcases List.mem_cons.mp ht with rfl | ht
    · exact ⟨f23, _, fun_mk (st := top 33) l23 c23 k23, PySem.W.mg_of X G a23, (fun_mk (st := top 33) l23 c23 k23).binds fun _ _ _ _ _ _ us hl => match us, hl with | [_, _], _ => rfl⟩
    rcases List.mem_cons.mp ht with rfl | ht
    · exact ⟨f24, _, fun_mk (st := top 34) l24 c24 k24, PySem.W.mg_of X G a24, (fun_mk (st := top 34) l24 c24 k24).binds fun _ _ _ _ _ _ us hl => match us, hl with | [_], _ => rfl⟩
    rcases List.mem_cons.mp ht with rfl | ht
    · exact ⟨f25, _, fun_mk (st := top 35) l25 c25 k25, PySem.W.mg_of X G a25, (fun_mk (st := top 35) l25 c25 k25).binds fun _ _ _ _ _ _ us hl => match us, hl with | [_], _ => rfl⟩
    cases ht
  cst := by
    intro x d h
    by_cases e0 : x = "DONE"
    · subst e0
      have hd : List.lookup ("DONE" : Str) Gt.consts = some (.str "done" : TL.D) := by rfl
      rw [hd] at h
      cases h
      exact ⟨_, .str "done", PySem.W.mg_of X G q0, ⟨_, rfl⟩, fun _ _ _ => ⟨rfl, by decide +kernel⟩⟩
    by_cases e1 : x = "FAILED"
    · subst e1
      have hd : List.lookup ("FAILED" : Str) Gt.consts = some (.str "failed" : TL.D) := by rfl
      rw [hd] at h
      cases h
      exact ⟨_, .str "failed", PySem.W.mg_of X G q1, ⟨_, rfl⟩, fun _ _ _ => ⟨rfl, by decide +kernel⟩⟩
    by_cases e2 : x = "GROUPS"
    · subst e2
      have hd : List.lookup ("GROUPS" : Str) Gt.consts = some (.tup [.str "all", .str "any", .str "then"] : TL.D) := by rfl
      rw [hd] at h
      cases h
      exact ⟨_, .ref qa2, PySem.W.mg_of X G q2, rfl, fun _ _ _ => ⟨by decide, qa2, [.str "all", .str "any", .str "then"], rfl, .inr ⟨_, _, _, ql2, rfl, rfl, (show 3 ≤ PySem.sizeLine from by decide), .cons ⟨_, rfl⟩ (.cons ⟨_, rfl⟩ (.cons ⟨_, rfl⟩ (.nil)))⟩, ⟨_, _, rfl, ⟨rfl, by decide +kernel⟩, ⟨_, _, rfl, ⟨rfl, by decide +kernel⟩, ⟨_, _, rfl, ⟨rfl, by decide +kernel⟩, rfl⟩⟩⟩⟩⟩
    by_cases e3 : x = "LETTERS"
    · subst e3
      have hd : List.lookup ("LETTERS" : Str) Gt.consts = some (.str "abcdefghijklmnopqrstuvwxyz" : TL.D) := by rfl
      rw [hd] at h
      cases h
      exact ⟨_, .str "abcdefghijklmnopqrstuvwxyz", PySem.W.mg_of X G q3, ⟨_, rfl⟩, fun _ _ _ => ⟨rfl, by decide +kernel⟩⟩
    have hn : Gt.consts.lookup x = none := by
      show List.lookup x ([("DONE", .str "done"), ("FAILED", .str "failed"), ("GROUPS", .tup [.str "all", .str "any", .str "then"]), ("LETTERS", .str "abcdefghijklmnopqrstuvwxyz")] : List (Str × TL.D)) = none
      simp only [List.lookup_cons, List.lookup_nil]
      rw [show (x == ("DONE" : Str)) = false from by simpa using e0]
      rw [show (x == ("FAILED" : Str)) = false from by simpa using e1]
      rw [show (x == ("GROUPS" : Str)) = false from by simpa using e2]
      rw [show (x == ("LETTERS" : Str)) = false from by simpa using e3]
    rw [hn] at h
    cases h
  blt := by
    intro x hx
    rcases List.mem_cons.mp hx with rfl | hx
    · exact PySem.W.mg_none_of X G z0
    rcases List.mem_cons.mp hx with rfl | hx
    · exact PySem.W.mg_none_of X G z1
    rcases List.mem_cons.mp hx with rfl | hx
    · exact PySem.W.mg_none_of X G z2
    rcases List.mem_cons.mp hx with rfl | hx
    · exact PySem.W.mg_none_of X G z3
    rcases List.mem_cons.mp hx with rfl | hx
    · exact PySem.W.mg_none_of X G z4
    rcases List.mem_cons.mp hx with rfl | hx
    · exact PySem.W.mg_none_of X G z5
    rcases List.mem_cons.mp hx with rfl | hx
    · exact PySem.W.mg_none_of X G z6
    rcases List.mem_cons.mp hx with rfl | hx
    · exact PySem.W.mg_none_of X G z7
    rcases List.mem_cons.mp hx with rfl | hx
    · exact PySem.W.mg_none_of X G z8
    rcases List.mem_cons.mp hx with rfl | hx
    · exact PySem.W.mg_none_of X G z9
    rcases List.mem_cons.mp hx with rfl | hx
    · exact PySem.W.mg_none_of X G z10
    rcases List.mem_cons.mp hx with rfl | hx
    · exact PySem.W.mg_none_of X G z11
    cases hx
end TP
open PySem PySem.W PyProof.Rows
set_option maxRecDepth 100000 in
set_option maxHeartbeats 0 in
theorem PySem.Challenge.cw_taletask_k42_whole_short_by_parts_holds : PySem.Challenge.rw_taletask_k42_whole_short_by_parts.Holds := by
  w_on; o_law; k_head; (case hw => w_witness2)
  k_fill
  refine TL.walk (l := PySem.Challenge.rw_taletask_k42_whole_short_by_parts) (G := TP.Gt) (T := TP.Ts) (t := TP.t25) (i := 25) (n := TP.lawN) (x := "_law_script") rfl rfl ⟨rfl, by decide, by decide⟩ (fun w h Y => PySem.W.kIn_of Y) rfl rfl rfl ?F (fun w fa fd Fu s u => by obtain ⟨_, _, _, _, _, _, _, _, _, rfl, _, _⟩ := Fu.ex; exact .of_eq rfl) TP.law_holds
  case F =>
    intro w mg h KX G
    refine' TP.all_mk (l := PySem.Challenge.rw_taletask_k42_whole_short_by_parts) (w := w) KX G ?a0 ?l0 ?c0 ?k0 ?a1 ?l1 ?c1 ?k1 ?a2 ?l2 ?c2 ?k2 ?a3 ?l3 ?c3 ?k3 ?a4 ?l4 ?c4 ?k4 ?a5 ?l5 ?c5 ?k5 ?a6 ?l6 ?c6 ?k6 ?a7 ?l7 ?c7 ?k7 ?a8 ?l8 ?c8 ?k8 ?a9 ?l9 ?c9 ?k9 ?a10 ?l10 ?c10 ?k10 ?a11 ?l11 ?c11 ?k11 ?a12 ?l12 ?c12 ?k12 ?a13 ?l13 ?c13 ?k13 ?a14 ?l14 ?c14 ?k14 ?a15 ?l15 ?c15 ?k15 ?a16 ?l16 ?c16 ?k16 ?a17 ?l17 ?c17 ?k17 ?a18 ?l18 ?c18 ?k18 ?a19 ?l19 ?c19 ?k19 ?a20 ?l20 ?c20 ?k20 ?a21 ?l21 ?c21 ?k21 ?a22 ?l22 ?c22 ?k22 ?a23 ?l23 ?c23 ?k23 ?a24 ?l24 ?c24 ?k24 ?a25 ?l25 ?c25 ?k25 ?q0 ?q1 ?q2 ?ql2 ?q3 ?z0 ?z1 ?z2 ?z3 ?z4 ?z5 ?z6 ?z7 ?z8 ?z9 ?z10 ?z11
    (case a0 => k_is)
    (case l0 => k_is)
    (case c0 => k_is)
    (case k0 => k_is)
    (case a1 => k_is)
    (case l1 => k_is)
    (case c1 => k_is)
    (case k1 => k_is)
    (case a2 => k_is)
    (case l2 => k_is)
    (case c2 => k_is)
    (case k2 => k_is)
    (case a3 => k_is)
    (case l3 => k_is)
    (case c3 => k_is)
    (case k3 => k_is)
    (case a4 => k_is)
    (case l4 => k_is)
    (case c4 => k_is)
    (case k4 => k_is)
    (case a5 => k_is)
    (case l5 => k_is)
    (case c5 => k_is)
    (case k5 => k_is)
    (case a6 => k_is)
    (case l6 => k_is)
    (case c6 => k_is)
    (case k6 => k_is)
    (case a7 => k_is)
    (case l7 => k_is)
    (case c7 => k_is)
    (case k7 => k_is)
    (case a8 => k_is)
    (case l8 => k_is)
    (case c8 => k_is)
    (case k8 => k_is)
    (case a9 => k_is)
    (case l9 => k_is)
    (case c9 => k_is)
    (case k9 => k_is)
    (case a10 => k_is)
    (case l10 => k_is)
    (case c10 => k_is)
    (case k10 => k_is)
    (case a11 => k_is)
    (case l11 => k_is)
    (case c11 => k_is)
    (case k11 => k_is)
    (case a12 => k_is)
    (case l12 => k_is)
    (case c12 => k_is)
    (case k12 => k_is)
    (case a13 => k_is)
    (case l13 => k_is)
    (case c13 => k_is)
    (case k13 => k_is)
    (case a14 => k_is)
    (case l14 => k_is)
    (case c14 => k_is)
    (case k14 => k_is)
    (case a15 => k_is)
    (case l15 => k_is)
    (case c15 => k_is)
    (case k15 => k_is)
    (case a16 => k_is)
    (case l16 => k_is)
    (case c16 => k_is)
    (case k16 => k_is)
    (case a17 => k_is)
    (case l17 => k_is)
    (case c17 => k_is)
    (case k17 => k_is)
    (case a18 => k_is)
    (case l18 => k_is)
    (case c18 => k_is)
    (case k18 => k_is)
    (case a19 => k_is)
    (case l19 => k_is)
    (case c19 => k_is)
    (case k19 => k_is)
    (case a20 => k_is)
    (case l20 => k_is)
    (case c20 => k_is)
    (case k20 => k_is)
    (case a21 => k_is)
    (case l21 => k_is)
    (case c21 => k_is)
    (case k21 => k_is)
    (case a22 => k_is)
    (case l22 => k_is)
    (case c22 => k_is)
    (case k22 => k_is)
    (case a23 => k_is)
    (case l23 => k_is)
    (case c23 => k_is)
    (case k23 => k_is)
    (case a24 => k_is)
    (case l24 => k_is)
    (case c24 => k_is)
    (case k24 => k_is)
    (case a25 => k_is)
    (case l25 => k_is)
    (case c25 => k_is)
    (case k25 => k_is)
    (case q0 => k_is)
    (case q1 => k_is)
    (case q2 => k_is)
    (case ql2 => k_is)
    (case q3 => k_is)
    (case z0 => k_is)
    (case z1 => k_is)
    (case z2 => k_is)
    (case z3 => k_is)
    (case z4 => k_is)
    (case z5 => k_is)
    (case z6 => k_is)
    (case z7 => k_is)
    (case z8 => k_is)
    (case z9 => k_is)
    (case z10 => k_is)
    (case z11 => k_is)

