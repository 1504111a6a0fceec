import PyProof.Rows.All
import Wide.All
import OpenK.AllK
import Wide.FinOn
import HandS.ForMost
import HandS.ForExc
import HandS.Deep
import HandS.TupAny
import HandS.TupMul
import HandS.IsInst
import HandS.TupLe
import KE.GoesMore
import HandS.Iter
import HandS.Style
import PySem.Challenge.RW_taletask_k40_short
set_option Elab.async false
set_option linter.all false
set_option maxRecDepth 100000
namespace TL
open PySem L2

/-- values. lst, dic: lists and dicts that nobody changes any more; fls: a list that is read alone (the script); mlst, mset: a list, a dict of keys, owned by one name -/
inductive D where
  | non | bl (b : Bool) | int (i : Int) | str (x : Str)
  | tup (ds : List D) | lst (ds : List D) | fls (ds : List D) | dic (kvs : List (Str × D))
  | ref (l : Nat) | clo (k : Nat) (ds : List D)
  | mlst (ds : List D) | mset (ks : List D) | mdic (kvs : List (Str × D)) | ins (c : Nat) (fs : List (Str × D))
  deriving Inhabited

/-- owned by a name: no value to be handed on -/
def D.own : D → Bool
  | .mlst _ | .mset _ | .mdic _ | .ins _ _ => true
  | _ => false

mutual
def D.py : D → PyData
  | .non => .none
  | .bl b => .bool b
  | .int i => .int i
  | .str x => .str x
  | .tup ds => .tuple (pys ds)
  | .lst ds => .list (pys ds)
  | .fls ds => .list (pys ds)
  | _ => .dict []
def pys : List D → List PyData
  | [] => []
  | d :: ds => d.py :: pys ds
end
/-- == of two values -/
def D.eqv (d e : D) : Bool := PyData.eqv d.py e.py
/-- plain data, not too deep: what == may be asked of -/
def D.shp (d : D) : Bool := SeqAt.shaped d.py

inductive R (α : Type) where
  | ok (a : α) (st : List D)
  | exc (c : Nat) (st : List D)
  | fail
def R.bind {α β : Type} : R α → (α → List D → R β) → R β
  | .ok a st, f => f a st
  | .exc c st, _ => .exc c st
  | .fail, _ => .fail
def R.lift {α : Type} (st : List D) : Option α → R α
  | some a => .ok a st
  | none => .fail
/-- within a comprehension nothing may be raised -/
def R.quiet {α : Type} : R α → R α
  | .exc _ _ => .fail
  | r => r

abbrev Env := List (Option D)
abbrev Sto := List D
abbrev Cal := Nat → List D → Sto → R D

def cutD {α : Type} (xs : List α) (lo hi : Option Int) : List α := (xs.drop (HT.sIx xs.length 0 lo)).take (HT.sIx xs.length xs.length hi - HT.sIx xs.length 0 lo)
def sign (c : Nat) : D := .str ⟨#[c]⟩

inductive O1 where
  | len | tuple | list | sum | all | int | str | sortedSet | sorted | isStr | isInt | isBool | isTuple | isNone | notNone | rev | max | min
  deriving DecidableEq
inductive O2 where
  | add | sub | mul | div | mod | eq | ne | lt | le | gt | ge | isIn | notIn | ix | max | min | join | split | isB | isNotB
  deriving DecidableEq
inductive IK where
  | tup | lst | fls | str | rng | enumT | enumL
  deriving DecidableEq

def dAdd : D → D → Option D
  | .int i, .int j => some (.int (i + j))
  | .str x, .str y => if x.length + y.length ≤ sizeLine then some (.str (x ++ y)) else none
  | .tup a, .tup b => if a.length + b.length ≤ sizeLine then some (.tup (a ++ b)) else none
  | .lst a, .lst b => if a.length + b.length ≤ sizeLine then some (.lst (a ++ b)) else none
  | _, _ => none
def dSub : D → D → Option D
  | .int i, .int j => some (.int (i - j))
  | _, _ => none
def dMul : D → D → Option D
  | .int i, .int j => if (-(2 ^ 64) < i ∧ i < 2 ^ 64) ∨ (-(2 ^ 64) < j ∧ j < 2 ^ 64) then some (.int (i * j)) else none
  | .lst a, .int k => if 0 ≤ k ∧ k < 2 ^ 63 ∧ a.length * k.toNat ≤ sizeLine then some (.lst (List.replicate k.toNat a).flatten) else none
  | .tup a, .int k => if a ≠ [] ∧ 2 ≤ k ∧ k ≤ 1000 ∧ a.length ≤ 1000 then some (.tup (List.replicate k.toNat a).flatten) else none
  | _, _ => none
def dDiv : D → D → Option D
  | .int i, .int j => if 0 < j ∧ j < 1073741824 then some (.int (i / j)) else none
  | _, _ => none
def dMod : D → D → Option D
  | .int i, .int j => if 0 < j then some (.int (i % j)) else none
  | _, _ => none
def dEq (a b : D) : Option D := if a.shp && b.shp then some (.bl (a.eqv b)) else none
def dNe (a b : D) : Option D := if a.shp && b.shp then some (.bl (!a.eqv b)) else none
def dLt : D → D → Option D
  | .int i, .int j => some (.bl (decide (i < j)))
  | _, _ => none
def dLe : D → D → Option D
  | .int i, .int j => some (.bl (decide (i ≤ j)))
  | .str x, .str y => some (.bl (!decide (y.cps.toList < x.cps.toList)))
  | _, _ => none
def dGt : D → D → Option D
  | .int i, .int j => some (.bl (decide (j < i)))
  | _, _ => none
def dGe : D → D → Option D
  | .int i, .int j => some (.bl (decide (j ≤ i)))
  | _, _ => none
/-- x in y -/
def inD (x : D) : D → Option Bool
  | .str z => match x with
    | .str s => match s.cps.toList with
      | [c] => some (decide (c ∈ z.cps.toList))
      | _ => none
    | _ => none
  | .lst ds => if x.shp && (D.lst ds).shp then some (ds.any fun y => y.eqv x) else none
  | .tup ds => if x.shp && (D.tup ds).shp then some (ds.any fun y => y.eqv x) else none
  | .mlst ds => if x.shp && (D.lst ds).shp then some (ds.any fun y => y.eqv x) else none
  | .mset ks => if x.shp then some (ks.any fun y => y.eqv x) else none
  | _ => none
def dIn (x y : D) : Option D := (inD x y).map .bl
def dNotIn (x y : D) : Option D := (inD x y).map fun b => .bl (!b)
def dIx : D → D → Option D
  | .tup ds, .int i => atI ds i
  | .lst ds, .int i => atI ds i
  | .fls ds, .int i => atI ds i
  | .str x, .int i => (atI x.cps.toList i).map sign
  | _, _ => none
def strsOf : List D → Option (List Str)
  | [] => some []
  | .str x :: ds => (strsOf ds).map (x :: ·)
  | _ :: _ => none
def intsOf : List D → Option (List Int)
  | [] => some []
  | .int x :: ds => (intsOf ds).map (x :: ·)
  | _ :: _ => none
def blsOf : List D → Option (List Bool)
  | [] => some []
  | .bl x :: ds => (blsOf ds).map (x :: ·)
  | _ :: _ => none
/-- a text's order: by its code points -/
def strLe (x y : Str) : Bool := !decide (y.cps.toList < x.cps.toList)
def insS (x : Str) : List Str → List Str
  | [] => [x]
  | y :: r => if strLe x y then x :: y :: r else y :: insS x r
def sortS : List Str → List Str
  | [] => []
  | x :: r => insS x (sortS r)
def dedS : List Str → List Str
  | [] => []
  | x :: r => if x ∈ r then dedS r else x :: dedS r
def maxL : List Int → Int
  | [] => 0
  | [x] => x
  | x :: r => let m := maxL r; if m > x then m else x
def minL : List Int → Int
  | [] => 0
  | [x] => x
  | x :: r => let m := minL r; if m < x then m else x
def o1 : O1 → D → Option D
  | .len, .tup ds => some (.int ds.length)
  | .len, .lst ds => some (.int ds.length)
  | .len, .fls ds => some (.int ds.length)
  | .len, .str x => some (.int x.length)
  | .tuple, .lst ds => some (.tup ds)
  | .tuple, .tup ds => some (.tup ds)
  | .list, .tup ds => some (.lst ds)
  | .list, .lst ds => some (.lst ds)
  | .sum, .lst ds => (intsOf ds).map fun ns => .int ns.sum
  | .all, .lst ds => (blsOf ds).map fun bs => .bl (bs.all id)
  | .int, .int i => some (.int i)
  | .int, .bl b => some (.int (if b then 1 else 0))
  | .str, .int i => if i.natAbs.log2 < 1920 ∧ ((toString i : String) : Str).length ≤ sizeLine then some (.str (toString i : String)) else none
  | .sortedSet, .lst ds => (strsOf ds).bind fun xs => if xs.length < 64 then some (.lst ((sortS (dedS xs)).map .str)) else none
  | .sortedSet, .tup ds => (strsOf ds).bind fun xs => if xs.length < 64 then some (.lst ((sortS (dedS xs)).map .str)) else none
  | .sorted, .lst ds => (strsOf ds).bind fun xs => if xs.length < 64 then some (.lst ((sortS xs).map .str)) else none
  | .isStr, .str _ => some (.bl true)
  | .isStr, .non => some (.bl false)
  | .isStr, .bl _ => some (.bl false)
  | .isStr, .int _ => some (.bl false)
  | .isStr, .tup _ => some (.bl false)
  | .isStr, .lst _ => some (.bl false)
  | .isInt, .str _ => some (.bl false)
  | .isInt, .non => some (.bl false)
  | .isInt, .bl _ => some (.bl true)
  | .isInt, .int _ => some (.bl true)
  | .isInt, .tup _ => some (.bl false)
  | .isInt, .lst _ => some (.bl false)
  | .isBool, .str _ => some (.bl false)
  | .isBool, .non => some (.bl false)
  | .isBool, .bl _ => some (.bl true)
  | .isBool, .int _ => some (.bl false)
  | .isBool, .tup _ => some (.bl false)
  | .isBool, .lst _ => some (.bl false)
  | .isTuple, .str _ => some (.bl false)
  | .isTuple, .non => some (.bl false)
  | .isTuple, .bl _ => some (.bl false)
  | .isTuple, .int _ => some (.bl false)
  | .isTuple, .tup _ => some (.bl true)
  | .isTuple, .lst _ => some (.bl false)
  | .isNone, d => match d with
    | .non => some (.bl true)
    | .mlst _ | .mset _ | .mdic _ | .ins _ _ => none
    | _ => some (.bl false)
  | .notNone, d => match d with
    | .non => some (.bl false)
    | .mlst _ | .mset _ | .mdic _ | .ins _ _ => none
    | _ => some (.bl true)
  | .rev, .tup ds => some (.tup ds.reverse)
  | .max, .lst ds => (intsOf ds).bind fun ns => if ns = [] then none else some (.int (maxL ns))
  | .min, .lst ds => (intsOf ds).bind fun ns => if ns = [] then none else some (.int (minL ns))
  | _, _ => none
def o2 : O2 → D → D → Option D
  | .add, a, b => dAdd a b
  | .sub, a, b => dSub a b
  | .mul, a, b => dMul a b
  | .div, a, b => dDiv a b
  | .mod, a, b => dMod a b
  | .eq, a, b => dEq a b
  | .ne, a, b => dNe a b
  | .lt, a, b => dLt a b
  | .le, a, b => dLe a b
  | .gt, a, b => dGt a b
  | .ge, a, b => dGe a b
  | .isIn, a, b => dIn a b
  | .notIn, a, b => dNotIn a b
  | .ix, a, b => dIx a b
  | .max, .int i, .int j => some (.int (if j > i then j else i))
  | .min, .int i, .int j => some (.int (if j < i then j else i))
  | .join, .str a, .lst ds => (strsOf ds).bind fun ys => if (ys.map (·.length)).sum + ys.length * a.length ≤ 16777216 ∧ (Txt.join a ys).length ≤ sizeLine then some (.str (Txt.join a ys)) else none
  | .split, .str a, .str b => if (b.length == 0) = false ∧ a.length + 2 ≤ sizeLine ∧ (Txt.split a b).length ≤ sizeLine ∧ (Txt.split a b).all (fun x => decide (x.length ≤ sizeLine)) = true then some (.lst ((Txt.split a b).map .str)) else none
  | .isB, .bl a, .bl b => some (.bl (decide (a = b)))
  | .isNotB, .bl a, .bl b => some (.bl (!decide (a = b)))
  | _, _, _ => none
/-- t[lo:hi] -/
def dCut : D → Option Int → Option Int → Option D
  | .tup ds, lo, hi => some (.tup (cutD ds lo hi))
  | .lst ds, lo, hi => some (.lst (cutD ds lo hi))
  | .str x, lo, hi => some (.str ⟨(cutD x.cps.toList lo hi).toArray⟩)
  | _, _, _ => none
/-- d.get(k, z) -/
def dGet (kvs : List (Str × D)) (y z : D) : Option D := match y with
  | .str k => some ((kvs.lookup k).getD z)
  | _ => none
/-- what a for walks -/
def items : IK → List D → Option (List D)
  | .tup, [.tup ds] => some ds
  | .lst, [.lst ds] => some ds
  | .fls, [.fls ds] => some ds
  | .str, [.str x] => some (x.cps.toList.map sign)
  | .rng, [.int n] => if -(2 ^ 62) ≤ n ∧ n ≤ sizeLine then some ((List.range n.toNat).map fun (i : Nat) => .int (0 + (i : Int))) else none
  | .rng, [.int a, .int b] => if -(2 ^ 62) ≤ a ∧ a < 2 ^ 62 ∧ -(2 ^ 62) ≤ b ∧ b < 2 ^ 62 ∧ b - a ≤ sizeLine then some ((List.range (b - a).toNat).map fun (i : Nat) => .int (a + (i : Int))) else none
  | .enumT, [.tup ds] => some (ds.zipIdx.map fun p => .tup [.int (p.2 : Nat), p.1])
  | .enumL, [.lst ds] => some (ds.zipIdx.map fun p => .tup [.int (p.2 : Nat), p.1])
  | _, _ => none

inductive T where
  | nm (i : Nat)
  | tp (is : List Nat)
  deriving DecidableEq
def setAll : List Nat → List D → Env → Env
  | i :: is, d :: ds, ρ => setAll is ds (ρ.set i (some d))
  | _, _, ρ => ρ
def bindT : T → D → Env → Option Env
  | .nm i, d, ρ => if d.own then none else some (ρ.set i (some d))
  | .tp is, .tup ds, ρ => if ds.length = is.length then some (setAll is ds ρ) else none
  | .tp _, _, _ => none
def wipeE (ρ : Env) : List Nat → Env
  | [] => ρ
  | v :: vs => (wipeE ρ vs).set v none

inductive E where
  | var (i : Nat) | con (d : D) | tup (es : List E) | lst (es : List E) | dic (ks : List Str) (es : List E)
  | o1 (o : O1) (e : E) | o2 (o : O2) (a b : E) | sm (o : O2) (a b : E) | chain (o o' : O2) (a b c : E)
  | and (es : List E) | or (es : List E) | not (e : E) | ife (c a b : E)
  | call (f : Nat) (es : List E)
  | sl (e : E) (lo hi : List E)
  | dget (e k d : E)
  | lc (elt : E) (tg : T) (ik : IK) (ie : List E) (cond : List E) (own : List Nat)
  | inOwn (neg : Bool) (e : E) (i : Nat)
  deriving Inhabited
inductive S where
  | set (i : Nat) (e : E) | own (i : Nat) (es : List E) | ownd (i : Nat) (e : E)
  | unpack (is : List Nat) (e : E) | app (i : Nat) (e : E) | ext (i : Nat) (e : E) | put (i : Nat) (e : E) | freeze (i : Nat)
  | expr (e : E) | ifs (c : E) (a b : List S) | for (tg : T) (ik : IK) (ie : List E) (body : List S) | while (c : E) (body : List S)
  | ret (e : E) | retN | raise (c : Nat)
  deriving Inhabited
structure Fn where
  np : Nat
  ns : Nat
  body : List S
  deriving Inhabited

def R.bool (r : R D) (f : Bool → Sto → R D) : R D := r.bind fun d st => match d with
  | .bl b => f b st
  | _ => .fail
def lcGo (bnd : D → Option Env) (c : Env → Sto → R D) (e : Env → Sto → R D) : List D → Sto → R (List D)
  | [], st => .ok [] st
  | x :: xs, st => match bnd x with
    | none => .fail
    | some ρ => (c ρ st).bind fun b st1 => match b with
      | .bl true => (e ρ st1).bind fun d st2 => if d.own then .fail else (lcGo bnd c e xs st2).bind fun ds st3 => .ok (d :: ds) st3
      | .bl false => lcGo bnd c e xs st1
      | _ => .fail
def optI : List D → Option (Option Int)
  | [] => some none
  | [.int i] => some (some i)
  | _ => none
mutual
def ev (C : Cal) : E → Env → Sto → R D
  | .var i, ρ, st => match ρ[i]? with
    | some (some d) => if d.own then .fail else .ok d st
    | _ => .fail
  | .con d, _, st => .ok d st
  | .tup es, ρ, st => (evs C es ρ st).bind fun ds st => .ok (.tup ds) st
  | .lst es, ρ, st => (evs C es ρ st).bind fun ds st => .ok (.lst ds) st
  | .dic ks es, ρ, st => (evs C es ρ st).bind fun ds st => .ok (.dic (ks.zip ds)) st
  | .o1 o e, ρ, st => (ev C e ρ st).bind fun d st => R.lift st (o1 o d)
  | .o2 o a b, ρ, st => (ev C a ρ st).bind fun x st => (ev C b ρ st).bind fun y st => R.lift st (o2 o x y)
  | .sm o a b, ρ, st => (ev C a ρ st).bind fun x st => match x with
    | .str x => (ev C b ρ st).bind fun y st => R.lift st (o2 o (.str x) y)
    | _ => .fail
  | .chain o o' a b c, ρ, st => (ev C a ρ st).bind fun x st => (ev C b ρ st).bind fun y st => (R.lift st (o2 o x y)).bool fun k st =>
      if k then (ev C c ρ st).bind fun z st => R.lift st (o2 o' y z) else .ok (.bl false) st
  | .and es, ρ, st => evAnd C es ρ st
  | .or es, ρ, st => evOr C es ρ st
  | .not e, ρ, st => (ev C e ρ st).bool fun k st => .ok (.bl (!k)) st
  | .ife c a b, ρ, st => (ev C c ρ st).bool fun k st => if k then ev C a ρ st else ev C b ρ st
  | .call f es, ρ, st => (evs C es ρ st).bind fun ds st => C f ds st
  | .sl e lo hi, ρ, st => (ev C e ρ st).bind fun d st => (evs C lo ρ st).bind fun l st => (R.lift st (optI l)).bind fun l st => (evs C hi ρ st).bind fun h st => (R.lift st (optI h)).bind fun h st => R.lift st (dCut d l h)
  | .dget e k d, ρ, st => (ev C e ρ st).bind fun x st => match x with
    | .dic kvs => (ev C k ρ st).bind fun y st => (ev C d ρ st).bind fun z st => R.lift st (dGet kvs y z)
    | _ => .fail
  | .lc elt tg ik ie cond own, ρ, st => (evs C ie ρ st).bind fun ds st => match items ik ds with
    | none => .fail
    | some xs => ((lcGo (fun x => bindT tg x (wipeE ρ own)) (fun ρ st => evAnd1 C cond ρ st) (fun ρ st => ev C elt ρ st) xs st).quiet).bind fun ds st => .ok (.lst ds) st
  | .inOwn neg e i, ρ, st => (ev C e ρ st).bind fun x st => match ρ[i]? with
    | some (some (.mlst ds)) => R.lift st ((inD x (.mlst ds)).map fun b => .bl (if neg then !b else b))
    | some (some (.mset ks)) => R.lift st ((inD x (.mset ks)).map fun b => .bl (if neg then !b else b))
    | _ => .fail
def evs (C : Cal) : List E → Env → Sto → R (List D)
  | [], _, st => .ok [] st
  | e :: es, ρ, st => (ev C e ρ st).bind fun d st => (evs C es ρ st).bind fun ds st => .ok (d :: ds) st
def evAnd (C : Cal) : List E → Env → Sto → R D
  | [], _, _ => .fail
  | [e], ρ, st => ev C e ρ st
  | e :: es, ρ, st => (ev C e ρ st).bool fun k st => if k then evAnd C es ρ st else .ok (.bl false) st
def evOr (C : Cal) : List E → Env → Sto → R D
  | [], _, _ => .fail
  | [e], ρ, st => ev C e ρ st
  | e :: es, ρ, st => (ev C e ρ st).bool fun k st => if k then .ok (.bl true) st else evOr C es ρ st
/-- a comprehension's test, if there is one -/
def evAnd1 (C : Cal) : List E → Env → Sto → R D
  | [], _, st => .ok (.bl true) st
  | e :: _, ρ, st => ev C e ρ st
end

inductive Fl where
  | nx (ρ : Env) (st : Sto)
  | rt (d : D) (st : Sto)
  | ex (c : Nat) (ρ : Env) (st : Sto)
  | fail
def Fl.of (ρ : Env) (r : R D) (f : D → Sto → Fl) : Fl := match r with
  | .ok d st => f d st
  | .exc c st => .ex c ρ st
  | .fail => .fail
def Fl.ofs (ρ : Env) (r : R (List D)) (f : List D → Sto → Fl) : Fl := match r with
  | .ok d st => f d st
  | .exc c st => .ex c ρ st
  | .fail => .fail
def Fl.seq (r : Fl) (f : Env → Sto → Fl) : Fl := match r with
  | .nx ρ st => f ρ st
  | r => r
def forGo (bnd : D → Env → Option Env) (b : Env → Sto → Fl) : List D → Env → Sto → Fl
  | [], ρ, st => .nx ρ st
  | x :: xs, ρ, st => match bnd x ρ with
    | none => .fail
    | some ρ1 => (b ρ1 st).seq fun ρ2 st2 => forGo bnd b xs ρ2 st2
def whileGo (c : Env → Sto → R D) (b : Env → Sto → Fl) : Nat → Env → Sto → Fl
  | 0, _, _ => .fail
  | n + 1, ρ, st => Fl.of ρ (c ρ st) fun d st1 => match d with
    | .bl true => (b ρ st1).seq fun ρ2 st2 => whileGo c b n ρ2 st2
    | .bl false => .nx ρ st1
    | _ => .fail
/-- turns of a while, at most -/
def FU : Nat := 1000000
mutual
def exec (C : Cal) : S → Env → Sto → Fl
  | .set i e, ρ, st => Fl.of ρ (ev C e ρ st) fun d st => if d.own then .fail else .nx (ρ.set i (some d)) st
  | .own i es, ρ, st => Fl.ofs ρ (evs C es ρ st) fun ds st => .nx (ρ.set i (some (.mlst ds))) st
  | .ownd i e, ρ, st => Fl.of ρ (ev C e ρ st) fun d st => .nx (ρ.set i (some (.mset [d]))) st
  | .unpack is e, ρ, st => Fl.of ρ (ev C e ρ st) fun d st => match bindT (.tp is) d ρ with
    | some ρ1 => .nx ρ1 st
    | none => .fail
  | .app i e, ρ, st => match ρ[i]? with
    | some (some (.mlst ds)) => Fl.of ρ (ev C e ρ st) fun d st => if d.own then .fail else if ds.length < sizeLine then .nx (ρ.set i (some (.mlst (ds ++ [d])))) st else .fail
    | _ => .fail
  | .ext i e, ρ, st => match ρ[i]? with
    | some (some (.mlst ds)) => Fl.of ρ (ev C e ρ st) fun d st => match d with
      | .lst es => if ds.length + es.length ≤ sizeLine then .nx (ρ.set i (some (.mlst (ds ++ es)))) st else .fail
      | .tup es => if ds.length + es.length ≤ sizeLine then .nx (ρ.set i (some (.mlst (ds ++ es)))) st else .fail
      | _ => .fail
    | _ => .fail
  | .put i e, ρ, st => match ρ[i]? with
    | some (some (.mset ks)) => Fl.of ρ (ev C e ρ st) fun d st => if d.own then .fail else if ks.length < sizeLine then .nx (ρ.set i (some (.mset (ks ++ [d])))) st else .fail
    | _ => .fail
  | .freeze i, ρ, st => match ρ[i]? with
    | some (some (.mlst ds)) => .nx (ρ.set i (some (.lst ds))) st
    | _ => .fail
  | .expr e, ρ, st => Fl.of ρ (ev C e ρ st) fun _ st => .nx ρ st
  | .ifs c a b, ρ, st => Fl.of ρ (ev C c ρ st) fun d st => match d with
    | .bl k => if k then execs C a ρ st else execs C b ρ st
    | _ => .fail
  | .for tg ik ie body, ρ, st => Fl.ofs ρ (evs C ie ρ st) fun ds st => match items ik ds with
    | none => .fail
    | some xs => forGo (bindT tg) (fun ρ st => execs C body ρ st) xs ρ st
  | .while c body, ρ, st => whileGo (fun ρ st => ev C c ρ st) (fun ρ st => execs C body ρ st) FU ρ st
  | .ret e, ρ, st => Fl.of ρ (ev C e ρ st) fun d st => if d.own then .fail else .rt d st
  | .retN, _, st => .rt .non st
  | .raise c, ρ, st => .ex c ρ st
def execs (C : Cal) : List S → Env → Sto → Fl
  | [], ρ, st => .nx ρ st
  | s :: ss, ρ, st => (exec C s ρ st).seq fun ρ st => execs C ss ρ st
end
def finish : Fl → R D
  | .nx _ st => .ok .non st
  | .rt d st => .ok d st
  | .ex c _ st => .exc c st
  | .fail => .fail
def enter (F : Fn) (ds : List D) : Env := ds.map some ++ List.replicate (F.ns - ds.length) none
def run (P : List Fn) : Nat → Cal
  | 0, _, _, _ => .fail
  | n + 1, f, ds, st => match P[f]? with
    | none => .fail
    | some F => if ds.length = F.np then finish (execs (run P n) F.body (enter F ds) st) else .fail
end TL

namespace HT
open PySem PyProof.Rows
section
variable {prog : Program} {w : World} {A : Around} {E : Value → Shared → Prop} {s : Shared}
theorem adjust_back (n : Nat) : Builtin.Slice.sliceAdjust none none (-1) (n : Int) = ((n : Int) - 1, -1) := by
  unfold Builtin.Slice.sliceAdjust
  simp
theorem places_back (n : Nat) : Builtin.Slice.slicePlaces ((n : Int) - 1) (-1) (-1) = n := by
  unfold Builtin.Slice.slicePlaces
  simp
  try (split <;> omega)
  try omega
theorem applied_back {b : Addr} {v1 v2 v3 : Value} {n : Nat} {Q : Int × Int × Nat → Shared → Prop} (hs : s.heap.IsSliceOf b v1 v2 v3) (p1 : IsPart v1 none) (p2 : IsPart v2 none) (p3 : IsPart v3 (some (-1)))
    (h : Q ((n : Int) - 1, -1, n) s) : wpAny (model prog w) A (Builtin.Slice.sliceApplied (.ref b) (pure (n : Int))) Q E s := by
  obtain ⟨os, hos, hcs, hds⟩ := id hs
  unfold Builtin.Slice.sliceApplied Builtin.Slice.sliceFields
  refine wpAny_bind (wpAny_bind (wpAny_field hos hds (x := v1) rfl (wpAny_bind (wpAny_field hos hds (x := v2) rfl (wpAny_bind (wpAny_field hos hds (x := v3) rfl (wpAny_pure ?_)))))))
  refine wpAny_bind (slicePart_ p3 ?_)
  show wpAny _ _ (if ((-1 : Int) == 0) = true then _ else _) _ _ s
  rw [if_neg (by decide)]
  refine wpAny_bind (slicePart_ p1 (wpAny_bind (slicePart_ p2 (wpAny_bind (wpAny_pure ?_)))))
  show wpAny _ _ (match Builtin.Slice.sliceAdjust none none (-1) (n : Int) with | (l, u) => pure (l, (-1 : Int), Builtin.Slice.slicePlaces l u (-1))) _ _ s
  rw [adjust_back n]
  show wpAny _ _ (pure ((n : Int) - 1, (-1 : Int), Builtin.Slice.slicePlaces ((n : Int) - 1) (-1) (-1))) _ _ s
  rw [places_back]
  exact wpAny_pure h
theorem fm_some {α β : Type} {f : α → Option β} {g : α → β} : ∀ {l : List α}, (∀ m ∈ l, f m = some (g m)) → l.filterMap f = l.map g
  | [], _ => rfl
  | x :: l, h => by
    rw [List.filterMap_cons, h x (List.mem_cons_self ..), List.map_cons, fm_some fun m hm => h m (List.mem_cons_of_mem _ hm)]
theorem pick_back (xs : Array Value) : ((List.range xs.size).filterMap fun (m : Nat) => xs[((xs.size : Int) - 1 + (m : Int) * (-1)).toNat]?).toArray = xs.toList.reverse.toArray := by
  congr 1
  apply List.ext_getElem?
  intro i
  have e : ∀ m ∈ List.range xs.size, xs[((xs.size : Int) - 1 + (m : Int) * (-1)).toNat]? = some (xs.toList.reverse.getD m .none) := by
    intro m hm
    have hm := List.mem_range.mp hm
    have : ((xs.size : Int) - 1 + (m : Int) * (-1)).toNat = xs.size - 1 - m := by omega
    rw [this, List.getD_eq_getElem?_getD, List.getElem?_reverse (by simpa using hm)]
    simp
    rw [Array.getElem?_eq_getElem (by omega)]
    simp
  rw [show ((List.range xs.size).filterMap fun (m : Nat) => xs[((xs.size : Int) - 1 + (m : Int) * (-1)).toNat]?) = (List.range xs.size).map fun m => xs.toList.reverse.getD m .none from fm_some e]
  rw [List.getElem?_map]
  by_cases hi : i < xs.size
  · rw [List.getElem?_range hi]
    simp [hi]
  · rw [List.getElem?_eq_none (by simpa using hi), List.getElem?_eq_none (by simpa using hi)]
    rfl
theorem getItem_tuple_back {t b : Addr} {items : Array Value} {v1 v2 v3 : Value} {Q : Value → Shared → Prop} (ht : IsTup s.heap t items) (hs : s.heap.IsSliceOf b v1 v2 v3) (p1 : IsPart v1 none) (p2 : IsPart v2 none) (p3 : IsPart v3 (some (-1)))
    (h : Q (.ref s.heap.objs.size) { s with heap := s.heap.push { cls := .type "tuple", data := .seq items.toList.reverse.toArray } })
    (hsz : items.size ≤ sizeLine) : wpAny (model prog w) A (getItem (.ref t) (.ref b)) Q E s := by
  have htake : sizeOk (.seq items.toList.reverse.toArray) := by
    show items.toList.reverse.toArray.size ≤ sizeLine
    rw [List.size_toArray, List.length_reverse, Array.length_toList]
    exact hsz
  obtain ⟨os, hos, hcs, hds⟩ := id hs
  have hTs : s.TypeIs (.ref b) "slice" := ⟨os, hos, hcs⟩
  unfold getItem
  try with_reducible refine wpAny_holding ?_
  first | refine wpAny_bind (wpAny_pure ?_) | skip
  refine wpAny_bind (wpAny_sequenceKey ht.typeIs (by decide) ?_)
  refine wpAny_bind (wpAny_callSpecial?_slot (name := Str.ofString "__getitem__") ht.typeIs PyProof.Rows.slot_tuple_getitem
    (wpAny_call_entry PyProof.Rows.slot_tuple_getitem ht.typeIs entry_tuple_getitem ?_ (args_tuple_getitem _ _)))
  show wpAny _ _ (Builtin.Tuple.tupleItemsOf (.ref t) >>= _) _ _ s
  refine wpAny_bind (tupleItemsOf_ ht ?_)
  refine wpAny_bind (wpAny_typeOf hTs ?_)
  rw [if_pos (by decide)]
  refine wpAny_bind (applied_back hs p1 p2 p3 ?_)
  have hno : ¬ ((((items.size : Int) - 1) == 0 && (-1 : Int) == 1 && items.size == items.size) = true) := by
    intro q
    rw [Bool.and_eq_true, Bool.and_eq_true] at q
    have := q.1.2
    exact absurd this (by decide)
  show wpAny _ _ (if (((items.size : Int) - 1) == 0 && (-1 : Int) == 1 && items.size == items.size) = true then _ else _) _ _ s
  rw [if_neg hno, pick_back]
  first
    | exact wpAny_bind (m := Builtin.Tuple.tupleExact _) (wpAny_newObj_type (wpAny_pure ⟨_, rfl, wpAny_pure h⟩) htake)
    | exact wpAny_bind (m := Builtin.Tuple.tupleExact _) (wpAny_newObj_type (wpAny_bind (wpAny_pure (wpAny_pure ⟨_, rfl, wpAny_pure h⟩))) htake)
    | exact wpAny_bind (wpAny_bind (m := Builtin.Tuple.tupleExact _) (wpAny_newObj_type (wpAny_pure (wpAny_pure ⟨_, rfl, wpAny_pure h⟩)) htake))
    | exact wpAny_bind (wpAny_bind (m := Builtin.Tuple.tupleExact _) (wpAny_newObj_type (wpAny_pure ⟨_, rfl, wpAny_pure h⟩) htake))
end
end HT
namespace L2
open PySem PySem.Spec PyProof.Rows
def tBack (K : PySem.W.Frag) (te : TE) : TE := fun σ H Q => te σ H fun x H1 => ∃ a xs, x = .ref a ∧ SqT K H1 a xs ∧ ∀ p, H1 p = none → Q (.ref p) (upd H1 p (.tup xs.reverse))
theorem pe_back {X : Cx} {e : Expr} {te : TE} {k : Nat} {p1 p2 p3 pos : Pos} (he : PE X e te) : PE X (.Subscript e (.Slice none none (some (.UnaryOp .USub (.Constant (.int 1) k p1) p2)) p3) pos) (tBack X.K te) := by
  refine ⟨fun pins s σ H Q I h => ?_⟩
  refine Subscript_ (thn (he.run pins s σ H _ I h) fun v s1 ⟨x, H1, I1, r1, q1⟩ => ?_)
  obtain ⟨a, xs, rfl, hx, q⟩ := q1
  cases r1
  have step : PO X (some (.UnaryOp .USub (.Constant (.int 1) k p1) p2)) (tPart (tUn (rU fun i => .int (-i)) (tC (.int 1)))) := po_some (pe_un un_neg pe_int)
  refine wpAny_Slice (thn (po_none.run pins s1 σ H1 (fun o H2 => o = none ∧ H2 = H1) I1 ⟨rfl, rfl⟩) fun v1 s2 ⟨l, H2, I2, q1, e1, e2⟩ => ?_)
  subst e1 e2
  refine thn (po_none.run pins s2 σ H2 (fun o H3 => o = none ∧ H3 = H2) I2 ⟨rfl, rfl⟩) fun v2 s3 ⟨u, H3, I3, q2, e1, e2⟩ => ?_
  subst e1 e2
  refine thn (step.run pins s3 σ H3 (fun o H4 => o = some (-1) ∧ H4 = H3) I3 ⟨1, rfl, -1, rfl, rfl, rfl⟩) fun v3 s4 ⟨o, H4, I4, q3, e1, e2⟩ => ?_
  subst e1 e2
  have I5 : Inv X pins σ H4 { s4 with heap := s4.heap.push { cls := .type "slice", data := .fields #[v1, v2, v3] } } := I4.kept (t' := s4.toks) fun b ob q => Heap.get?_push_of_some _ q
  obtain ⟨its, r, ht, hz⟩ := I5.tuple hx
  have hlen : its.toArray.size = xs.length := by rw [List.size_toArray]; exact r.length.symm
  show wpAny (model X.prog X.w) X.A (subscriptTail e (.Slice none none (some (.UnaryOp .USub (.Constant (.int 1) k p1) p2)) p3) (.ref a) (.ref s4.heap.objs.size)) (EP X pins σ Q) X.xe { s4 with heap := s4.heap.push { cls := .type "slice", data := .fields #[v1, v2, v3] } }
  refine tail_any (ops := [.ref a, .ref s4.heap.objs.size]) ht.typeIs PyProof.Rows.slot_tuple_getitem.lookup ?_ (by with_unfolding_all rfl)
  refine HT.getItem_tuple_back ht (Heap.IsSliceOf.new _ v1 v2 v3) q1 q2 q3 ?_ (by rw [hlen]; exact hz)
  refine ⟨.ref _, _, I5.laid (t' := s4.toks) (o := .tup xs.reverse) (fun b ob q => Heap.get?_push_of_some _ q) (Nat.le_refl _) ?_, rfl, q _ (I5.hok.fresh (Nat.le_refl _))⟩
  exact ⟨by rw [List.length_reverse]; exact hz, _, r.reverse, IsTup.new _ _⟩
end L2

namespace TL
open PySem L2 PySem.Spec PyProof.Rows
open AutoSeq1 (wpAny_loadPart')
theorem meets_enumerate_newT (l : Addr) (items : Array Value) (n : Nat) (dct : Option Addr) (sl : Array (Option Value)) :
    Meets (Builtin.«enumerate.__new__» ⟨[.type "enumerate", .ref l], []⟩) (fun _ R s => s.heap.get? l = some { cls := .type "tuple", dict := dct, data := .seq items n, slots := sl } ∧
      R (.ok (.ret (.ref (s.heap.push { cls := .type "tuple_iterator", data := .fields #[.ref l, .int 0 0] }).objs.size)))
        { s with heap := (s.heap.push { cls := .type "tuple_iterator", data := .fields #[.ref l, .int 0 0] }).push { cls := .type "enumerate", data := .fields #[.none, .bool false, .ref s.heap.objs.size, rawInt 0, .none, .none] } }) :=
  .of_wp fun prog w A R s h => by
    obtain ⟨hp, g, d, tk, os⟩ := s; obtain ⟨hl, h⟩ := h
    have hsub := sub_enumerate
    have hL : Heap.IsTuple (Shared.heap ⟨hp, g, d, tk, os⟩) l items := ⟨_, hl, rfl, n, rfl⟩
    wp_walk using wpAny_loadPart' hl
    refine wpAny_stack_any fun st => wpAny_pure ?_
    split
    · rename_i c _ _ _ _ _
      cases (c == Value.type "enumerate")
      · wp_walk using wpAny_loadPart' hl, wpAny_pyIter_tuple hL
        exact ⟨_, rfl, h⟩
      · wp_walk using wpAny_loadPart' hl, wpAny_pyIter_tuple hL
        exact ⟨_, rfl, h⟩
    · wp_walk using wpAny_loadPart' hl, wpAny_pyIter_tuple hL
      exact ⟨_, rfl, h⟩
section
variable {prog : Program} {w : World} {A : Around} {E : Value → Shared → Prop} {s : Shared}
theorem call_enumerate_tup {l : Addr} {items : Array Value} {Q : Value → Shared → Prop} (hL : s.heap.IsTuple l items)
    (h : ∀ h', IsEnum h' (s.heap.objs.size + 1) s.heap.objs.size 0 .none → h'.IsTupleIter s.heap.objs.size l 0 → h'.objs.size = s.heap.objs.size + 2 →
      (∀ b o, s.heap.get? b = some o → h'.get? b = some o) → Q (.ref (s.heap.objs.size + 1)) { s with heap := h' }) :
    wpAny (model prog w) A (call (.type "enumerate") [.ref l]) Q E s := by
  obtain ⟨⟨c, dct, dt, sl⟩, hl, hc, n, hd⟩ := hL
  replace hc : c = .type "tuple" := hc
  replace hd : dt = .seq items n := hd
  subst hc hd
  refine callType_new F.called_enumerate (by decide) (F.typeCall_enumerate_1 _) (F.newCall_enumerate_1 _) (fun obj => F.args_object_init_2 obj _) F.entry_enumerate_new
    (meets_enumerate_newT l items n dct sl) ⟨hl, ?_⟩
  have hz : (s.heap.push { cls := .type "tuple_iterator", data := .fields #[.ref l, .int 0 0] }).objs.size = s.heap.objs.size + 1 := Heap.size_push ..
  show _ ∧ _
  rw [hz]
  have he : IsEnum ((s.heap.push { cls := .type "tuple_iterator", data := .fields #[.ref l, .int 0 0] }).push
      { cls := .type "enumerate", data := .fields #[.none, .bool false, .ref s.heap.objs.size, rawInt 0, .none, .none] }) (s.heap.objs.size + 1) s.heap.objs.size 0 .none := by
    have := Heap.get?_push_size (s.heap.push { cls := .type "tuple_iterator", data := .fields #[.ref l, .int 0 0] })
      (o := { cls := .type "enumerate", data := .fields #[.none, .bool false, .ref s.heap.objs.size, rawInt 0, .none, .none] }) rfl
    rw [hz] at this; exact this
  refine ⟨⟨_, he, rfl⟩, h _ he ⟨_, Heap.get?_push_of_some _ (Heap.get?_push_size _ rfl), rfl, rfl⟩ (by rw [Heap.size_push, hz]) fun b o x => Heap.get?_push_of_some _ (Heap.get?_push_of_some _ x)⟩
end
/-- the tuple at a as it stands, each item with its number in a new pair -/
def IteT (K : PySem.W.Frag) (a : Addr) : It :=
  ⟨fun i H => ∃ (xs : List V) (x : V), SqT K H a xs ∧ xs[i]? = some x, fun i H v H' => ∃ T x, v = .ref T ∧ H T = none ∧ H' = upd H T (.tup [.int (i : Nat), x]) ∧ ∀ xs, SqT K H a xs → xs[i]? = some x, fun i H => ∃ xs : List V, SqT K H a xs ∧ xs.length ≤ i⟩
theorem turn_enumT {P : Program} {w : World} {K : PySem.W.Frag} {elts : List Expr} {kk : Nat} {tpos : Pos} (a e it : Addr) :
    Turn P w K (.Tuple elts kk tpos) (IteT K a) [e, it] e (fun i h => (∃ old, IsEnum h e it ((i : Nat) : Int) old) ∧ h.IsTupleIter it a i ∧ e ≠ it) where
  mem := by simp
  obj := fun i h st b hb => by
    obtain ⟨⟨old, he⟩, ⟨o, ho, hc, hd⟩, _⟩ := st
    have e' : b = e ∨ b = it := by simpa using hb
    rcases e' with z | z
    · rw [z]; exact ⟨_, he, fun v q => nomatch q⟩
    · rw [z]; exact ⟨o, ho, fun v q => by rw [hd] at q; cases q⟩
  keep := fun i h h' st k => let ⟨⟨old, he⟩, hi, hne⟩ := st; ⟨⟨old, k e (by simp) _ he⟩, hi.at fun o q => k it (by simp) o q, hne⟩
  item := by
    intro X hP hw hK hc i pins s σ H E I hf st hg
    subst hP hw hK
    obtain ⟨⟨old, he⟩, hit, hne⟩ := st
    obtain ⟨xs, x, hq, hx⟩ := hg
    obtain ⟨its, rv, p, hz⟩ := I.tuple hq
    obtain ⟨u, hu, ru⟩ := rv.get hx
    have hel : e < s.heap.objs.size := Heap.lt_size he
    have hil : it < s.heap.objs.size := by obtain ⟨_, q, _⟩ := hit; exact Heap.lt_size q
    have pt : s.heap.IsTuple a its.toArray := p
    have hai : a ≠ it := by
      obtain ⟨o1, q1, c1, d1⟩ := hit
      obtain ⟨o2, q2, c2, n2, d2⟩ := pt
      intro z
      rw [z, q1] at q2
      cases q2
      rw [d1] at d2
      cases d2
    have hae : e ≠ a := by
      obtain ⟨o2, q2, c2, n2, d2⟩ := pt
      intro z
      have he' : s.heap.get? e = some _ := he
      rw [z, q2] at he'
      cases he'
      cases d2
    have hil2 : i < its.toArray.size := by
      rw [List.size_toArray]
      exact (List.getElem?_eq_some_iff.mp hu).1
    refine wpAny_pyNext_enum_itemD (Draws.tuple (A := X.A.in1) (show X.A.in1.handled = none from I.ok.hd hc) it a hai its.toArray) he ⟨hit, pt⟩ hil2 hne (by simp [hne, hae]) fun u' h' tk hP' ho hst hT hsz hk => ?_
    have eu : u' = u := by
      have : its.toArray[i]? = some u := by simpa using hu
      rw [this] at hP'
      exact (Option.some.inj hP').symm
    subst eu
    refine ⟨_, rfl, wpAny_letOwnedTupleGo_enum (s := { s with heap := h', toks := tk + 1 }) ho fun h'' he' sb => ?_⟩
    have hT2 : h''.get? s.heap.objs.size = some { cls := .type "tuple", data := .seq #[.int i tk, u'] } := (sb.2 _ (Nat.ne_of_gt hel)).trans hT
    have new : ObjOk X.prog X.w (upd H s.heap.objs.size (.tup [.int (i : Nat), x])) h'' s.heap.objs.size (.tup [.int (i : Nat), x]) :=
      ⟨by show 2 ≤ sizeLine; decide, [.int i tk, u'], .cons ⟨_, rfl⟩ (.cons ru .nil), ⟨_, hT2, rfl, _, rfl⟩⟩
    have I1 : Inv X pins σ (upd H s.heap.objs.size (.tup [.int (i : Nat), x])) { s with heap := h'', toks := tk + 1 } :=
      I.turnedNew (ch := [e, it]) (fun b ob hb q => (sb.2 b (fun z => hb (by simp [z]))).trans (hk b ob (fun z => hb (by simp [z])) (fun z => hb (by simp [z])) q)) hf (Nat.le_refl _) new
    refine ⟨.ref s.heap.objs.size, _, I1, rfl, ⟨_, x, rfl, I.hok.fresh (Nat.le_refl _), rfl, fun ys hy => by rw [I.tuple_inj hy hq]; exact hx⟩, ⟨⟨u', ?_⟩, hst.1.at fun o q => (sb.2 it (Ne.symm hne)).trans q, hne⟩, fun b hb => ?_⟩
    · have e1 : ((i + 1 : Nat) : Int) = (i : Int) + 1 := by omega
      rw [e1]; exact he'
    · have hb' : b < s.heap.objs.size := by
        have e' : b = e ∨ b = it := by simpa using hb
        rcases e' with z | z
        · rw [z]; exact hel
        · rw [z]; exact hil
      rw [upd_ne (Nat.ne_of_lt hb')]
      exact (hf b hb).1
  done := by
    intro X hP hw hK hc i pins s σ H E I hf st hg
    subst hP hw hK
    obtain ⟨⟨old, he⟩, hit, hne⟩ := st
    obtain ⟨xs, hq, hx⟩ := hg
    obtain ⟨its, rv, p, hz⟩ := I.tuple hq
    obtain ⟨f0, f1, f2, f3, f4, f5⟩ := hf it (by simp)
    have hl := rv.length
    have pt : s.heap.IsTuple a its.toArray := p
    have hT : s.TypeIs (.ref e) "enumerate" := ⟨_, he, rfl⟩
    unfold pyNext
    refine wpAny_bind (wpAny_attempt (wpAny_callSpecial?_slot (name := Str.ofString "__next__") hT F.slot_enumerate_next
      (wpAny_call_entry F.slot_enumerate_next hT F.entry_enumerate_next ?_ (F.args_enumerate_next_1 _))))
    show wpAny _ _ (field (.ref e) 2 >>= _) _ _ _
    refine wpAny_bind (wpAny_field he rfl (x := .ref it) rfl ?_)
    refine wpAny_bind (wpAny_nextOf_tuple_end (I.ok.hd hc) hit pt (by simp; omega) fun h' x he' hx' => ?_)
    obtain ⟨o, ho, hcc⟩ := hx'
    refine wpAny_bind (wpAny_isInstance (T := "StopIteration") (b := true) ⟨o, ho, hcc⟩ isSubtype_stop ?_)
    exact wpAny_pure ⟨rfl, I.turned (t' := s.toks) (fun b o hb q => he' b o hb q) f0 f1 f3 f4 f5⟩
  self := fun A i s Q E st h => let ⟨⟨_, he⟩, _⟩ := st; wpAny_pyIter_enum he h
def iEnumT (K : PySem.W.Frag) (ta : TA) : TI := fun σ H R => ta σ H fun vs H1 => ∃ a xs, vs = [.ref a] ∧ SqT K H1 a xs ∧ R (IteT K a) H1
theorem pi_enumT {X : Cx} {e : Expr} {ta : TA} {p pos tpos : Pos} {elts : List Expr} {kk : Nat} (hg : Gl X "enumerate") (hm : X.mg "enumerate" = none) (ha : PA X [e] ta) (hs : starEach [e] X.env = [(false, eval e X.env)]) :
    PI X (.Tuple elts kk tpos) (.Call (.Name "enumerate" p) [e] [] pos) (iEnumT X.K ta) := by
  refine ⟨fun pins s σ H R I h => ?_⟩
  refine Call_ (ld_blt I hg hm boot_enumerate (PyProof.Rows.callWith_type1 (thn (ha.run pos pins s σ H _ I h) fun us s1 ⟨vs, H1, I1, r1, q1⟩ => ?_) hs rfl))
  obtain ⟨a, xs, ex, hq, q⟩ := q1
  subst ex
  cases r1 with
  | cons r rr =>
    cases rr
    cases r
    obtain ⟨its, rv, p', hz⟩ := I1.tuple hq
    have pt : s1.heap.IsTuple a its.toArray := p'
    refine call_enumerate_tup pt fun h' he hit hsz hk => wpAny_pyIter_enum he ?_
    have I2 : Inv X pins σ H1 { s1 with heap := h' } := I1.kept (t' := s1.toks) hk
    refine ⟨s1.heap.objs.size + 1, [s1.heap.objs.size + 1, s1.heap.objs.size], _, _, H1, rfl, I2, turn_enumT a (s1.heap.objs.size + 1) s1.heap.objs.size, ⟨⟨.none, he⟩, hit, Nat.succ_ne_self _⟩, fun b hb => ?_, q⟩
    have e' : b = s1.heap.objs.size + 1 ∨ b = s1.heap.objs.size := by simpa using hb
    have hle : s1.heap.objs.size ≤ b := by
      rcases e' with z | z
      · rw [z]; exact Nat.le_add_right _ _
      · rw [z]; exact Nat.le_refl _
    exact I1.fpOk hle (I1.hok.fresh hle)
end TL

namespace TL
open PySem L2

/-- whose thing stands at an address: a name's (depth, slot), a cell's of the store; the path to it -/
inductive Root where
  | slot (dp i : Nat) | cell (l : Nat)
  deriving DecidableEq
structure Wd where
  mu : List Addr
  wr : Addr → Option (Root × List Str)
section
variable (K : PySem.W.Frag) (ω : Wd) (H : Hp)
mutual
def Rep : D → V → Prop
  | .non, v => v = .non
  | .bl b, v => v = .bl b
  | .int i, v => v = .int i
  | .str x, v => v = .str x ∧ x.length ≤ sizeLine
  | .tup ds, v => ds.length ≤ sizeLine ∧ ∃ a vs, v = .ref a ∧ SqT K H a vs ∧ Reps ds vs
  | .lst ds, v => ds.length ≤ sizeLine ∧ ∃ a vs, v = .ref a ∧ H a = some (.lst vs) ∧ ω.wr a = none ∧ Reps ds vs
  | .fls ds, v => ds.length ≤ sizeLine ∧ ∃ a vs, v = .ref a ∧ ((H a = some (.lst vs) ∧ ω.wr a = none) ∨ (∃ o, H a = some (.frz o (.lst vs))) ∨ ∃ (o : Obj) (its : Array Value) (n : Nat), K.lookup a = some o ∧ o.cls = .type "list" ∧ o.dict = none ∧ o.data = .seq its n ∧ its.size ≤ sizeLine ∧ Vals vs its.toList) ∧ Reps ds vs
  | .dic kvs, v => kvs.length ≤ sizeLine ∧ ∃ a kws, v = .ref a ∧ H a = some (.dK kws) ∧ ω.wr a = none ∧ Repk kvs kws
  | .ref l, v => ∃ a, ω.mu[l]? = some a ∧ v = .ref a
  | _, _ => False
def Reps : List D → List V → Prop
  | [], vs => vs = []
  | d :: ds, vs => ∃ v r, vs = v :: r ∧ Rep d v ∧ Reps ds r
def Repk : List (Str × D) → List (Key × V) → Prop
  | [], vs => vs = []
  | (k, d) :: ds, vs => ∃ v r, vs = (.inr k, v) :: r ∧ Rep d v ∧ Repk ds r
end
end
section
variable {K : PySem.W.Frag} {ω ω' ω'' : Wd} {H H' H'' : Hp}
/-- all that a value leans on is kept -/
structure Kept (ω : Wd) (H : Hp) (ω' : Wd) (H' : Hp) : Prop where
  mu : ω.mu <+: ω'.mu
  tup : ∀ a xs, H a = some (.tup xs) → H' a = some (.tup xs)
  frz : ∀ a o u, H a = some (.frz o u) → H' a = some (.frz o u)
  lst : ∀ a xs, H a = some (.lst xs) → ω.wr a = none → H' a = some (.lst xs) ∧ ω'.wr a = none
  dic : ∀ a xs, H a = some (.dK xs) → ω.wr a = none → H' a = some (.dK xs) ∧ ω'.wr a = none
theorem Kept.sqT (k : Kept ω H ω' H') {a : Addr} {vs : List V} (h : SqT K H a vs) : SqT K H' a vs := by
  rcases h with (h | ⟨o, h⟩) | h
  · exact .inl (.inl (k.tup _ _ h))
  · exact .inl (.inr ⟨o, k.frz _ _ _ h⟩)
  · exact .inr h
mutual
theorem Rep.kept (k : Kept ω H ω' H') : ∀ (d : D) (v : V), Rep K ω H d v → Rep K ω' H' d v
  | .non, v, h => h
  | .bl b, v, h => h
  | .int i, v, h => h
  | .str x, v, h => h
  | .tup ds, v, h => by
    obtain ⟨l, a, vs, e, q, r⟩ := h
    exact ⟨l, a, vs, e, k.sqT q, Reps.kept k ds vs r⟩
  | .lst ds, v, h => by
    obtain ⟨l, a, vs, e, q, w, r⟩ := h
    obtain ⟨q', w'⟩ := k.lst _ _ q w
    exact ⟨l, a, vs, e, q', w', Reps.kept k ds vs r⟩
  | .fls ds, v, h => by
    obtain ⟨l, a, vs, e, q, r⟩ := h
    refine ⟨l, a, vs, e, ?_, Reps.kept k ds vs r⟩
    rcases q with ⟨q, w⟩ | ⟨o, q⟩ | q
    · exact .inl (k.lst _ _ q w)
    · exact .inr (.inl ⟨o, k.frz _ _ _ q⟩)
    · exact .inr (.inr q)
  | .dic kvs, v, h => by
    obtain ⟨l, a, vs, e, q, w, r⟩ := h
    obtain ⟨q', w'⟩ := k.dic _ _ q w
    exact ⟨l, a, vs, e, q', w', Repk.kept k kvs vs r⟩
  | .ref l, v, h => by
    obtain ⟨a, e, q⟩ := h
    refine ⟨a, ?_, q⟩
    obtain ⟨t, ht⟩ := k.mu
    rw [← ht, List.getElem?_append_left (List.getElem?_eq_some_iff.mp e).1]
    exact e
  | .clo _ _, v, h => h.elim
  | .mlst _, v, h => h.elim
  | .mset _, v, h => h.elim
  | .mdic _, v, h => h.elim
  | .ins _ _, v, h => h.elim
theorem Reps.kept (k : Kept ω H ω' H') : ∀ (ds : List D) (vs : List V), Reps K ω H ds vs → Reps K ω' H' ds vs
  | [], vs, h => h
  | d :: ds, vs, h => by
    obtain ⟨v, r, e, h1, h2⟩ := h
    exact ⟨v, r, e, Rep.kept k d v h1, Reps.kept k ds r h2⟩
theorem Repk.kept (k : Kept ω H ω' H') : ∀ (ds : List (Str × D)) (vs : List (Key × V)), Repk K ω H ds vs → Repk K ω' H' ds vs
  | [], vs, h => h
  | (n, d) :: ds, vs, h => by
    obtain ⟨v, r, e, h1, h2⟩ := h
    exact ⟨v, r, e, Rep.kept k d v h1, Repk.kept k ds r h2⟩
end
theorem Kept.refl : Kept ω H ω H := ⟨List.prefix_refl _, fun _ _ h => h, fun _ _ _ h => h, fun _ _ h w => ⟨h, w⟩, fun _ _ h w => ⟨h, w⟩⟩
theorem Kept.trans (a : Kept ω H ω' H') (b : Kept ω' H' ω'' H'') : Kept ω H ω'' H'' :=
  ⟨a.mu.trans b.mu, fun c xs h => b.tup c xs (a.tup c xs h), fun c o u h => b.frz c o u (a.frz c o u h), fun c xs h w => let ⟨x, y⟩ := a.lst c xs h w; b.lst c xs x y, fun c xs h w => let ⟨x, y⟩ := a.dic c xs h w; b.dic c xs x y⟩
/-- new things only -/
theorem Kept.grow (g : Same H H') : Kept ω H ω H' := ⟨List.prefix_refl _, fun _ _ h => g _ _ h, fun _ _ _ h => g _ _ h, fun _ _ h w => ⟨g _ _ h, w⟩, fun _ _ h w => ⟨g _ _ h, w⟩⟩

theorem Reps.length : ∀ {ds : List D} {vs : List V}, Reps K ω H ds vs → vs.length = ds.length
  | [], vs, h => by rw [show vs = [] from h]; rfl
  | d :: ds, vs, h => by
    obtain ⟨v, r, rfl, h1, h2⟩ := h
    rw [List.length_cons, List.length_cons, Reps.length h2]
theorem Reps.append : ∀ {ds es : List D} {vs ws : List V}, Reps K ω H ds vs → Reps K ω H es ws → Reps K ω H (ds ++ es) (vs ++ ws)
  | [], es, vs, ws, h, h' => by
    have e : vs = [] := h
    subst e
    exact h'
  | d :: ds, es, vs, ws, h, h' => by
    obtain ⟨v, r, rfl, h1, h2⟩ := h
    exact ⟨v, r ++ ws, rfl, h1, Reps.append h2 h'⟩
theorem Reps.get : ∀ {ds : List D} {vs : List V} {i : Nat} {d : D}, Reps K ω H ds vs → ds[i]? = some d → ∃ v, vs[i]? = some v ∧ Rep K ω H d v
  | [], vs, i, d, h, e => by simp at e
  | d' :: ds, vs, 0, d, h, e => by
    obtain ⟨v, r, rfl, h1, h2⟩ := h
    simp at e
    subst e
    exact ⟨v, rfl, h1⟩
  | d' :: ds, vs, i + 1, d, h, e => by
    obtain ⟨v, r, rfl, h1, h2⟩ := h
    simp at e
    obtain ⟨v', e', h'⟩ := Reps.get h2 e
    exact ⟨v', by simpa using e', h'⟩
theorem Reps.get' : ∀ {ds : List D} {vs : List V} {i : Nat} {v : V}, Reps K ω H ds vs → vs[i]? = some v → ∃ d, ds[i]? = some d ∧ Rep K ω H d v
  | [], vs, i, v, h, e => by
    rw [show vs = [] from h] at e
    simp at e
  | d' :: ds, vs, 0, v, h, e => by
    obtain ⟨v', r, rfl, h1, h2⟩ := h
    simp at e
    subst e
    exact ⟨d', rfl, h1⟩
  | d' :: ds, vs, i + 1, v, h, e => by
    obtain ⟨v', r, rfl, h1, h2⟩ := h
    simp at e
    obtain ⟨d, e', h'⟩ := Reps.get' h2 e
    exact ⟨d, by simpa using e', h'⟩
theorem Reps.take : ∀ {ds : List D} {vs : List V} (n : Nat), Reps K ω H ds vs → Reps K ω H (ds.take n) (vs.take n)
  | [], vs, n, h => by rw [show vs = [] from h]; simp [Reps]
  | d :: ds, vs, 0, h => by simp [Reps]
  | d :: ds, vs, n + 1, h => by
    obtain ⟨v, r, rfl, h1, h2⟩ := h
    exact ⟨v, r.take n, rfl, h1, Reps.take n h2⟩
theorem Reps.drop : ∀ {ds : List D} {vs : List V} (n : Nat), Reps K ω H ds vs → Reps K ω H (ds.drop n) (vs.drop n)
  | [], vs, n, h => by rw [show vs = [] from h]; simp [Reps]
  | d :: ds, vs, 0, h => h
  | d :: ds, vs, n + 1, h => by
    obtain ⟨v, r, rfl, h1, h2⟩ := h
    exact Reps.drop n h2
theorem Reps.reverse {ds : List D} {vs : List V} (h : Reps K ω H ds vs) : Reps K ω H ds.reverse vs.reverse := by
  induction ds generalizing vs with
  | nil => rw [show vs = [] from h]; rfl
  | cons d ds ih =>
    obtain ⟨v, r, rfl, h1, h2⟩ := h
    rw [List.reverse_cons, List.reverse_cons]
    exact (ih h2).append ⟨v, [], rfl, h1, rfl⟩
theorem Reps.rep {ds : List D} {vs : List V} (h : Reps K ω H ds vs) : ∀ k : Nat, Reps K ω H (List.replicate k ds).flatten (List.replicate k vs).flatten
  | 0 => rfl
  | k + 1 => by
    rw [List.replicate_succ, List.replicate_succ, List.flatten_cons, List.flatten_cons]
    exact h.append (h.rep k)
theorem Reps.one {d : D} {vs : List V} (h : Reps K ω H [d] vs) : ∃ v, vs = [v] ∧ Rep K ω H d v := by
  obtain ⟨v, r, rfl, h1, h2⟩ := h
  exact ⟨v, by rw [show r = [] from h2], h1⟩
theorem Reps.two {d e : D} {vs : List V} (h : Reps K ω H [d, e] vs) : ∃ v w, vs = [v, w] ∧ Rep K ω H d v ∧ Rep K ω H e w := by
  obtain ⟨v, r, rfl, h1, h2⟩ := h
  obtain ⟨w, rfl, h3⟩ := h2.one
  exact ⟨v, w, rfl, h1, h3⟩
theorem Reps.nil {vs : List V} (h : Reps K ω H [] vs) : vs = [] := h


mutual
theorem Rep.dp : ∀ (d : D) (v : V), d.shp = true ∨ SeqAt.shaped d.py = true ∨ PyData.canLay0 d.py = true → Rep K ω H d v → Dp K H v d.py
  | .non, v, _, h => by rw [show v = .non from h]; exact .non
  | .bl b, v, _, h => by rw [show v = .bl b from h]; exact .bl b
  | .int i, v, _, h => by rw [show v = .int i from h]; exact .int i
  | .str x, v, _, h => by rw [show v = .str x from h.1]; exact .str x
  | .tup ds, v, s, h => by
    obtain ⟨l, a, vs, rfl, q, r⟩ := h
    refine .tup q (Reps.dp ds vs ?_ r)
    have q : PyData.canLay0 (D.tup ds).py = true := s.elim (fun z => SeqAt.canLay_of_shaped z) fun z => z.elim (fun z => SeqAt.canLay_of_shaped z) fun z => z
    simpa [D.py, PyData.canLay0] using q
  | .lst ds, v, s, h => by
    obtain ⟨l, a, vs, rfl, q, _, r⟩ := h
    refine .lst (SqL.of q) (Reps.dp ds vs ?_ r)
    have q : PyData.canLay0 (D.lst ds).py = true := s.elim (fun z => SeqAt.canLay_of_shaped z) fun z => z.elim (fun z => SeqAt.canLay_of_shaped z) fun z => z
    simpa [D.py, PyData.canLay0] using q
  | .fls ds, v, s, h => by
    obtain ⟨l, a, vs, rfl, q, r⟩ := h
    refine .lst ?_ (Reps.dp ds vs ?_ r)
    · rcases q with ⟨q, _⟩ | ⟨o, q⟩ | q
      · exact .inl (.inl q)
      · exact .inl (.inr ⟨o, q⟩)
      · exact .inr q
    have q : PyData.canLay0 (D.fls ds).py = true := s.elim (fun z => SeqAt.canLay_of_shaped z) fun z => z.elim (fun z => SeqAt.canLay_of_shaped z) fun z => z
    simpa [D.py, PyData.canLay0] using q
  | .dic _, v, s, h => by
    have q : PyData.canLay0 (.dict []) = true := s.elim (fun z => SeqAt.canLay_of_shaped z) fun z => z.elim (fun z => SeqAt.canLay_of_shaped z) fun z => z
    simp [PyData.canLay0] at q
  | .ref _, v, s, h => by
    have q : PyData.canLay0 (.dict []) = true := s.elim (fun z => SeqAt.canLay_of_shaped z) fun z => z.elim (fun z => SeqAt.canLay_of_shaped z) fun z => z
    simp [PyData.canLay0] at q
  | .clo _ _, v, s, h => h.elim
  | .mlst _, v, s, h => h.elim
  | .mset _, v, s, h => h.elim
  | .mdic _, v, s, h => h.elim
  | .ins _ _, v, s, h => h.elim
theorem Reps.dp : ∀ (ds : List D) (vs : List V), PyData.canLayAll0 (pys ds) = true → Reps K ω H ds vs → DpAll K H vs (pys ds)
  | [], vs, _, h => by rw [show vs = [] from h]; exact .nil
  | d :: ds, vs, s, h => by
    obtain ⟨v, r, rfl, h1, h2⟩ := h
    have q : PyData.canLay0 d.py = true ∧ PyData.canLayAll0 (pys ds) = true := by simpa [pys, PyData.canLayAll0] using s
    exact .cons (Rep.dp d v (.inr (.inr q.1)) h1) (Reps.dp ds r q.2 h2)
end

/-- a name's value: handed on, or owned -/
def OwnR (K : PySem.W.Frag) (ω : Wd) (H : Hp) (t : Root) : D → V → Prop
  | .mlst ds, v => ∃ a vs, v = .ref a ∧ H a = some (.lst vs) ∧ ω.wr a = some (t, []) ∧ Reps K ω H ds vs
  | d, v => Rep K ω H d v
theorem OwnR.of {t : Root} {d : D} {v : V} (h : Rep K ω H d v) : OwnR K ω H t d v := by
  cases d <;> first | exact h | exact h.elim
theorem OwnR.rep {t : Root} {d : D} {v : V} (o : d.own = false) (h : OwnR K ω H t d v) : Rep K ω H d v := by
  cases d <;> first | exact h | exact absurd o (by simp [D.own])

/-- the names' values -/
structure Loc (K : PySem.W.Frag) (ω : Wd) (dp : Nat) (ρ : Env) (σ : L2.St) (H : Hp) : Prop where
  len : σ.length = ρ.length
  at_ : ∀ i d, ρ[i]? = some (some d) → ∃ v, σ[i]? = some (some v) ∧ OwnR K ω H (.slot dp i) d v
/-- the store's cells -/
structure StoOk (K : PySem.W.Frag) (ω : Wd) (st : Sto) (H : Hp) : Prop where
  len : ω.mu.length = st.length
  trk : ∀ a, ω.wr a ≠ none → H a ≠ none
  at_ : ∀ (l : Nat) (d : D), st[l]? = some d → False
/-- from one state to another: values are kept; what belongs to names of frames below dp stays as it is -/
structure Ext (dp : Nat) (ω : Wd) (H : Hp) (ω' : Wd) (H' : Hp) : Prop where
  kept : Kept ω H ω' H'
  fix : ∀ a k i p, ω.wr a = some (.slot k i, p) → k < dp → ω'.wr a = ω.wr a ∧ H' a = H a
theorem Ext.refl {dp : Nat} : Ext dp ω H ω H := ⟨.refl, fun _ _ _ _ _ _ => ⟨rfl, rfl⟩⟩
theorem Ext.trans {dp : Nat} (a : Ext dp ω H ω' H') (b : Ext dp ω' H' ω'' H'') : Ext dp ω H ω'' H'' :=
  ⟨a.kept.trans b.kept, fun c k i p h hk => by
    obtain ⟨e1, e2⟩ := a.fix c k i p h hk
    obtain ⟨e3, e4⟩ := b.fix c k i p (e1.trans h) hk
    exact ⟨e3.trans e1, e4.trans e2⟩⟩
theorem Ext.mono {dp dp' : Nat} (a : Ext dp' ω H ω' H') (h : dp ≤ dp') : Ext dp ω H ω' H' := ⟨a.kept, fun c k i p e hk => a.fix c k i p e (Nat.lt_of_lt_of_le hk h)⟩
theorem Rep.ext {dp : Nat} (x : Ext dp ω H ω' H') {d : D} {v : V} (h : Rep K ω H d v) : Rep K ω' H' d v := Rep.kept x.kept d v h
theorem Reps.ext {dp : Nat} (x : Ext dp ω H ω' H') {d : List D} {v : List V} (h : Reps K ω H d v) : Reps K ω' H' d v := Reps.kept x.kept d v h
theorem OwnR.ext {dp k i : Nat} (x : Ext dp ω H ω' H') (hk : k < dp) {d : D} {v : V} (h : OwnR K ω H (.slot k i) d v) : OwnR K ω' H' (.slot k i) d v := by
  cases d with
  | mlst ds =>
    obtain ⟨a, vs, e, q, w, r⟩ := h
    obtain ⟨e1, e2⟩ := x.fix a k i [] w hk
    exact ⟨a, vs, e, e2.trans q, e1.trans w, r.ext x⟩
  | _ => first | exact Rep.ext x h
theorem Loc.ext {dp : Nat} {ρ : Env} {σ : L2.St} (x : Ext (dp + 1) ω H ω' H') (h : Loc K ω dp ρ σ H) : Loc K ω' dp ρ σ H' :=
  ⟨h.len, fun i d e => let ⟨v, e', r⟩ := h.at_ i d e; ⟨v, e', r.ext x (Nat.lt_succ_self _)⟩⟩
/-- new things only -/
theorem Ext.grow {dp : Nat} (hw : ∀ a, ω.wr a ≠ none → H a ≠ none) (g : Same H H') : Ext dp ω H ω H' :=
  ⟨.grow g, fun a k i p e _ => ⟨rfl, by
    cases q : H a with
    | none => exact absurd q (hw a (by rw [e]; simp))
    | some o => rw [g _ _ q]⟩⟩
end
end TL

namespace TL
open PySem L2
section
variable {K : PySem.W.Frag} {ω ω' ω'' : Wd} {H H' H'' : Hp}
theorem StoOk.grow {st : Sto} (h : StoOk K ω st H) (g : Same H H') : StoOk K ω st H' :=
  ⟨h.len, fun a n => by
    cases q : H a with
    | none => exact absurd q (h.trk a n)
    | some o => rw [g _ _ q]; simp, fun l d e => (h.at_ l d e).elim⟩
theorem Ext.ofGrow {dp : Nat} {st : Sto} (h : StoOk K ω st H) (g : Same H H') : Ext dp ω H ω H' := Ext.grow h.trk g
theorem Rep.grow (g : Same H H') {d : D} {v : V} (h : Rep K ω H d v) : Rep K ω H' d v := Rep.kept (.grow g) d v h
theorem Reps.grow (g : Same H H') {d : List D} {v : List V} (h : Reps K ω H d v) : Reps K ω H' d v := Reps.kept (.grow g) d v h
theorem same_new {p : Addr} (h : H p = none) (o : HO) : Same H (upd H p o) := fun b u q => by rw [upd_ne (ne_of_none q h)]; exact q
theorem same_refl : Same H H := fun _ _ q => q

/-- what stands behind a piece of code that gives r -/
def Post (K : PySem.W.Frag) (dp : Nat) (W : WX) (cls : Nat → Value) (σ : L2.St) (ω : Wd) (H : Hp) {α : Type} (r : R α) (P : α → Sto → Wd → Hp → Prop) : Prop := match r with
  | .ok a st' => ∀ ω' H', Ext (dp + 1) ω H ω' H' → StoOk K ω' st' H' → P a st' ω' H'
  | .exc c st' => ∀ ω' H', Ext (dp + 1) ω H ω' H' → StoOk K ω' st' H' → W (cls c) none σ H'
  | .fail => False
variable {dp : Nat} {W : WX} {cls : Nat → Value} {σ : L2.St}
theorem Post.bind {α β : Type} {r : R α} {f : α → Sto → R β} {P : β → Sto → Wd → Hp → Prop} (h : Post K dp W cls σ ω H (r.bind f) P) :
    Post K dp W cls σ ω H r fun a st1 ω1 H1 => Post K dp W cls σ ω1 H1 (f a st1) P := by
  cases r with
  | ok a st1 =>
    intro ω1 H1 x1 s1
    have h : Post K dp W cls σ ω H (f a st1) P := h
    show Post K dp W cls σ ω1 H1 (f a st1) P
    cases q : f a st1 with
    | ok b st2 => rw [q] at h; exact fun ω2 H2 x2 s2 => h ω2 H2 (x1.trans x2) s2
    | exc c st2 => rw [q] at h; exact fun ω2 H2 x2 s2 => h ω2 H2 (x1.trans x2) s2
    | fail => rw [q] at h; exact h
  | exc c st1 => exact h
  | fail => exact h
theorem Post.mono {α : Type} {r : R α} {P P' : α → Sto → Wd → Hp → Prop} (h : Post K dp W cls σ ω H r P) (i : ∀ a st' ω' H', Ext (dp + 1) ω H ω' H' → StoOk K ω' st' H' → P a st' ω' H' → P' a st' ω' H') : Post K dp W cls σ ω H r P' := by
  cases r with
  | ok a st1 => exact fun ω' H' x s => i _ _ _ _ x s (h ω' H' x s)
  | exc c st1 => exact h
  | fail => exact h
theorem Post.lift {α : Type} {st : Sto} {o : Option α} {P : α → Sto → Wd → Hp → Prop} (h : Post K dp W cls σ ω H (R.lift st o) P) : ∃ d, o = some d ∧ ∀ ω' H', Ext (dp + 1) ω H ω' H' → StoOk K ω' st H' → P d st ω' H' := by
  cases o with
  | some d => exact ⟨d, rfl, h⟩
  | none => exact h.elim
/-- an expression's reading -/
def tE (K : PySem.W.Frag) (C : Cal) (dp : Nat) (W : WX) (cls : Nat → Value) (m : E) : TE := fun σ H Q => ∃ ω ρ st, Loc K ω dp ρ σ H ∧ StoOk K ω st H ∧
  Post K dp W cls σ ω H (ev C m ρ st) fun d _ ω' H' => ∀ v, Rep K ω' H' d v → Q v H'
/-- a test's -/
def tT (K : PySem.W.Frag) (C : Cal) (dp : Nat) (W : WX) (cls : Nat → Value) (m : E) : TT := fun σ H Q => ∃ ω ρ st, Loc K ω dp ρ σ H ∧ StoOk K ω st H ∧
  Post K dp W cls σ ω H (ev C m ρ st) fun d _ ω' H' => ∃ b, d = .bl b ∧ Q b H'
/-- several -/
def tEs (K : PySem.W.Frag) (C : Cal) (dp : Nat) (W : WX) (cls : Nat → Value) (ms : List E) : TA := fun σ H Q => ∃ ω ρ st, Loc K ω dp ρ σ H ∧ StoOk K ω st H ∧
  Post K dp W cls σ ω H (evs C ms ρ st) fun ds _ ω' H' => ∀ vs, Reps K ω' H' ds vs → Q vs H'
end
section
variable {X : Cx} {e : Expr} {es : List Expr} {t t' : TE} {u u' : TT} {ta ta' : TA}
theorem pe_imp (h : PE X e t) (i : ∀ σ H Q, t' σ H Q → t σ H Q) : PE X e t' := ⟨fun pins s σ H Q I q => h.run pins s σ H Q I (i σ H Q q)⟩
theorem pt_imp (h : PT X e u) (i : ∀ σ H Q, u' σ H Q → u σ H Q) : PT X e u' := ⟨fun pins s σ H Q I q => h.run pins s σ H Q I (i σ H Q q)⟩
theorem pa_imp (h : PA X es ta) (i : ∀ σ H Q, ta' σ H Q → ta σ H Q) : PA X es ta' := ⟨fun pos pins s σ H Q I q => h.run pos pins s σ H Q I (i σ H Q q)⟩
end

/-- an operation on values by what it gives -/
def rB (K : PySem.W.Frag) (g : D → D → Option D) : R2 := fun x y H Q => ∃ (ω : Wd) (a b d : D), (∀ a, ω.wr a ≠ none → H a ≠ none) ∧ Rep K ω H a x ∧ Rep K ω H b y ∧ g a b = some d ∧ ∀ H' v, Same H H' → Rep K ω H' d v → Q v H'
theorem fresh_wr {ω : Wd} {H : Hp} (tr : ∀ a, ω.wr a ≠ none → H a ≠ none) {p : Addr} (hp : H p = none) : ω.wr p = none := by
  cases q : ω.wr p with
  | none => rfl
  | some z => exact absurd hp (tr p (by rw [q]; simp))
section
variable {X : Cx} {K : PySem.W.Frag} {f : Value → Value → Sem Value} {r : R2} {g : D → D → Option D}
theorem opr_imp {r r' : R2} (h : OpR X f r) (i : ∀ x y H Q, r' x y H Q → r x y H Q) : OpR X f r' := fun pins s σ H x y v u Q I rx ry q => h pins s σ H x y v u Q I rx ry (i x y H Q q)
theorem rep_new_lst {ω : Wd} {H : Hp} (tr : ∀ a, ω.wr a ≠ none → H a ≠ none) {ds : List D} {vs : List V} {p : Addr} (hp : H p = none) (r : Reps K ω H ds vs) (l : ds.length ≤ sizeLine) : Rep K ω (upd H p (.lst vs)) (.lst ds) (.ref p) :=
  ⟨l, p, vs, rfl, upd_same, fresh_wr tr hp, r.grow (same_new hp _)⟩
theorem rep_new_tup {ω : Wd} {H : Hp} {ds : List D} {vs : List V} {p : Addr} (hp : H p = none) (r : Reps K ω H ds vs) (l : ds.length ≤ sizeLine) : Rep K ω (upd H p (.tup vs)) (.tup ds) (.ref p) :=
  ⟨l, p, vs, rfl, SqT.of upd_same, r.grow (same_new hp _)⟩
theorem op_dAdd : OpR X (binaryOp .Add) (rB X.K dAdd) := by
  refine opr_imp (op_add.or (op_add_str.or (op_catA.or op_cat))) ?_
  rintro x y H Q ⟨ω, a, b, d, tr, ra, rb, e, q⟩
  unfold dAdd at e
  split at e
  · cases e
    cases ra; cases rb
    exact .inl ⟨_, _, rfl, rfl, q H _ same_refl rfl⟩
  · split at e
    · rename_i hl
      cases e
      obtain ⟨rfl, _⟩ := ra
      obtain ⟨rfl, _⟩ := rb
      refine .inr (.inl ⟨_, _, rfl, rfl, hl, q H _ same_refl ⟨rfl, ?_⟩⟩)
      show (Str.append _ _).cps.size ≤ _
      unfold Str.append
      rw [Array.size_append]
      exact hl
    · cases e
  · split at e
    · rename_i hl
      cases e
      obtain ⟨_, a1, vs, rfl, s1, r1⟩ := ra
      obtain ⟨_, a2, ws, rfl, s2, r2⟩ := rb
      have l1 := r1.length
      have l2 := r2.length
      refine .inr (.inr (.inl ⟨a1, a2, vs, ws, rfl, rfl, s1, s2, by rw [l1, l2]; exact hl, fun e => ?_, fun n e => ?_, fun n1 n2 p hp => ?_⟩))
      · subst e
        have r0 := r1.append r2
        rw [List.nil_append] at r0
        exact q H _ same_refl ⟨by rw [List.length_append]; exact hl, a2, ws, rfl, s2, r0⟩
      · subst e
        have r0 := r1.append r2
        rw [List.append_nil] at r0
        exact q H _ same_refl ⟨by rw [List.length_append]; exact hl, a1, vs, rfl, s1, r0⟩
      · exact q _ _ (same_new hp _) (rep_new_tup hp (r1.append r2) (by rw [List.length_append]; exact hl))
    · cases e
  · split at e
    · rename_i hl
      cases e
      obtain ⟨_, a1, vs, rfl, s1, w1, r1⟩ := ra
      obtain ⟨_, a2, ws, rfl, s2, w2, r2⟩ := rb
      have l1 := r1.length
      have l2 := r2.length
      refine .inr (.inr (.inr ⟨a1, a2, vs, ws, rfl, rfl, s1, s2, by rw [l1, l2]; exact hl, fun p hp => ?_⟩))
      exact q _ _ (same_new hp _) (rep_new_lst tr hp (r1.append r2) (by rw [List.length_append]; exact hl))
    · cases e
  · cases e
theorem op_dSub : OpR X (binaryOp .Sub) (rB X.K dSub) := by
  refine opr_imp op_sub ?_
  rintro x y H Q ⟨ω, a, b, d, tr, ra, rb, e, q⟩
  unfold dSub at e
  split at e
  · cases e
    cases ra; cases rb
    exact ⟨_, _, rfl, rfl, q H _ same_refl rfl⟩
  · cases e
theorem length_rep {α : Type} (k : Nat) (xs : List α) : (List.replicate k xs).flatten.length = xs.length * k := by
  induction k with
  | zero => simp
  | succ k ih => rw [List.replicate_succ, List.flatten_cons, List.length_append, ih, Nat.mul_succ, Nat.add_comm]
theorem op_dMul : OpR X (binaryOp .Mult) (rB X.K dMul) := by
  refine opr_imp (op_mul.or (op_rep.or op_repT)) ?_
  rintro x y H Q ⟨ω, a, b, d, tr, ra, rb, e, q⟩
  unfold dMul at e
  split at e
  · split at e
    · rename_i hc
      cases e
      cases ra; cases rb
      exact .inl ⟨_, _, rfl, rfl, hc, q H _ same_refl rfl⟩
    · cases e
  · split at e
    · rename_i hc
      obtain ⟨h0, h1, h2⟩ := hc
      cases e
      obtain ⟨_, a1, vs, rfl, s1, w1, r1⟩ := ra
      cases rb
      have l1 := r1.length
      refine .inr (.inl ⟨a1, _, vs, rfl, rfl, s1, by omega, h1, by rw [l1]; exact h2, fun p hp => ?_⟩)
      exact q _ _ (same_new hp _) (rep_new_lst tr hp (r1.rep _) (by rw [length_rep]; exact h2))
    · cases e
  · split at e
    · rename_i hc
      obtain ⟨h0, h1, h2, h3⟩ := hc
      cases e
      obtain ⟨_, a1, vs, rfl, s1, r1⟩ := ra
      cases rb
      have l1 := r1.length
      refine .inr (.inr ⟨a1, _, vs, rfl, rfl, s1, fun e => h0 ?_, h1, h2, by rw [l1]; exact h3, fun p hp => ?_⟩)
      · rw [e] at l1
        exact List.eq_nil_of_length_eq_zero l1.symm
      · refine q _ _ (same_new hp _) (rep_new_tup hp (r1.rep _) ?_)
        rw [length_rep, sizeLine_eq]
        rename_i ds k _
        have : ds.length * k.toNat ≤ 1000 * 1000 := Nat.mul_le_mul h3 (by omega)
        omega
    · cases e
  · cases e
theorem op_dDiv : OpR X (binaryOp .FloorDiv) (rB X.K dDiv) := by
  refine opr_imp op_fdiv ?_
  rintro x y H Q ⟨ω, a, b, d, tr, ra, rb, e, q⟩
  unfold dDiv at e
  split at e
  · split at e
    · rename_i hc
      cases e
      cases ra; cases rb
      exact ⟨_, _, rfl, rfl, hc, q H _ same_refl rfl⟩
    · cases e
  · cases e
theorem op_dMod : OpR X (binaryOp .Mod) (rB X.K dMod) := by
  refine opr_imp op_mod ?_
  rintro x y H Q ⟨ω, a, b, d, tr, ra, rb, e, q⟩
  unfold dMod at e
  split at e
  · split at e
    · rename_i hc
      cases e
      cases ra; cases rb
      exact ⟨_, _, rfl, rfl, hc, q H _ same_refl rfl⟩
    · cases e
  · cases e
theorem op_dEq (hu : X.A.units + 64 < cLine) : OpR X (compareOp .Eq) (rB X.K dEq) := by
  refine opr_imp (op_eqD hu) ?_
  rintro x y H Q ⟨ω, a, b, d, tr, ra, rb, e, q⟩
  unfold dEq at e
  split at e
  · rename_i hc
    cases e
    rw [Bool.and_eq_true] at hc
    exact ⟨_, _, Rep.dp a x (.inl hc.1) ra, Rep.dp b y (.inl hc.2) rb, hc.1, hc.2, q H _ same_refl rfl⟩
  · cases e
theorem op_dNe (hu : X.A.units + 64 < cLine) : OpR X (compareOp .NotEq) (rB X.K dNe) := by
  refine opr_imp (op_neD hu) ?_
  rintro x y H Q ⟨ω, a, b, d, tr, ra, rb, e, q⟩
  unfold dNe at e
  split at e
  · rename_i hc
    cases e
    rw [Bool.and_eq_true] at hc
    exact ⟨_, _, Rep.dp a x (.inl hc.1) ra, Rep.dp b y (.inl hc.2) rb, hc.1, hc.2, q H _ same_refl rfl⟩
  · cases e
theorem op_dLt : OpR X (compareOp .Lt) (rB X.K dLt) := by
  refine opr_imp op_lt ?_
  rintro x y H Q ⟨ω, a, b, d, tr, ra, rb, e, q⟩
  unfold dLt at e
  split at e
  · cases e
    cases ra; cases rb
    exact ⟨_, _, rfl, rfl, q H _ same_refl rfl⟩
  · cases e
theorem op_dLe : OpR X (compareOp .LtE) (rB X.K dLe) := by
  refine opr_imp (op_le.or op_le_str) ?_
  rintro x y H Q ⟨ω, a, b, d, tr, ra, rb, e, q⟩
  unfold dLe at e
  split at e
  · cases e
    cases ra; cases rb
    exact .inl ⟨_, _, rfl, rfl, q H _ same_refl rfl⟩
  · cases e
    obtain ⟨rfl, _⟩ := ra
    obtain ⟨rfl, _⟩ := rb
    exact .inr ⟨_, _, rfl, rfl, q H _ same_refl rfl⟩
  · cases e
theorem op_dGt : OpR X (compareOp .Gt) (rB X.K dGt) := by
  refine opr_imp op_gt ?_
  rintro x y H Q ⟨ω, a, b, d, tr, ra, rb, e, q⟩
  unfold dGt at e
  split at e
  · cases e
    cases ra; cases rb
    exact ⟨_, _, rfl, rfl, q H _ same_refl rfl⟩
  · cases e
theorem op_dGe : OpR X (compareOp .GtE) (rB X.K dGe) := by
  refine opr_imp op_ge ?_
  rintro x y H Q ⟨ω, a, b, d, tr, ra, rb, e, q⟩
  unfold dGe at e
  split at e
  · cases e
    cases ra; cases rb
    exact ⟨_, _, rfl, rfl, q H _ same_refl rfl⟩
  · cases e
/-- x in t, t a tuple of data -/
def rInT (K : PySem.W.Frag) (neg : Bool) : R2 := fun x y H Q => ∃ d ds, Dp K H x d ∧ Dp K H y (.tuple ds) ∧ SeqAt.shaped d = true ∧ PyData.canLayAll0 ds = true ∧ Q (.bl (if neg then !(ds.any fun z => PyData.eqv z d) else ds.any fun z => PyData.eqv z d)) H
theorem op_inT (hu : X.A.units + 65 < cLine) : OpR X (compareOp .In) (rInT X.K false) := by
  intro pins s σ H x y v u Q I rx ry h
  obtain ⟨d, ds, hd, he, sd, se, q⟩ := h
  obtain ⟨as, r1⟩ := Dp.reads I d x v hd rx
  obtain ⟨bs, r2⟩ := Dp.reads I (.tuple ds) y u he ry
  exact SeqAt.in_tuple_reads r2 r1 se (SeqAt.canLay_of_shaped sd) (PyProof.Rows.room_in_shaped sd hu) ⟨.bl _, H, I, rfl, q⟩
theorem op_notInT (hu : X.A.units + 65 < cLine) : OpR X (compareOp .NotIn) (rInT X.K true) := by
  intro pins s σ H x y v u Q I rx ry h
  obtain ⟨d, ds, hd, he, sd, se, q⟩ := h
  obtain ⟨as, r1⟩ := Dp.reads I d x v hd rx
  obtain ⟨bs, r2⟩ := Dp.reads I (.tuple ds) y u he ry
  exact SeqAt.notIn_tuple_reads r2 r1 se (SeqAt.canLay_of_shaped sd) (PyProof.Rows.room_in_shaped sd hu) ⟨.bl _, H, I, rfl, q⟩
theorem any_pys (x : PyData) : ∀ ds : List D, (pys ds).any (fun z => PyData.eqv z x) = ds.any fun y => PyData.eqv y.py x
  | [] => rfl
  | d :: ds => by
    show (PyData.eqv d.py x || (pys ds).any _) = _
    rw [any_pys x ds]
    rfl
theorem canLayAll_of {ds : List D} (h : (D.lst ds).shp = true) : PyData.canLayAll0 (pys ds) = true := by
  have q := SeqAt.canLay_of_shaped h
  simpa [D.py, PyData.canLay0] using q
theorem canLayAll_ofT {ds : List D} (h : (D.tup ds).shp = true) : PyData.canLayAll0 (pys ds) = true := by
  have q := SeqAt.canLay_of_shaped h
  simpa [D.py, PyData.canLay0] using q
theorem one_sign {s : Str} {c : Nat} (h : s.cps.toList = [c]) : s = ⟨#[c]⟩ := by
  obtain ⟨a⟩ := s
  have : a = #[c] := by
    apply Array.ext'
    exact h
  rw [this]
theorem op_dIn (hu : X.A.units + 65 < cLine) : OpR X (compareOp .In) (rB X.K dIn) := by
  refine opr_imp (op_in_sign.or ((op_inD hu).or (op_inT hu))) ?_
  rintro x y H Q ⟨ω, a, b, d, tr, ra, rb, e, q⟩
  unfold dIn at e
  cases e1 : inD a b with
  | none => rw [e1] at e; cases e
  | some k =>
    rw [e1] at e
    cases e
    unfold inD at e1
    split at e1
    · split at e1
      · split at e1
        · rename_i hs
          cases e1
          obtain ⟨rfl, _⟩ := ra
          obtain ⟨rfl, _⟩ := rb
          exact .inl ⟨_, _, by rw [one_sign hs], rfl, q H _ same_refl rfl⟩
        · cases e1
      · cases e1
    · split at e1
      · rename_i hc
        cases e1
        rw [Bool.and_eq_true] at hc
        refine .inr (.inl ⟨_, _, Rep.dp a x (.inl hc.1) ra, Rep.dp _ y (.inl hc.2) rb, hc.1, hc.2, ?_⟩)
        rw [any_pys]
        exact q H _ same_refl rfl
      · cases e1
    · split at e1
      · rename_i hc
        cases e1
        rw [Bool.and_eq_true] at hc
        refine .inr (.inr ⟨_, _, Rep.dp a x (.inl hc.1) ra, Rep.dp _ y (.inl hc.2) rb, hc.1, canLayAll_ofT hc.2, ?_⟩)
        show Q (.bl (List.any _ _)) H
        rw [any_pys]
        exact q H _ same_refl rfl
      · cases e1
    · exact rb.elim
    · exact rb.elim
    · cases e1
theorem op_dNotIn (hu : X.A.units + 65 < cLine) : OpR X (compareOp .NotIn) (rB X.K dNotIn) := by
  refine opr_imp (op_notIn_sign.or ((op_notInD hu).or (op_notInT hu))) ?_
  rintro x y H Q ⟨ω, a, b, d, tr, ra, rb, e, q⟩
  unfold dNotIn at e
  cases e1 : inD a b with
  | none => rw [e1] at e; cases e
  | some k =>
    rw [e1] at e
    cases e
    unfold inD at e1
    split at e1
    · split at e1
      · split at e1
        · rename_i hs
          cases e1
          obtain ⟨rfl, _⟩ := ra
          obtain ⟨rfl, _⟩ := rb
          exact .inl ⟨_, _, by rw [one_sign hs], rfl, q H _ same_refl rfl⟩
        · cases e1
      · cases e1
    · split at e1
      · rename_i hc
        cases e1
        rw [Bool.and_eq_true] at hc
        refine .inr (.inl ⟨_, _, Rep.dp a x (.inl hc.1) ra, Rep.dp _ y (.inl hc.2) rb, hc.1, hc.2, ?_⟩)
        rw [any_pys]
        exact q H _ same_refl rfl
      · cases e1
    · split at e1
      · rename_i hc
        cases e1
        rw [Bool.and_eq_true] at hc
        refine .inr (.inr ⟨_, _, Rep.dp a x (.inl hc.1) ra, Rep.dp _ y (.inl hc.2) rb, hc.1, canLayAll_ofT hc.2, ?_⟩)
        show Q (.bl (!List.any _ _)) H
        rw [any_pys]
        exact q H _ same_refl rfl
      · cases e1
    · exact rb.elim
    · exact rb.elim
    · cases e1
theorem op_dIsB : OpR X (compareOp .Is) (rB X.K (o2 .isB)) := by
  refine opr_imp L2.op_is_bl ?_
  rintro x y H Q ⟨ω, a, b, d, tr, ra, rb, e, q⟩
  unfold o2 at e
  split at e <;> try cases e
  all_goals try contradiction
  all_goals
    cases ra; cases rb
    exact ⟨_, _, rfl, rfl, q H _ same_refl rfl⟩
theorem op_dIsNotB : OpR X (compareOp .IsNot) (rB X.K (o2 .isNotB)) := by
  refine opr_imp L2.op_isnot_bl ?_
  rintro x y H Q ⟨ω, a, b, d, tr, ra, rb, e, q⟩
  unfold o2 at e
  split at e <;> try cases e
  all_goals try contradiction
  all_goals
    cases ra; cases rb
    exact ⟨_, _, rfl, rfl, q H _ same_refl rfl⟩
theorem ixr_imp {r r' : R2} (h : IxR X r) (i : ∀ x y H Q, r' x y H Q → r x y H Q) : IxR X r' := fun value slice pins s σ H x y v u Q I rx ry q hs => h value slice pins s σ H x y v u Q I rx ry (i x y H Q q) hs
theorem atI_rep {ω : Wd} {H : Hp} {ds : List D} {vs : List V} {i : Int} {d : D} (r : Reps K ω H ds vs) (e : atI ds i = some d) : ∃ v, atI vs i = some v ∧ Rep K ω H d v := by
  unfold atI at e ⊢
  rw [r.length]
  cases q : ixN ds.length i with
  | none => rw [q] at e; cases e
  | some j =>
    rw [q] at e
    exact r.get e
theorem op_dIx : IxR X (rB X.K dIx) := by
  refine ixr_imp ix_seq ?_
  rintro x y H Q ⟨ω, a, b, d, tr, ra, rb, e, q⟩
  unfold dIx at e
  split at e
  · obtain ⟨_, a1, vs, rfl, s1, r1⟩ := ra
    cases rb
    obtain ⟨v, e1, rv⟩ := atI_rep r1 e
    exact .inr (.inl ⟨a1, vs, _, v, rfl, rfl, s1, e1, q H v same_refl rv⟩)
  · obtain ⟨_, a1, vs, rfl, s1, w1, r1⟩ := ra
    cases rb
    obtain ⟨v, e1, rv⟩ := atI_rep r1 e
    exact .inl ⟨a1, vs, _, v, rfl, rfl, SqL.of s1, e1, q H v same_refl rv⟩
  · obtain ⟨_, a1, vs, rfl, s1, r1⟩ := ra
    cases rb
    obtain ⟨v, e1, rv⟩ := atI_rep r1 e
    refine .inl ⟨a1, vs, _, v, rfl, rfl, ?_, e1, q H v same_refl rv⟩
    rcases s1 with ⟨s1, _⟩ | ⟨o, s1⟩ | s1
    · exact .inl (.inl s1)
    · exact .inl (.inr ⟨o, s1⟩)
    · exact .inr s1
  · obtain ⟨rfl, l1⟩ := ra
    cases rb
    rename_i z i
    cases e1 : atI z.cps.toList i with
    | none => rw [e1] at e; cases e
    | some c =>
      rw [e1] at e
      cases e
      refine .inr (.inr ⟨_, _, c, rfl, rfl, l1, e1, q H _ same_refl ⟨rfl, ?_⟩⟩)
      show 1 ≤ sizeLine
      rw [sizeLine_eq]
      decide
  · cases e
end
end TL

namespace TL
open PySem L2
/-- a call of one value by what it gives -/
def rC (K : PySem.W.Frag) (g : D → Option D) : List V → Hp → VK → Prop := fun xs H Q => ∃ (ω : Wd) (a d : D), (∀ a, ω.wr a ≠ none → H a ≠ none) ∧ Reps K ω H [a] xs ∧ g a = some d ∧ ∀ H' v, Same H H' → Rep K ω H' d v → Q v H'
def rC2 (K : PySem.W.Frag) (g : D → D → Option D) : List V → Hp → VK → Prop := fun xs H Q => ∃ (ω : Wd) (a b d : D), (∀ a, ω.wr a ≠ none → H a ≠ none) ∧ Reps K ω H [a, b] xs ∧ g a b = some d ∧ ∀ H' v, Same H H' → Rep K ω H' d v → Q v H'
/-- a method of a value with one argument -/
def rM (K : PySem.W.Frag) (g : D → D → Option D) : V → List V → Hp → VK → Prop := fun x xs H Q => ∃ (ω : Wd) (a b d : D), (∀ a, ω.wr a ≠ none → H a ≠ none) ∧ Rep K ω H a x ∧ Reps K ω H [b] xs ∧ g a b = some d ∧ ∀ H' v, Same H H' → Rep K ω H' d v → Q v H'
section
variable {X : Cx} {K : PySem.W.Frag} {ω : Wd} {H : Hp}
theorem callr_imp {f : Value} {r r' : List V → Hp → VK → Prop} (h : CallR X f r) (i : ∀ xs H Q, r' xs H Q → r xs H Q) : CallR X f r' := fun pins s σ H xs us Q I rx q => h pins s σ H xs us Q I rx (i xs H Q q)
theorem mtr_imp {id : String} {r r' : V → List V → Hp → VK → Prop} (h : MtR X id r) (i : ∀ x xs H Q, r' x xs H Q → r x xs H Q) : MtR X id r' := fun pins s σ H x xs v us Q I rx rs q => h pins s σ H x xs v us Q I rx rs (i x xs H Q q)
theorem sq_fls {a : Addr} {vs : List V} (q : (H a = some (.lst vs) ∧ ω.wr a = none) ∨ (∃ o, H a = some (.frz o (.lst vs))) ∨ ∃ (o : Obj) (its : Array Value) (n : Nat), K.lookup a = some o ∧ o.cls = .type "list" ∧ o.dict = none ∧ o.data = .seq its n ∧ its.size ≤ sizeLine ∧ Vals vs its.toList) : SqL K H a vs := by
  rcases q with ⟨q, _⟩ | ⟨o, q⟩ | q
  · exact .inl (.inl q)
  · exact .inl (.inr ⟨o, q⟩)
  · exact .inr q
theorem reps_ints : ∀ {ds : List D} {ns : List Int} {vs : List V}, intsOf ds = some ns → Reps K ω H ds vs → vs = ns.map V.int
  | [], ns, vs, e, h => by cases e; exact h
  | d :: ds, ns, vs, e, h => by
    obtain ⟨v, r, rfl, h1, h2⟩ := h
    cases d <;> first | (simp [intsOf] at e; done) | skip
    rename_i i
    simp only [intsOf, Option.map_eq_some_iff] at e
    obtain ⟨ms, e1, rfl⟩ := e
    rw [reps_ints e1 h2, show v = .int i from h1]
    rfl
theorem reps_bls : ∀ {ds : List D} {ns : List Bool} {vs : List V}, blsOf ds = some ns → Reps K ω H ds vs → vs = ns.map V.bl
  | [], ns, vs, e, h => by cases e; exact h
  | d :: ds, ns, vs, e, h => by
    obtain ⟨v, r, rfl, h1, h2⟩ := h
    cases d <;> first | (simp [blsOf] at e; done) | skip
    rename_i i
    simp only [blsOf, Option.map_eq_some_iff] at e
    obtain ⟨ms, e1, rfl⟩ := e
    rw [reps_bls e1 h2, show v = .bl i from h1]
    rfl
theorem reps_strs : ∀ {ds : List D} {ns : List Str} {vs : List V}, strsOf ds = some ns → Reps K ω H ds vs → vs = ns.map V.str
  | [], ns, vs, e, h => by cases e; exact h
  | d :: ds, ns, vs, e, h => by
    obtain ⟨v, r, rfl, h1, h2⟩ := h
    cases d <;> first | (simp [strsOf] at e; done) | skip
    rename_i i
    simp only [strsOf, Option.map_eq_some_iff] at e
    obtain ⟨ms, e1, rfl⟩ := e
    rw [reps_strs e1 h2, show v = .str i from h1.1]
    rfl
theorem reps_strs_le : ∀ {ds : List D} {ns : List Str} {vs : List V}, strsOf ds = some ns → Reps K ω H ds vs → ∀ x ∈ ns, x.length ≤ sizeLine
  | [], ns, vs, e, h => by cases e; simp
  | d :: ds, ns, vs, e, h => by
    obtain ⟨v, r, rfl, h1, h2⟩ := h
    cases d <;> first | (simp [strsOf] at e; done) | skip
    rename_i i
    simp only [strsOf, Option.map_eq_some_iff] at e
    obtain ⟨ms, e1, rfl⟩ := e
    intro x hx
    rcases List.mem_cons.mp hx with rfl | hx
    · exact h1.2
    · exact reps_strs_le e1 h2 x hx
theorem reps_of_strs : ∀ {ns : List Str}, (∀ x ∈ ns, x.length ≤ sizeLine) → Reps K ω H (ns.map D.str) (ns.map V.str)
  | [], _ => rfl
  | x :: ns, h => ⟨.str x, _, rfl, ⟨rfl, h x List.mem_cons_self⟩, reps_of_strs fun y hy => h y (List.mem_cons_of_mem _ hy)⟩

theorem cr_len : CallR X (.builtin "len") (rC X.K (o1 .len)) := by
  refine callr_imp (call_len_seq.or call_len_str) ?_
  rintro xs H Q ⟨ω, a, d, tr, ra0, e, q⟩
  obtain ⟨v, rfl, ra⟩ := ra0.one
  clear ra0
  cases a with
  | tup ds =>
    cases e
    obtain ⟨_, a1, vs, rfl, s1, r1⟩ := ra
    refine .inl ⟨a1, vs, rfl, .inr s1, ?_⟩
    rw [r1.length]
    exact q H _ same_refl rfl
  | lst ds =>
    cases e
    obtain ⟨_, a1, vs, rfl, s1, w1, r1⟩ := ra
    refine .inl ⟨a1, vs, rfl, .inl (SqL.of s1), ?_⟩
    rw [r1.length]
    exact q H _ same_refl rfl
  | fls ds =>
    cases e
    obtain ⟨_, a1, vs, rfl, s1, r1⟩ := ra
    refine .inl ⟨a1, vs, rfl, .inl (sq_fls s1), ?_⟩
    rw [r1.length]
    exact q H _ same_refl rfl
  | str x =>
    cases e
    obtain ⟨rfl, l1⟩ := ra
    exact .inr ⟨x, rfl, l1, q H _ same_refl rfl⟩
  | _ => cases e
theorem cr_tuple : CallR X (.type "tuple") (rC X.K (o1 .tuple)) := by
  refine callr_imp call_tuple_of ?_
  rintro xs H Q ⟨ω, a, d, tr, ra0, e, q⟩
  obtain ⟨v, rfl, ra⟩ := ra0.one
  clear ra0
  cases a with
  | tup ds =>
    cases e
    obtain ⟨l1, a1, vs, rfl, s1, r1⟩ := ra
    exact ⟨a1, vs, rfl, .inr ⟨s1, q H _ same_refl ⟨l1, a1, vs, rfl, s1, r1⟩⟩⟩
  | lst ds =>
    cases e
    obtain ⟨l1, a1, vs, rfl, s1, w1, r1⟩ := ra
    exact ⟨a1, vs, rfl, .inl ⟨SqL.of s1, fun p hp => q _ _ (same_new hp _) (rep_new_tup hp r1 l1)⟩⟩
  | _ => cases e
theorem cr_list : CallR X (.type "list") (rC X.K (o1 .list)) := by
  refine callr_imp call_list_of ?_
  rintro xs H Q ⟨ω, a, d, tr, ra0, e, q⟩
  obtain ⟨v, rfl, ra⟩ := ra0.one
  clear ra0
  cases a with
  | tup ds =>
    cases e
    obtain ⟨l1, a1, vs, rfl, s1, r1⟩ := ra
    exact ⟨a1, vs, rfl, .inr s1, fun p hp => q _ _ (same_new hp _) (rep_new_lst tr hp r1 l1)⟩
  | lst ds =>
    cases e
    obtain ⟨l1, a1, vs, rfl, s1, w1, r1⟩ := ra
    exact ⟨a1, vs, rfl, .inl (SqL.of s1), fun p hp => q _ _ (same_new hp _) (rep_new_lst tr hp r1 l1)⟩
  | _ => cases e
theorem cr_dsum (hc : X.calm = true) : CallR X (.builtin "sum") (rC X.K (o1 .sum)) := by
  refine callr_imp (cr_sum hc) ?_
  rintro xs H Q ⟨ω, a, d, tr, ra0, e, q⟩
  obtain ⟨v, rfl, ra⟩ := ra0.one
  clear ra0
  cases a with
  | lst ds =>
    simp only [o1, Option.map_eq_some_iff] at e
    obtain ⟨ns, e1, rfl⟩ := e
    obtain ⟨l1, a1, vs, rfl, s1, w1, r1⟩ := ra
    have z := reps_ints e1 r1
    subst z
    exact ⟨a1, ns, rfl, SqL.of s1, q H _ same_refl rfl⟩
  | _ => cases e
theorem cr_dall (hc : X.calm = true) : CallR X (.builtin "all") (rC X.K (o1 .all)) := by
  refine callr_imp (L2.cr_all hc) ?_
  rintro xs H Q ⟨ω, a, d, tr, ra0, e, q⟩
  obtain ⟨v, rfl, ra⟩ := ra0.one
  clear ra0
  cases a with
  | lst ds =>
    simp only [o1, Option.map_eq_some_iff] at e
    obtain ⟨ns, e1, rfl⟩ := e
    obtain ⟨l1, a1, vs, rfl, s1, w1, r1⟩ := ra
    have z := reps_bls e1 r1
    subst z
    exact ⟨a1, ns, rfl, SqL.of s1, q H _ same_refl rfl⟩
  | _ => cases e
theorem maxL_mem : ∀ {ns : List Int}, ns ≠ [] → maxL ns ∈ ns ∧ ∀ y ∈ ns, y ≤ maxL ns
  | [], h => absurd rfl h
  | [x], _ => by simp [maxL]
  | x :: y :: r, _ => by
    obtain ⟨h1, h2⟩ := maxL_mem (ns := y :: r) (by simp)
    show (if maxL (y :: r) > x then maxL (y :: r) else x) ∈ _ ∧ _
    show (if maxL (y :: r) > x then maxL (y :: r) else x) ∈ _ ∧ ∀ z ∈ x :: y :: r, z ≤ (if maxL (y :: r) > x then maxL (y :: r) else x)
    split
    · refine ⟨List.mem_cons_of_mem _ h1, fun z hz => ?_⟩
      rcases List.mem_cons.mp hz with rfl | hz
      · omega
      · exact h2 z hz
    · refine ⟨List.mem_cons_self, fun z hz => ?_⟩
      rcases List.mem_cons.mp hz with rfl | hz
      · exact Int.le_refl _
      · have := h2 z hz
        omega
theorem minL_mem : ∀ {ns : List Int}, ns ≠ [] → minL ns ∈ ns ∧ ∀ y ∈ ns, minL ns ≤ y
  | [], h => absurd rfl h
  | [x], _ => by simp [minL]
  | x :: y :: r, _ => by
    obtain ⟨h1, h2⟩ := minL_mem (ns := y :: r) (by simp)
    show (if minL (y :: r) < x then minL (y :: r) else x) ∈ _ ∧ ∀ z ∈ x :: y :: r, (if minL (y :: r) < x then minL (y :: r) else x) ≤ z
    split
    · refine ⟨List.mem_cons_of_mem _ h1, fun z hz => ?_⟩
      rcases List.mem_cons.mp hz with rfl | hz
      · omega
      · exact h2 z hz
    · refine ⟨List.mem_cons_self, fun z hz => ?_⟩
      rcases List.mem_cons.mp hz with rfl | hz
      · exact Int.le_refl _
      · have := h2 z hz
        omega
theorem cr_dmax (hc : X.calm = true) : CallR X (.builtin "max") (rC X.K (o1 .max)) := by
  refine callr_imp (L2.cr_max hc) ?_
  rintro xs H Q ⟨ω, a, d, tr, ra0, e, q⟩
  obtain ⟨v, rfl, ra⟩ := ra0.one
  clear ra0
  cases a with
  | lst ds =>
    simp only [o1, Option.bind_eq_some_iff] at e
    obtain ⟨ns, e1, e⟩ := e
    split at e
    · cases e
    · rename_i hn
      cases e
      obtain ⟨l1, a1, vs, rfl, s1, w1, r1⟩ := ra
      have z := reps_ints e1 r1
      subst z
      refine ⟨a1, ns, rfl, SqL.of s1, List.length_pos_iff.mpr hn, fun m hm hy => ?_⟩
      obtain ⟨h1, h2⟩ := maxL_mem hn
      have : m = maxL ns := Int.le_antisymm (h2 m hm) (hy _ h1)
      rw [this]
      exact q H _ same_refl rfl
  | _ => cases e
theorem cr_dmin (hc : X.calm = true) : CallR X (.builtin "min") (rC X.K (o1 .min)) := by
  refine callr_imp (L2.cr_min hc) ?_
  rintro xs H Q ⟨ω, a, d, tr, ra0, e, q⟩
  obtain ⟨v, rfl, ra⟩ := ra0.one
  clear ra0
  cases a with
  | lst ds =>
    simp only [o1, Option.bind_eq_some_iff] at e
    obtain ⟨ns, e1, e⟩ := e
    split at e
    · cases e
    · rename_i hn
      cases e
      obtain ⟨l1, a1, vs, rfl, s1, w1, r1⟩ := ra
      have z := reps_ints e1 r1
      subst z
      refine ⟨a1, ns, rfl, SqL.of s1, List.length_pos_iff.mpr hn, fun m hm hy => ?_⟩
      obtain ⟨h1, h2⟩ := minL_mem hn
      have : m = minL ns := Int.le_antisymm (hy _ h1) (h2 m hm)
      rw [this]
      exact q H _ same_refl rfl
  | _ => cases e
theorem cr_dint : CallR X (.type "int") (rC X.K (o1 .int)) := by
  refine callr_imp call_int1 ?_
  rintro xs H Q ⟨ω, a, d, tr, ra0, e, q⟩
  obtain ⟨v, rfl, ra⟩ := ra0.one
  clear ra0
  cases a with
  | int i => cases e; cases ra; exact .inl ⟨i, rfl, q H _ same_refl rfl⟩
  | bl b => cases e; cases ra; exact .inr ⟨b, rfl, q H _ same_refl rfl⟩
  | _ => cases e
theorem cr_dstr : CallR X (.type "str") (rC X.K (o1 .str)) := by
  refine callr_imp call_str_int ?_
  rintro xs H Q ⟨ω, a, d, tr, ra0, e, q⟩
  obtain ⟨v, rfl, ra⟩ := ra0.one
  clear ra0
  cases a with
  | int i =>
    simp only [o1] at e
    split at e
    · rename_i hc
      cases e
      cases ra
      exact ⟨i, rfl, hc.1, q H _ same_refl ⟨rfl, hc.2⟩⟩
    · cases e
  | _ => cases e
theorem cr_dmax2 (hc : X.calm = true) : CallR X (.builtin "max") (rC2 X.K (o2 .max)) := by
  refine callr_imp (call_max2 hc) ?_
  rintro xs H Q ⟨ω, a, b, d, tr, r, e, q⟩
  obtain ⟨v, w, rfl, ra, rb⟩ := r.two
  unfold o2 at e
  split at e <;> try cases e
  all_goals try contradiction
  all_goals
    cases ra; cases rb
    exact ⟨_, _, rfl, q H _ same_refl rfl⟩
theorem cr_dmin2 (hc : X.calm = true) : CallR X (.builtin "min") (rC2 X.K (o2 .min)) := by
  refine callr_imp (call_min2 hc) ?_
  rintro xs H Q ⟨ω, a, b, d, tr, r, e, q⟩
  obtain ⟨v, w, rfl, ra, rb⟩ := r.two
  unfold o2 at e
  split at e <;> try cases e
  all_goals try contradiction
  all_goals
    cases ra; cases rb
    exact ⟨_, _, rfl, q H _ same_refl rfl⟩
/-- the type of data -/
def tyD : D → Option String
  | .non => some "NoneType"
  | .bl _ => some "bool"
  | .int _ => some "int"
  | .str _ => some "str"
  | .tup _ => some "tuple"
  | .lst _ => some "list"
  | _ => none
theorem rep_ty {d : D} {v : V} {T : String} (h : Rep K ω H d v) (e : tyD d = some T) : TyX K H v (.type T) := by
  cases d <;> cases e
  · rw [show v = .non from h]; exact .base .non
  · rw [show v = .bl _ from h]; exact .base (.bl _)
  · rw [show v = .int _ from h]; exact .base (.int _)
  · rw [show v = .str _ from h.1]; exact .base (.str _)
  · obtain ⟨l1, a1, vs, rfl, s1, r1⟩ := h
    rcases s1 with (s1 | ⟨o, s1⟩) | ⟨o, its, n, s1, s2, _⟩
    · exact .base (.tup s1)
    · exact .fTuple s1
    · exact .kTuple s1 s2
  · obtain ⟨l1, a1, vs, rfl, s1, w1, r1⟩ := h
    exact .base (.lst s1)
def isO : String → Option O1
  | "str" => some .isStr
  | "int" => some .isInt
  | "bool" => some .isBool
  | "tuple" => some .isTuple
  | _ => none
theorem isO_ty {T : String} {o : O1} {a d : D} (h : isO T = some o) (e : o1 o a = some d) : ∃ T' b, tyD a = some T' ∧ kitB T' T = some b ∧ d = .bl b := by
  unfold isO at h
  split at h <;> cases h
  all_goals (cases a <;> cases e <;> exact ⟨_, _, rfl, (by decide +kernel), rfl⟩)
/-- isinstance(x, T) -/
theorem cr_isi {T : String} {o : O1} (h : isO T = some o) : CallR X (.builtin "isinstance") (fun xs H Q => ∃ v, xs = [v, .ty T] ∧ rC X.K (o1 o) [v] H Q) := by
  refine callr_imp call_isi ?_
  rintro xs H Q ⟨v, rfl, ω, a, d, tr, ra0, e, q⟩
  obtain ⟨v', e', ra⟩ := ra0.one
  clear ra0
  cases e'
  obtain ⟨T', b, e1, e2, rfl⟩ := isO_ty h e
  exact ⟨v, .ty T, .type T', .type T, b, rfl, .ty T, rep_ty ra e1, kit_ty e2, q H _ same_refl rfl⟩
theorem mt_dJoin : MtR X "str.join" (rM X.K (o2 .join)) := by
  refine mtr_imp mt_join ?_
  rintro x xs H Q ⟨ω, a, b, d, tr, ra, rb0, e, q⟩
  obtain ⟨v, rfl, rb⟩ := rb0.one
  clear rb0
  unfold o2 at e
  split at e <;> try cases e
  all_goals try contradiction
  rename_i s ds _
  simp only [Option.bind_eq_some_iff] at e
  obtain ⟨ys, e1, e⟩ := e
  split at e
  · rename_i hc
    cases e
    obtain ⟨rfl, _⟩ := ra
    obtain ⟨l1, a1, vs, rfl, s1, w1, r1⟩ := rb
    have z := reps_strs e1 r1
    subst z
    exact ⟨_, a1, ys, rfl, rfl, .inl (SqL.of s1), hc.1, q H _ same_refl ⟨rfl, hc.2⟩⟩
  · cases e
theorem mt_dSplit : MtR X "str.split" (rM X.K (o2 .split)) := by
  refine mtr_imp mt_split ?_
  rintro x xs H Q ⟨ω, a, b, d, tr, ra, rb0, e, q⟩
  obtain ⟨v, rfl, rb⟩ := rb0.one
  clear rb0
  unfold o2 at e
  split at e <;> try cases e
  all_goals try contradiction
  split at e
  · rename_i hc
    cases e
    obtain ⟨rfl, _⟩ := ra
    obtain ⟨rfl, _⟩ := rb
    refine ⟨_, _, rfl, rfl, hc.1, hc.2.1, fun p hp => ?_⟩
    refine q _ _ (same_new hp _) (rep_new_lst tr hp (reps_of_strs fun x hx => ?_) (by rw [List.length_map]; exact hc.2.2.1))
    exact of_decide_eq_true (List.all_eq_true.mp hc.2.2.2 x hx)
  · cases e
end
end TL

namespace TL
open PySem L2 PyProof.Rows

mutual
def deq : D → D → Bool
  | .non, .non => true
  | .bl a, .bl b => a == b
  | .int a, .int b => a == b
  | .str a, .str b => decide (a = b)
  | .tup a, .tup b => deqs a b
  | _, _ => false
def deqs : List D → List D → Bool
  | [], [] => true
  | a :: as, b :: bs => deq a b && deqs as bs
  | _, _ => false
end
mutual
theorem deq_eq : ∀ (a b : D), deq a b = true → a = b
  | .non, b, h => by cases b <;> first | rfl | (simp [deq] at h)
  | .bl x, b, h => by cases b <;> first | (simp [deq] at h; done) | (simp only [deq, beq_iff_eq] at h; rw [h])
  | .int x, b, h => by cases b <;> first | (simp [deq] at h; done) | (simp only [deq, beq_iff_eq] at h; rw [h])
  | .str x, b, h => by cases b <;> first | (simp [deq] at h; done) | (simp only [deq, decide_eq_true_eq] at h; rw [h])
  | .tup x, b, h => by cases b <;> first | (simp [deq] at h; done) | (simp only [deq] at h; rw [deqs_eq _ _ h])
  | .lst x, b, h => by simp [deq] at h
  | .fls x, b, h => by simp [deq] at h
  | .dic x, b, h => by simp [deq] at h
  | .ref x, b, h => by simp [deq] at h
  | .clo x y, b, h => by simp [deq] at h
  | .mlst x, b, h => by simp [deq] at h
  | .mset x, b, h => by simp [deq] at h
  | .mdic x, b, h => by simp [deq] at h
  | .ins x y, b, h => by simp [deq] at h
theorem deqs_eq : ∀ (a b : List D), deqs a b = true → a = b
  | [], b, h => by cases b <;> first | rfl | (simp [deqs] at h)
  | a :: as, b, h => by
    cases b with
    | nil => simp [deqs] at h
    | cons b bs =>
      simp only [deqs, Bool.and_eq_true] at h
      rw [deq_eq _ _ h.1, deqs_eq _ _ h.2]
end

structure GT where
  fns : List Str
  consts : List (Str × D)
  blt : List Str
/-- what a def promises: what its code gives -/
def spC (K : PySem.W.Frag) (C : Cal) (cls : Nat → Value) (f : Nat) : Sp := fun vs H Q E => ∃ (ω : Wd) (st : Sto) (ds : List D) (dp : Nat), StoOk K ω st H ∧ Reps K ω H ds vs ∧ match C f ds st with
  | .ok d st' => ∀ ω' v H', Ext dp ω H ω' H' → StoOk K ω' st' H' → Rep K ω' H' d v → Q v H'
  | .exc c st' => ∀ ω' H', Ext dp ω H ω' H' → StoOk K ω' st' H' → E (cls c) none H'
  | .fail => False
structure Cok (X : Cx) (G : GT) (k : Nat) (C : Cal) (cls : Nat → Value) (N : List Str) (sc : Scope) (W : WX) : Prop where
  hN : X.N = N
  nd : N.Nodup
  hsc : X.env.scope = sc
  calm : X.calm = true
  room : Room k X.A
  tk : Takes X W
  fns : ∀ (i : Nat) (x : Str), G.fns[i]? = some x → ∃ (f : Addr) (fd : FuncData) (ps : List Str), FnOk X.prog X.w X.K X.mg X.base (L2.CX X.prog X.w) k f fd ps (spC X.K C cls i) ∧ X.mg x = some (.ref f) ∧ PySem.W.keepIn X.K (.ref f) = true ∧ Binds X.K fd ps []
  cst : ∀ (x : Str) (d : D), G.consts.lookup x = some d → ∃ u v, X.mg x = some u ∧ RelV v u ∧ ∀ ω H, Rep X.K ω H d v
  blt : ∀ x ∈ G.blt, X.mg x = none

def notStar : Expr → Bool
  | .Starred .. => false
  | _ => true
def attrOk : Expr → Bool
  | .Call (.Name ..) [] [] _ => false
  | _ => true
def notSlice : Expr → Bool
  | .Slice .. => false
  | _ => true
def notSet : Expr → Bool
  | .Set .. => false
  | _ => true
def notComp : Expr → Bool
  | .ListComp .. | .SetComp .. | .DictComp .. => false
  | _ => true
def plainTest : Expr → Bool
  | .UnaryOp .Not _ _ | .BoolOp .. | .IfExp .. | .Compare .. => false
  | _ => true
theorem star_of {e : Expr} (h : notStar e = true) (es : List Expr) (env : PySem.Env) : starEach (e :: es) env = (false, eval e env) :: starEach es env := by
  cases e <;> first | rfl | (simp [notStar] at h)
theorem stars_of {env : PySem.Env} {pos : Pos} : ∀ {es : List Expr}, es.all notStar = true → (backTo pos (starEach es env)).any (·.1) = false
  | [], _ => rfl
  | e :: es, h => by
    rw [List.all_cons, Bool.and_eq_true] at h
    rw [star_of h.1]
    show (false || (backTo pos (starEach es env)).any (·.1)) = false
    rw [stars_of h.2]
    rfl
theorem attr_ok {o : Expr} (h : attrOk o = true) (m : Str) (env : PySem.Env) : attributeBase o m env (eval o env) = eval o env := by
  unfold attributeBase
  split
  · simp [attrOk] at h
  · rfl
theorem slice_ok {b : Expr} (h : notSlice b = true) : PlainIx b := by
  intro o i
  cases b <;> first | rfl | (simp [notSlice] at h)
theorem set_ok {op : CmpOp} {b : Expr} (h : notSet b = true) : behindInMarks op b = false := by
  cases b <;> first | rfl | (simp [notSet] at h)
theorem swap_ok {e : Expr} (h : notComp e = true) (t : Option Expr) (l : Nat) (env : PySem.Env) : swapsWith e t l env = pure false := by
  cases e <;> first | rfl | (simp [notComp] at h)
theorem fold_ok {e : Expr} (h : notSet e = true) (env : PySem.Env) (x : Value) : foldedSetIterable e env x = pure x := by
  cases e <;> first | rfl | (simp [notSet] at h)
theorem test_ok {e : Expr} (h : plainTest e = true) (env : PySem.Env) (whole : Sem Value) : isTrue e env whole = (do let v ← whole; standAt e.pos; holding [v] (truthy v)) := by
  cases e with
  | UnaryOp op a p => cases op <;> first | rfl | (simp [plainTest] at h)
  | _ => first | rfl | (simp [plainTest] at h)

def vis (sc : Scope) (x : Str) : Bool := match sc.names.lookup x with
  | some .local | some .cell | some .free => true
  | _ => false
def glb (sc : Scope) (x : Str) : Bool := match sc.names.lookup x with
  | some .globalImplicit => true
  | _ => false
def nameOk (x : Str) : Bool := !(x == ("__debug__" : Str)) && !(x == ("__classdict__" : Str)) && !decide (x = "__name__")
theorem vis_of {X : Cx} {sc : Scope} {x : Str} (e : X.env.scope = sc) (h : vis sc x = true) : Vis X.env.scope x := by
  rw [e]
  unfold vis at h
  unfold Vis
  split at h
  · rename_i q; exact .inl q
  · rename_i q; exact .inr (.inl q)
  · rename_i q; exact .inr (.inr q)
  · cases h
theorem glb_of {X : Cx} {sc : Scope} {x : Str} (e : X.env.scope = sc) (h : glb sc x = true) : Gl X x := by
  unfold glb at h
  unfold Gl Env.kindOf
  rw [e]
  split at h
  · rename_i q; exact q
  · cases h
structure NameOk (x : Str) : Prop where
  d : (x == ("__debug__" : Str)) = false
  c : (x == ("__classdict__" : Str)) = false
  n : x ≠ "__name__"
theorem nameOk_of {x : Str} (h : nameOk x = true) : NameOk x := by
  unfold nameOk at h
  simp only [Bool.and_eq_true, Bool.not_eq_true', decide_eq_false_iff_not] at h
  exact ⟨h.1.1, h.1.2, h.2⟩
def conOk : D → Const → Bool
  | .non, .none => true
  | .bl b, .bool c => b == c
  | .int i, .int j => i == j
  | .str x, .str y => decide (x = y) && decide (x.length ≤ sizeLine)
  | _, _ => false
/-- a dict display's keys: texts -/
def dicKeys : List Str → List (Option Expr) → Bool
  | [], [] => true
  | k :: ks, some (.Constant (.str x) _ _) :: es => decide (x = k) && decide (k.length ≤ sizeLine) && dicKeys ks es
  | _, _ => false
def binOf : O2 → Option Operator
  | .add => some .Add | .sub => some .Sub | .mul => some .Mult | .div => some .FloorDiv | .mod => some .Mod
  | _ => none
def cmpOf : O2 → Option CmpOp
  | .eq => some .Eq | .ne => some .NotEq | .lt => some .Lt | .le => some .LtE | .gt => some .Gt | .ge => some .GtE | .isIn => some .In | .notIn => some .NotIn | .isB => some .Is | .isNotB => some .IsNot
  | _ => none
def o1Call : O1 → Option Str
  | .len => some "len" | .tuple => some "tuple" | .list => some "list" | .sum => some "sum" | .all => some "all" | .int => some "int" | .str => some "str" | .max => some "max" | .min => some "min"
  | _ => none
def o2Call : O2 → Option Str
  | .max => some "max" | .min => some "min"
  | _ => none
def o2Meth : O2 → Option Str
  | .join => some "join" | .split => some "split"
  | _ => none
def isiOf : O1 → Option (String × Str)
  | .isStr => some ("str", "str") | .isInt => some ("int", "int") | .isBool => some ("bool", "bool") | .isTuple => some ("tuple", "tuple")
  | _ => none
def ikNames : IK → Option Str
  | .rng => some "range" | .enumT => some "enumerate" | .enumL => some "enumerate"
  | _ => none
/-- a name that may be stored to: a local one; in a def's own frame also one that others see -/
def lcl (df : Bool) (sc : Scope) (x : Str) : Bool := match sc.names.lookup x with
  | some .local => true
  | some .cell => df
  | _ => false
def tgOk (df : Bool) (N : List Str) (sc : Scope) (own : List Nat) : T → Expr → Bool
  | .nm i, .Name x _ => decide (N[i]? = some x) && decide (i ∈ own) && lcl df sc x
  | .tp is, .Tuple es _ _ => tgs is es
  | _, _ => false
where tgs : List Nat → List Expr → Bool
  | [], [] => true
  | i :: is, .Name x _ :: es => decide (N[i]? = some x) && decide (i ∈ own) && lcl df sc x && tgs is es
  | _, _ => false
def fre (G : GT) (sc : Scope) (x : Str) : Bool := glb sc x && decide (x ∈ G.blt) && nameOk x
/-- what a for walks: the expressions to be looked at -/
def itArgs (G : GT) (sc : Scope) : IK → T → Expr → Option (List Expr)
  | .rng, _, .Call (.Name y _) es [] _ => if decide (y = "range") && fre G sc y && (decide (es.length = 1) || decide (es.length = 2)) then some es else none
  | .enumT, .tp _, .Call (.Name y _) es [] _ => if decide (y = "enumerate") && fre G sc y && decide (es.length = 1) then some es else none
  | .enumL, .tp _, .Call (.Name y _) es [] _ => if decide (y = "enumerate") && fre G sc y && decide (es.length = 1) then some es else none
  | .tup, _, it => some [it]
  | .lst, _, it => some [it]
  | .fls, _, it => some [it]
  | .str, _, it => some [it]
  | _, _, _ => none
mutual
def chkE (N : List Str) (G : GT) : E → Scope → Expr → Bool
  | .var i, sc, e => match e with
    | .Name x _ => decide (N[i]? = some x) && vis sc x && nameOk x
    | _ => false
  | .con d, sc, e => match e with
    | .Constant c _ _ => conOk d c
    | .Name x _ => glb sc x && nameOk x && (match G.consts.lookup x with
      | some d' => deq d' d
      | none => false)
    | .UnaryOp .USub (.Constant (.int j) _ _) _ => (match d with | .int i => decide (i = -j) | _ => false)
    | _ => false
  | .tup ms, sc, e => match e with
    | .Tuple es _ _ => decide (es.length ≤ 1000) && chkEs N G ms sc es
    | _ => false
  | .lst ms, sc, e => match e with
    | .List es _ => decide (es.length ≤ 1000) && chkEs N G ms sc es
    | _ => false
  | .dic ks ms, sc, e => match e with
    | .Dict keys values _ => dicKeys ks keys && chkEs N G ms sc values && !ks.isEmpty && decide (ks.length ≤ 15) && decide (ks.length = ms.length) && decide ks.Nodup
    | _ => false
  | .o1 o m, sc, e => match e with
    | .Call (.Name x _) [a] [] _ => (match o1Call o with | some y => decide (x = y) | none => false) && fre G sc x && chkE N G m sc a && notStar a
    | .Call (.Name x _) [a, .Name y _] [] _ => decide (x = "isinstance") && fre G sc x && (match isiOf o with | some p => decide (y = p.2) | none => false) && fre G sc y && chkE N G m sc a && notStar a
    | .Compare a [.Is] [.Constant .none _ _] _ => (match o with | .isNone => true | _ => false) && chkE N G m sc a
    | .Compare a [.IsNot] [.Constant .none _ _] _ => (match o with | .notNone => true | _ => false) && chkE N G m sc a
    | .Subscript a (.Slice none none (some (.UnaryOp .USub (.Constant (.int j) _ _) _)) _) _ => (match o with | .rev => decide (j = 1) | _ => false) && chkE N G m sc a
    | _ => false
  | .o2 o m n, sc, e => match e with
    | .BinOp a op b _ => decide (binOf o = some op) && chkE N G m sc a && chkE N G n sc b
    | .Compare a [op] [b] _ => decide (cmpOf o = some op) && notSet b && chkE N G m sc a && chkE N G n sc b
    | .Subscript a b _ => (match o with | .ix => true | _ => false) && notSlice b && chkE N G m sc a && chkE N G n sc b
    | .Call (.Name x _) [a, b] [] _ => (match o2Call o with | some y => decide (x = y) | none => false) && fre G sc x && chkE N G m sc a && notStar a && chkE N G n sc b && notStar b
    | _ => false
  | .sm o m n, sc, e => match e with
    | .Call (.Attribute a x apos) [b] [] pos => (match o2Meth o with | some y => decide (x = y) | none => false) && attrOk a && (apos.endLine == pos.line) && chkE N G m sc a && chkE N G n sc b && notStar b
    | _ => false
  | .chain o o' m n k, sc, e => match e with
    | .Compare a [op, op'] [b, c] _ => decide (cmpOf o = some op) && decide (cmpOf o' = some op') && notSet b && notSet c && chkE N G m sc a && chkE N G n sc b && chkE N G k sc c
    | _ => false
  | .and ms, sc, e => match e with
    | .BoolOp .And es _ => chkEs N G ms sc es && !es.isEmpty
    | _ => false
  | .or ms, sc, e => match e with
    | .BoolOp .Or es _ => chkEs N G ms sc es && !es.isEmpty
    | _ => false
  | .not m, sc, e => match e with
    | .UnaryOp .Not a _ => chkE N G m sc a
    | _ => false
  | .ife m n k, sc, e => match e with
    | .IfExp c a b _ => chkE N G m sc c && chkE N G n sc a && chkE N G k sc b
    | _ => false
  | .call f ms, sc, e => match e with
    | .Call (.Name x _) es [] _ => decide (G.fns[f]? = some x) && glb sc x && nameOk x && !es.isEmpty && chkEs N G ms sc es
    | _ => false
  | .sl m lo hi, sc, e => match e with
    | .Subscript a (.Slice none none none _) _ => lo.isEmpty && hi.isEmpty && chkE N G m sc a
    | .Subscript a (.Slice (some l) none none _) _ => (decide (lo.length = 1)) && hi.isEmpty && chkE N G m sc a && chkEs N G lo sc [l]
    | .Subscript a (.Slice none (some h) none _) _ => lo.isEmpty && (decide (hi.length = 1)) && chkE N G m sc a && chkEs N G hi sc [h]
    | .Subscript a (.Slice (some l) (some h) none _) _ => (decide (lo.length = 1)) && (decide (hi.length = 1)) && chkE N G m sc a && chkEs N G lo sc [l] && chkEs N G hi sc [h]
    | _ => false
  | .dget m n k, sc, e => match e with
    | .Call (.Attribute a x apos) [b, f] [] pos => decide (x = "get") && attrOk a && (apos.endLine == pos.line) && chkE N G m sc a && chkE N G n sc b && notStar b && chkE N G k sc f && notStar f
    | _ => false
  | .lc elt tg ik ie cond own, sc, e => match e with
    | .ListComp x [⟨t, it, ifs, 0⟩] scope _ => blkC N sc scope (own.map fun (i : Nat) => ((N[i]?).getD ("" : Str), i)) && tgOk false N (relS scope sc) own tg t && notSet it && decide (cond.length = ifs.length) && decide (ifs.length ≤ 1) &&
        chkE N G elt (relS scope sc) x && chkEs N G cond (relS scope sc) ifs &&
        (match itArgs G sc ik tg it with
          | some es => chkEs N G ie sc es
          | none => false)
    | _ => false
  | .inOwn neg m i, sc, e => match e with
    | .Compare a [op] [.Name x _] _ => decide (op = if neg then .NotIn else .In) && chkE N G m sc a && decide (N[i]? = some x) && vis sc x && nameOk x
    | _ => false
def chkEs (N : List Str) (G : GT) : List E → Scope → List Expr → Bool
  | [], _, es => es.isEmpty
  | m :: ms, sc, es => match es with
    | e :: es => chkE N G m sc e && notStar e && chkEs N G ms sc es
    | [] => false
end
end TL

namespace TL
open PySem L2 PyProof.Rows

/-- a reading by what is done -/
def tEf (K : PySem.W.Frag) (dp : Nat) (W : WX) (cls : Nat → Value) (f : Env → Sto → R D) : TE := fun σ H Q => ∃ ω ρ st, Loc K ω dp ρ σ H ∧ StoOk K ω st H ∧
  Post K dp W cls σ ω H (f ρ st) fun d _ ω' H' => ∀ v, Rep K ω' H' d v → Q v H'
def tTf (K : PySem.W.Frag) (dp : Nat) (W : WX) (cls : Nat → Value) (f : Env → Sto → R D) : TT := fun σ H Q => ∃ ω ρ st, Loc K ω dp ρ σ H ∧ StoOk K ω st H ∧
  Post K dp W cls σ ω H (f ρ st) fun d _ ω' H' => ∃ b, d = .bl b ∧ Q b H'
def SndE (N : List Str) (G : GT) (k : Nat) (C : Cal) (cls : Nat → Value) (dp : Nat) (m : E) : Prop := ∀ (X : Cx) (sc : Scope) (W : WX) (e : Expr), Cok X G k C cls N sc W → chkE N G m sc e = true → PE X e (tE X.K C dp W cls m) ∧ PT X e (tT X.K C dp W cls m)
def SndEs (N : List Str) (G : GT) (k : Nat) (C : Cal) (cls : Nat → Value) (dp : Nat) (ms : List E) : Prop := ∀ (X : Cx) (sc : Scope) (W : WX) (es : List Expr), Cok X G k C cls N sc W → chkEs N G ms sc es = true → PA X es (tEs X.K C dp W cls ms) ∧ es.all notStar = true

section
variable {X : Cx} {N : List Str} {G : GT} {k : Nat} {C : Cal} {cls : Nat → Value} {dp : Nat} {sc : Scope} {W : WX} {e : Expr} {es : List Expr} {m a b : E} {ms : List E}
theorem pt_of {f : Env → Sto → R D} (h : PE X e (tEf X.K dp W cls f)) (p : plainTest e = true) : PT X e (tTf X.K dp W cls f) := by
  refine pt_imp (pt_val h (test_ok p X.env)) ?_
  rintro σ H Q ⟨ω, ρ, st, hl, hs, hp⟩
  refine ⟨ω, ρ, st, hl, hs, hp.mono ?_⟩
  rintro d st' ω' H' x s ⟨b, rfl, q⟩ v r
  exact ⟨b, r, q⟩
theorem both_of (h : PE X e (tE X.K C dp W cls m)) (p : plainTest e = true) : PE X e (tE X.K C dp W cls m) ∧ PT X e (tT X.K C dp W cls m) := ⟨h, pt_of h p⟩
theorem units_of (c : Cok X G k C cls N sc W) : X.A.units + 65 < cLine := by have := c.room.un; omega

theorem snd_var (i : Nat) : SndE N G k C cls dp (.var i) := by
  intro X sc W e c h
  unfold chkE at h
  split at h
  · rename_i x pos
    simp only [Bool.and_eq_true, decide_eq_true_eq] at h
    have nm := nameOk_of h.2
    refine both_of (pe_imp (pe_var (X := X) (i := i) (by rw [c.hN]; exact h.1.1) (vis_of c.hsc h.1.2) nm.d nm.c) ?_) rfl
    rintro σ H Q ⟨ω, ρ, st, hl, hs, hp⟩
    unfold ev at hp
    split at hp
    · rename_i d hd
      split at hp
      · exact hp.elim
      · rename_i ho
        obtain ⟨v, e1, r⟩ := hl.at_ i d hd
        exact ⟨v, e1, hp ω H .refl hs v (r.rep (by simpa using ho))⟩
    · exact hp.elim
  · cases h
theorem snd_con (d : D) : SndE N G k C cls dp (.con d) := by
  intro X sc W e c h
  unfold chkE at h
  have fin : ∀ (v : V), (∀ ω H, Rep X.K ω H d v) → PE X e (tC v) → PE X e (tE X.K C dp W cls (.con d)) := fun v r h => pe_imp h (by
    rintro σ H Q ⟨ω, ρ, st, hl, hs, hp⟩
    unfold ev at hp
    exact hp ω H .refl hs v (r ω H))
  split at h
  · rename_i cc j pos
    cases d <;> cases cc <;> first | (simp [conOk] at h; done) | skip
    · exact both_of (fin .non (fun _ _ => rfl) pe_non) rfl
    · simp only [conOk, beq_iff_eq] at h
      subst h
      exact both_of (fin (.bl _) (fun _ _ => rfl) pe_bl) rfl
    · simp only [conOk, beq_iff_eq] at h
      subst h
      exact both_of (fin (.int _) (fun _ _ => rfl) pe_int) rfl
    · simp only [conOk, Bool.and_eq_true, decide_eq_true_eq] at h
      obtain ⟨h1, h2⟩ := h
      subst h1
      exact both_of (fin (.str _) (fun _ _ => ⟨rfl, h2⟩) pe_str) rfl
  · rename_i x pos
    simp only [Bool.and_eq_true] at h
    have nm := nameOk_of h.1.2
    cases q : G.consts.lookup x with
    | none => rw [q] at h; simp at h
    | some d' =>
      rw [q] at h
      have e1 := deq_eq _ _ h.2
      subst e1
      obtain ⟨u, v, hm, r, hr⟩ := c.cst x d' q
      exact both_of (fin v hr (pe_glob (glb_of c.hsc h.1.1) hm r nm.d)) rfl
  · rename_i j jj p1 p2
    cases d <;> first | (cases h; done) | skip
    simp only [decide_eq_true_eq] at h
    subst h
    refine both_of (pe_imp (pe_un un_neg pe_int) ?_) rfl
    rintro σ H Q ⟨ω, ρ, st, hl, hs, hp⟩
    unfold ev at hp
    exact ⟨j, rfl, hp ω H .refl hs _ rfl⟩
  · cases h

theorem snd_es : ∀ {ms : List E}, (∀ m ∈ ms, SndE N G k C cls dp m) → SndEs N G k C cls dp ms
  | [], _ => by
    intro X sc W es c h
    unfold chkEs at h
    have e : es = [] := by cases es <;> first | rfl | simp at h
    subst e
    refine ⟨pa_imp pa_nil ?_, rfl⟩
    rintro σ H Q ⟨ω, ρ, st, hl, hs, hp⟩
    unfold evs at hp
    exact hp ω H .refl hs [] rfl
  | m :: ms, hm => by
    intro X sc W es c h
    unfold chkEs at h
    cases es with
    | nil => cases h
    | cons e es =>
      simp only [Bool.and_eq_true] at h
      obtain ⟨h1, h2⟩ := snd_es (fun m h => hm m (List.mem_cons_of_mem _ h)) X sc W es c h.2
      refine ⟨pa_imp (pa_cons (hm m List.mem_cons_self X sc W e c h.1.1).1 h1 (star_of h.1.2 es X.env)) ?_, by rw [List.all_cons, h.1.2, h2]; rfl⟩
      rintro σ H Q ⟨ω, ρ, st, hl, hs, hp⟩
      unfold evs at hp
      refine ⟨ω, ρ, st, hl, hs, (Post.bind hp).mono fun d st1 ω1 H1 x1 s1 q1 v r1 => ⟨ω1, ρ, st1, hl.ext x1, s1, (Post.bind q1).mono fun ds st2 ω2 H2 x2 s2 q2 vs r2 => ?_⟩⟩
      exact q2 ω2 H2 .refl s2 (v :: vs) ⟨v, vs, rfl, r1.ext x2, r2⟩

theorem evs_length {C : Cal} : ∀ {ms : List E} {ρ : Env} {st st' : Sto} {ds : List D}, evs C ms ρ st = .ok ds st' → ds.length = ms.length
  | [], ρ, st, st', ds, h => by
    unfold evs at h
    cases h
    rfl
  | m :: ms, ρ, st, st', ds, h => by
    unfold evs at h
    cases q : ev C m ρ st with
    | ok d st1 =>
      rw [q] at h
      cases q2 : evs C ms ρ st1 with
      | ok ds2 st2 =>
        have h : (R.bind (evs C ms ρ st1) fun ds st => .ok (d :: ds) st) = .ok ds st' := h
        rw [q2] at h
        cases h
        rw [List.length_cons, List.length_cons, evs_length q2]
      | exc c st2 =>
        have h : (R.bind (evs C ms ρ st1) fun ds st => .ok (d :: ds) st) = .ok ds st' := h
        rw [q2] at h; cases h
      | fail =>
        have h : (R.bind (evs C ms ρ st1) fun ds st => .ok (d :: ds) st) = .ok ds st' := h
        rw [q2] at h; cases h
    | exc c st1 => rw [q] at h; cases h
    | fail => rw [q] at h; cases h
theorem chkEs_length : ∀ {ms : List E} {es : List Expr}, chkEs N G ms sc es = true → es.length = ms.length
  | [], es, h => by
    unfold chkEs at h
    cases es <;> first | rfl | simp at h
  | m :: ms, es, h => by
    unfold chkEs at h
    cases es with
    | nil => cases h
    | cons e es =>
      simp only [Bool.and_eq_true] at h
      rw [List.length_cons, List.length_cons, chkEs_length h.2]
/-- the length of what is told, too -/
theorem Post.len {ω : Wd} {H : Hp} {σ : L2.St} {K : PySem.W.Frag} {ρ : Env} {st : Sto} {P : List D → Sto → Wd → Hp → Prop} (h : Post K dp W cls σ ω H (evs C ms ρ st) P) :
    Post K dp W cls σ ω H (evs C ms ρ st) fun ds st' ω' H' => ds.length = ms.length ∧ P ds st' ω' H' := by
  cases q : evs C ms ρ st with
  | ok ds st' =>
    rw [q] at h
    exact fun ω' H' x s => ⟨evs_length q, h ω' H' x s⟩
  | exc c st' => rw [q] at h; exact h
  | fail => rw [q] at h; exact h
theorem le_line {n : Nat} (h : n ≤ 1000) : n ≤ sizeLine := by rw [sizeLine_eq]; omega
theorem snd_tup (hm : ∀ m ∈ ms, SndE N G k C cls dp m) : SndE N G k C cls dp (.tup ms) := by
  intro X sc W e c h
  unfold chkE at h
  split at h
  · simp only [Bool.and_eq_true, decide_eq_true_eq] at h
    obtain ⟨h1, h2⟩ := snd_es hm X sc W _ c h.2
    have hl := chkEs_length h.2
    refine both_of (pe_imp (pe_tup h1) ?_) rfl
    rintro σ H Q ⟨ω, ρ, st, hl1, hs, hp⟩
    unfold ev at hp
    refine ⟨ω, ρ, st, hl1, hs, (Post.bind hp).len.mono fun ds st1 ω1 H1 x1 s1 ⟨ln, q1⟩ vs r1 => ⟨?_, fun p hp => ?_⟩⟩
    · rw [r1.length, ln, ← hl]
      exact le_line h.1
    · exact q1 ω1 (upd H1 p (.tup vs)) (.ofGrow s1 (same_new hp _)) (s1.grow (same_new hp _)) _ (rep_new_tup hp r1 (by rw [ln, ← hl]; exact le_line h.1))
  · cases h
theorem snd_lst (hm : ∀ m ∈ ms, SndE N G k C cls dp m) : SndE N G k C cls dp (.lst ms) := by
  intro X sc W e c h
  unfold chkE at h
  split at h
  · simp only [Bool.and_eq_true, decide_eq_true_eq] at h
    obtain ⟨h1, h2⟩ := snd_es hm X sc W _ c h.2
    have hl := chkEs_length h.2
    refine both_of (pe_imp (pe_lst h1) ?_) rfl
    rintro σ H Q ⟨ω, ρ, st, hl1, hs, hp⟩
    unfold ev at hp
    refine ⟨ω, ρ, st, hl1, hs, (Post.bind hp).len.mono fun ds st1 ω1 H1 x1 s1 ⟨ln, q1⟩ vs r1 => ⟨?_, fun p hp => ?_⟩⟩
    · rw [r1.length, ln, ← hl]
      exact le_line h.1
    · exact q1 ω1 (upd H1 p (.lst vs)) (.ofGrow s1 (same_new hp _)) (s1.grow (same_new hp _)) _ (rep_new_lst s1.trk hp r1 (by rw [ln, ← hl]; exact le_line h.1))
  · cases h

/-- an operator's reading -/
theorem rB_of {K : PySem.W.Frag} {σ : L2.St} {ω : Wd} {H : Hp} {st : Sto} {g : D → D → Option D} {x y : D} {v w : V} {Q : VK} {P : D → Sto → Wd → Hp → Prop} (s : StoOk K ω st H) (rx : Rep K ω H x v) (ry : Rep K ω H y w)
    (h : Post K dp W cls σ ω H (R.lift st (g x y)) P) (i : ∀ d ω' H', Ext (dp + 1) ω H ω' H' → StoOk K ω' st H' → P d st ω' H' → ∀ v, Rep K ω' H' d v → Q v H') : rB K g v w H Q := by
  obtain ⟨d, e, q⟩ := Post.lift h
  exact ⟨ω, x, y, d, s.trk, rx, ry, e, fun H' v' gr r => i d ω H' (.ofGrow s gr) (s.grow gr) (q ω H' (.ofGrow s gr) (s.grow gr)) v' r⟩
theorem rC_of {K : PySem.W.Frag} {σ : L2.St} {ω : Wd} {H : Hp} {st : Sto} {g : D → Option D} {x : D} {v : V} {Q : VK} {P : D → Sto → Wd → Hp → Prop} (s : StoOk K ω st H) (rx : Rep K ω H x v)
    (h : Post K dp W cls σ ω H (R.lift st (g x)) P) (i : ∀ d ω' H', Ext (dp + 1) ω H ω' H' → StoOk K ω' st H' → P d st ω' H' → ∀ v, Rep K ω' H' d v → Q v H') : rC K g [v] H Q := by
  obtain ⟨d, e, q⟩ := Post.lift h
  exact ⟨ω, x, d, s.trk, ⟨v, [], rfl, rx, rfl⟩, e, fun H' v' gr r => i d ω H' (.ofGrow s gr) (s.grow gr) (q ω H' (.ofGrow s gr) (s.grow gr)) v' r⟩

theorem o1_call {o : O1} {x : Str} (c : Cok X G k C cls N sc W) (h : o1Call o = some x) : (∃ id, bootBuiltins x = some (.builtin id) ∧ CallR X (.builtin id) (rC X.K (o1 o))) ∨ ∃ T, bootBuiltins x = some (.type T) ∧ CallR X (.type T) (rC X.K (o1 o)) := by
  cases o <;> cases h
  · exact .inl ⟨_, PySem.boot_len, cr_len⟩
  · exact .inr ⟨_, by decide +kernel, cr_tuple⟩
  · exact .inr ⟨_, by decide +kernel, cr_list⟩
  · exact .inl ⟨_, by decide +kernel, cr_dsum c.calm⟩
  · exact .inl ⟨_, by decide +kernel, cr_dall c.calm⟩
  · exact .inr ⟨_, by decide +kernel, cr_dint⟩
  · exact .inr ⟨_, by decide +kernel, cr_dstr⟩
  · exact .inl ⟨_, by decide +kernel, cr_dmax c.calm⟩
  · exact .inl ⟨_, by decide +kernel, cr_dmin c.calm⟩
structure Fre (X : Cx) (x : Str) : Prop where
  g : Gl X x
  m : X.mg x = none
  n : NameOk x
theorem fre_of {x : Str} (c : Cok X G k C cls N sc W) (h : fre G sc x = true) : Fre X x := by
  unfold fre at h
  simp only [Bool.and_eq_true, decide_eq_true_eq] at h
  exact ⟨glb_of c.hsc h.1.1, c.blt x h.1.2, nameOk_of h.2⟩
theorem isi_of {o : O1} {p : String × Str} (h : isiOf o = some p) : isO p.1 = some o ∧ bootBuiltins p.2 = some (.type p.1) := by
  cases o <;> cases h <;> exact ⟨rfl, by decide +kernel⟩
theorem boot_isinstance' : bootBuiltins "isinstance" = some (.builtin "isinstance") := by decide +kernel
theorem snd_o1 {o : O1} (hm : SndE N G k C cls dp m) : SndE N G k C cls dp (.o1 o m) := by
  intro X sc W e c h
  unfold chkE at h
  split at h
  · rename_i x p1 a p2
    simp only [Bool.and_eq_true] at h
    obtain ⟨⟨⟨h1, h2⟩, h3⟩, h4⟩ := h
    have F := fre_of c h2
    cases q : o1Call o with
    | none => rw [q] at h1; cases h1
    | some y =>
      rw [q] at h1
      have e1 : x = y := of_decide_eq_true h1
      subst e1
      have A : PA X [a] (tCons (tE X.K C dp W cls m) tNil) := pa_cons (hm X sc W a c h3).1 pa_nil (star_of h4 [] X.env)
      have fin : ∀ σ H Q, tE X.K C dp W cls (.o1 o m) σ H Q → tCB (rC X.K (o1 o)) (tCons (tE X.K C dp W cls m) tNil) σ H Q := by
        rintro σ H Q ⟨ω, ρ, st, hl, hs, hp⟩
        unfold ev at hp
        refine ⟨ω, ρ, st, hl, hs, (Post.bind hp).mono fun d st1 ω1 H1 x1 s1 q1 v r1 => ?_⟩
        exact rC_of s1 r1 q1 fun d ω' H' x' s' P => P
      rcases o1_call c q with ⟨id, hb, hc⟩ | ⟨T, hb, hc⟩
      · exact both_of (pe_imp (pe_callB hc F.g F.m hb A F.n.n F.n.d (star_of h4 [] X.env) rfl) fin) rfl
      · exact both_of (pe_imp (pe_callTy hc F.g F.m hb A F.n.n F.n.d (star_of h4 [] X.env) rfl) fin) rfl
  · rename_i x p1 a y p2 p3
    simp only [Bool.and_eq_true, decide_eq_true_eq] at h
    obtain ⟨⟨⟨⟨⟨h0, h1⟩, h2⟩, h3⟩, h4⟩, h5⟩ := h
    subst h0
    have F := fre_of c h1
    have F2 := fre_of c h3
    cases q : isiOf o with
    | none => rw [q] at h2; cases h2
    | some p =>
      rw [q] at h2
      have e1 : y = p.2 := of_decide_eq_true h2
      obtain ⟨i1, i2⟩ := isi_of q
      rw [← e1] at i2
      have B : PE X (.Name y p2) (tC (.ty p.1)) := pe_bltn F2.g F2.m i2 rfl F2.n.n F2.n.d
      have A : PA X [a, .Name y p2] (tCons (tE X.K C dp W cls m) (tCons (tC (.ty p.1)) tNil)) := pa_cons (hm X sc W a c h4).1 (pa_cons B pa_nil rfl) (star_of h5 _ X.env)
      refine both_of (pe_imp (pe_callB (cr_isi i1) F.g F.m boot_isinstance' A F.n.n F.n.d (star_of h5 _ X.env) rfl) ?_) rfl
      rintro σ H Q ⟨ω, ρ, st, hl, hs, hp⟩
      unfold ev at hp
      refine ⟨ω, ρ, st, hl, hs, (Post.bind hp).mono fun d st1 ω1 H1 x1 s1 q1 v r1 => ?_⟩
      exact ⟨v, rfl, rC_of s1 r1 q1 fun d ω' H' x' s' P => P⟩
  · rename_i a j p1 p2
    simp only [Bool.and_eq_true] at h
    cases o <;> first | (simp at h; done) | skip
    have key : ∀ σ H Q, tE X.K C dp W cls (.o1 .isNone m) σ H Q → tIsN (tE X.K C dp W cls m) σ H Q := by
      rintro σ H Q ⟨ω, ρ, st, hl, hs, hp⟩
      unfold ev at hp
      refine ⟨ω, ρ, st, hl, hs, (Post.bind hp).mono fun d st1 ω1 H1 x1 s1 q1 v r1 => ?_⟩
      obtain ⟨d2, e2, q2⟩ := Post.lift q1
      have q3 := q2 ω1 H1 .refl s1
      cases d <;> first | (cases e2; done) | (cases e2; first | (cases r1; exact q3 _ rfl) | (obtain ⟨rfl, _⟩ := r1; exact q3 _ rfl) | (obtain ⟨_, a, vs, rfl, _⟩ := r1; exact q3 _ rfl) | (obtain ⟨a, _, rfl⟩ := r1; exact q3 _ rfl) | exact r1.elim)
    refine ⟨pe_imp (pe_cmp (pc_isN (hm X sc W a c h.2).1) (set_ok rfl)) key, pt_imp (pt_cmp (pc_isN (hm X sc W a c h.2).1) (set_ok rfl)) ?_⟩
    rintro σ H Q ⟨ω, ρ, st, hl, hs, hp⟩
    refine key σ H _ ⟨ω, ρ, st, hl, hs, hp.mono ?_⟩
    rintro d st' ω' H' x s ⟨b, rfl, q⟩ v r
    exact ⟨b, r, q⟩
  · rename_i a j p1 p2
    simp only [Bool.and_eq_true] at h
    cases o <;> first | (simp at h; done) | skip
    have key : ∀ σ H Q, tE X.K C dp W cls (.o1 .notNone m) σ H Q → tNotN (tE X.K C dp W cls m) σ H Q := by
      rintro σ H Q ⟨ω, ρ, st, hl, hs, hp⟩
      unfold ev at hp
      refine ⟨ω, ρ, st, hl, hs, (Post.bind hp).mono fun d st1 ω1 H1 x1 s1 q1 v r1 => ?_⟩
      obtain ⟨d2, e2, q2⟩ := Post.lift q1
      have q3 := q2 ω1 H1 .refl s1
      cases d <;> first | (cases e2; done) | (cases e2; first | (cases r1; exact q3 _ rfl) | (obtain ⟨rfl, _⟩ := r1; exact q3 _ rfl) | (obtain ⟨_, a, vs, rfl, _⟩ := r1; exact q3 _ rfl) | (obtain ⟨a, _, rfl⟩ := r1; exact q3 _ rfl) | exact r1.elim)
    refine ⟨pe_imp (pe_cmp (pc_notN (hm X sc W a c h.2).1) (set_ok rfl)) key, pt_imp (pt_cmp (pc_notN (hm X sc W a c h.2).1) (set_ok rfl)) ?_⟩
    rintro σ H Q ⟨ω, ρ, st, hl, hs, hp⟩
    refine key σ H _ ⟨ω, ρ, st, hl, hs, hp.mono ?_⟩
    rintro d st' ω' H' x s ⟨b, rfl, q⟩ v r
    exact ⟨b, r, q⟩
  · rename_i a j jj p1 p2 p3 p4
    simp only [Bool.and_eq_true] at h
    cases o <;> first | (simp at h; done) | skip
    simp only [decide_eq_true_eq] at h
    obtain ⟨rfl, h2⟩ := h
    refine both_of (pe_imp (pe_back (hm X sc W a c h2).1) ?_) rfl
    rintro σ H Q ⟨ω, ρ, st, hl, hs, hp⟩
    unfold ev at hp
    refine ⟨ω, ρ, st, hl, hs, (Post.bind hp).mono fun d st1 ω1 H1 x1 s1 q1 v r1 => ?_⟩
    obtain ⟨d2, e2, q2⟩ := Post.lift q1
    cases d <;> first | (cases e2; done) | skip
    cases e2
    obtain ⟨ln, a2, vs, rfl, sq, rs⟩ := r1
    refine ⟨a2, vs, rfl, sq, fun p hp => ?_⟩
    exact q2 ω1 _ (.ofGrow s1 (same_new hp _)) (s1.grow (same_new hp _)) _ (rep_new_tup hp rs.reverse (by rw [List.length_reverse]; exact ln))
  · cases h
end
end TL

namespace TL
open PySem L2 PyProof.Rows
section
variable {X : Cx} {N : List Str} {G : GT} {k : Nat} {C : Cal} {cls : Nat → Value} {dp : Nat} {sc : Scope} {W : WX} {e : Expr} {es : List Expr} {m n l a b : E} {ms : List E}
theorem op_bin {o : O2} {op : Operator} (h : binOf o = some op) : OpR X (binaryOp op) (rB X.K (o2 o)) := by
  cases o <;> cases h
  · exact op_dAdd
  · exact op_dSub
  · exact op_dMul
  · exact op_dDiv
  · exact op_dMod
theorem op_cmp {o : O2} {op : CmpOp} (c : Cok X G k C cls N sc W) (h : cmpOf o = some op) : OpR X (compareOp op) (rB X.K (o2 o)) := by
  have u := units_of c
  cases o <;> cases h
  · exact op_dEq (by omega)
  · exact op_dNe (by omega)
  · exact op_dLt
  · exact op_dLe
  · exact op_dGt
  · exact op_dGe
  · exact op_dIn u
  · exact op_dNotIn u
  · exact op_dIsB
  · exact op_dIsNotB
theorem op_ix : IxR X (rB X.K (o2 .ix)) := op_dIx
/-- two expressions, an operation of their values -/
theorem tOp_of {o : O2} {σ : L2.St} {H : Hp} {Q : VK} (h : tE X.K C dp W cls (.o2 o m n) σ H Q) : tOp (rB X.K (o2 o)) (tE X.K C dp W cls m) (tE X.K C dp W cls n) σ H Q := by
  obtain ⟨ω, ρ, st, hl, hs, hp⟩ := h
  unfold ev at hp
  refine ⟨ω, ρ, st, hl, hs, (Post.bind hp).mono fun x st1 ω1 H1 x1 s1 q1 v r1 => ⟨ω1, ρ, st1, hl.ext x1, s1, (Post.bind q1).mono fun y st2 ω2 H2 x2 s2 q2 w r2 => ?_⟩⟩
  exact rB_of s2 (r1.ext x2) r2 q2 fun d ω' H' x' s' P => P
theorem tTest_of {t : TE} {σ : L2.St} {H : Hp} {Q : Bool → Hp → Prop} (h : tT X.K C dp W cls m σ H Q) (i : ∀ σ H Q, tE X.K C dp W cls m σ H Q → t σ H Q) : t σ H fun x H' => ∃ k, x = .bl k ∧ Q k H' := by
  refine i σ H _ ?_
  obtain ⟨ω, ρ, st, hl, hs, hp⟩ := h
  refine ⟨ω, ρ, st, hl, hs, hp.mono ?_⟩
  rintro d st' ω' H' x s ⟨b, rfl, q⟩ v r
  exact ⟨b, r, q⟩
theorem boot_max' : bootBuiltins "max" = some (.builtin "max") := PyProof.Rows.boot_max
theorem boot_min' : bootBuiltins "min" = some (.builtin "min") := PyProof.Rows.boot_min
theorem snd_o2 {o : O2} (hm : SndE N G k C cls dp m) (hn : SndE N G k C cls dp n) : SndE N G k C cls dp (.o2 o m n) := by
  intro X sc W e c h
  unfold chkE at h
  split at h
  · simp only [Bool.and_eq_true, decide_eq_true_eq] at h
    exact both_of (pe_imp (pe_op (op_bin h.1.1) (hm X sc W _ c h.1.2).1 (hn X sc W _ c h.2).1) fun σ H Q q => tOp_of q) rfl
  · simp only [Bool.and_eq_true, decide_eq_true_eq] at h
    have A := (hm X sc W _ c h.1.2).1
    have B := (hn X sc W _ c h.2).1
    exact ⟨pe_imp (pe_cmpR (op_cmp c h.1.1.1) A B (set_ok h.1.1.2)) fun σ H Q q => tOp_of q, pt_imp (pt_cmpR (op_cmp c h.1.1.1) A B (set_ok h.1.1.2)) fun σ H Q q => tTest_of q fun σ H Q => tOp_of⟩
  · simp only [Bool.and_eq_true, decide_eq_true_eq] at h
    obtain ⟨⟨⟨h1, h2⟩, h3⟩, h4⟩ := h
    cases o <;> first | (simp at h1; done) | skip
    exact both_of (pe_imp (pe_ix op_ix (hm X sc W _ c h3).1 (hn X sc W _ c h4).1 (slice_ok h2)) fun σ H Q q => tOp_of q) rfl
  · rename_i x p1 a b p2
    simp only [Bool.and_eq_true, decide_eq_true_eq] at h
    obtain ⟨⟨⟨⟨⟨h1, h2⟩, h3⟩, h4⟩, h5⟩, h6⟩ := h
    have F := fre_of c h2
    have P : PA X [a, b] (tCons (tE X.K C dp W cls m) (tCons (tE X.K C dp W cls n) tNil)) := pa_cons (hm X sc W _ c h3).1 (pa_cons (hn X sc W _ c h5).1 pa_nil (star_of h6 [] X.env)) (star_of h4 _ X.env)
    have sb : (backTo p2 (starEach [b] X.env)).any (·.1) = false := stars_of (by rw [List.all_cons, h6]; rfl)
    have fin : ∀ σ H Q, tE X.K C dp W cls (.o2 o m n) σ H Q → tCB (rC2 X.K (o2 o)) (tCons (tE X.K C dp W cls m) (tCons (tE X.K C dp W cls n) tNil)) σ H Q := by
      rintro σ H Q ⟨ω, ρ, st, hl, hs, hp⟩
      unfold ev at hp
      refine ⟨ω, ρ, st, hl, hs, (Post.bind hp).mono fun x st1 ω1 H1 x1 s1 q1 v r1 => ⟨ω1, ρ, st1, hl.ext x1, s1, (Post.bind q1).mono fun y st2 ω2 H2 x2 s2 q2 w r2 => ?_⟩⟩
      obtain ⟨d, e, q⟩ := Post.lift q2
      exact ⟨ω2, x, y, d, s2.trk, ⟨v, _, rfl, r1.ext x2, w, _, rfl, r2, rfl⟩, e, fun H' v' gr r => q ω2 H' (.ofGrow s2 gr) (s2.grow gr) v' r⟩
    cases o <;> first | (simp [o2Call] at h1; done) | skip
    · simp only [o2Call, decide_eq_true_eq] at h1
      subst h1
      exact both_of (pe_imp (pe_callB (cr_dmax2 c.calm) F.g F.m boot_max' P F.n.n F.n.d (star_of h4 _ X.env) sb) fin) rfl
    · simp only [o2Call, decide_eq_true_eq] at h1
      subst h1
      exact both_of (pe_imp (pe_callB (cr_dmin2 c.calm) F.g F.m boot_min' P F.n.n F.n.d (star_of h4 _ X.env) sb) fin) rfl
  · cases h
theorem snd_sm {o : O2} (hm : SndE N G k C cls dp m) (hn : SndE N G k C cls dp n) : SndE N G k C cls dp (.sm o m n) := by
  intro X sc W e c h
  unfold chkE at h
  split at h
  · rename_i a x apos b pos
    simp only [Bool.and_eq_true] at h
    obtain ⟨⟨⟨⟨⟨h1, h2⟩, h3⟩, h4⟩, h5⟩, h6⟩ := h
    have P : PA X [b] (tCons (tE X.K C dp W cls n) tNil) := pa_cons (hn X sc W _ c h5).1 pa_nil (star_of h6 [] X.env)
    have few : ((backTo pos (starEach [b] X.env)).all (fun x => !x.1) && (backToKw pos (keywordEach [] X.env)).all (fun x => x.1.isSome)
      && decide (([b] : List Expr).length + ([] : List Keyword).length + (if ([] : List Keyword).isEmpty then 0 else 1) < 30)) = true := by
      rw [star_of h6 [] X.env]; rfl
    have fin : ∀ σ H Q, tE X.K C dp W cls (.sm o m n) σ H Q → tBM X.K "str" (rM X.K (o2 o)) (tE X.K C dp W cls m) (tCons (tE X.K C dp W cls n) tNil) σ H Q := by
      rintro σ H Q ⟨ω, ρ, st, hl, hs, hp⟩
      unfold ev at hp
      refine ⟨ω, ρ, st, hl, hs, (Post.bind hp).mono fun x st1 ω1 H1 x1 s1 q1 v r1 => ?_⟩
      cases x <;> first | exact q1.elim | skip
      rename_i z
      have ev' : v = .str z := r1.1
      refine ⟨by rw [ev']; exact rfl, ω1, ρ, st1, hl.ext x1, s1, (Post.bind q1).mono fun y st2 ω2 H2 x2 s2 q2 w r2 => ?_⟩
      obtain ⟨d, e, q⟩ := Post.lift q2
      exact ⟨ω2, _, y, d, s2.trk, r1.ext x2, ⟨w, _, rfl, r2, rfl⟩, e, fun H' v' gr r => q ω2 H' (.ofGrow s2 gr) (s2.grow gr) v' r⟩
    cases o <;> first | (simp [o2Meth] at h1; done) | skip
    · simp only [o2Meth, decide_eq_true_eq] at h1
      subst h1
      exact both_of (pe_imp (pe_bm PySem.F.plainAttrs_str PySem.F.slot_str_join PySem.F.type_str_join mt_dJoin (hm X sc W _ c h4).1 P (attr_ok h2 _ _) few h3 (star_of h6 [] X.env) rfl) fin) rfl
    · simp only [o2Meth, decide_eq_true_eq] at h1
      subst h1
      exact both_of (pe_imp (pe_bm PySem.F.plainAttrs_str PySem.F.slot_str_split PySem.F.type_str_split mt_dSplit (hm X sc W _ c h4).1 P (attr_ok h2 _ _) few h3 (star_of h6 [] X.env) rfl) fin) rfl
  · cases h
theorem snd_chain {o o' : O2} (hm : SndE N G k C cls dp m) (hn : SndE N G k C cls dp n) (hl : SndE N G k C cls dp l) : SndE N G k C cls dp (.chain o o' m n l) := by
  intro X sc W e c h
  unfold chkE at h
  split at h
  · rename_i a op op' b c' pos
    simp only [Bool.and_eq_true, decide_eq_true_eq] at h
    obtain ⟨⟨⟨⟨⟨⟨h1, h2⟩, h3⟩, h4⟩, h5⟩, h6⟩, h7⟩ := h
    have A := (hm X sc W _ c h5).1
    have B := (hn X sc W _ c h6).1
    have D := (hl X sc W _ c h7).1
    have lm : lastMarks [op, op'] [b, c'] = false := set_ok h4
    have key : ∀ σ H Q, tE X.K C dp W cls (.chain o o' m n l) σ H Q → tChain (rB X.K (o2 o)) (rB X.K (o2 o')) (tE X.K C dp W cls m) (tE X.K C dp W cls n) (tE X.K C dp W cls l) σ H Q := by
      rintro σ H Q ⟨ω, ρ, st, hl, hs, hp⟩
      unfold ev at hp
      refine ⟨ω, ρ, st, hl, hs, (Post.bind hp).mono fun x st1 ω1 H1 x1 s1 q1 v r1 => ⟨ω1, ρ, st1, hl.ext x1, s1, (Post.bind q1).mono fun y st2 ω2 H2 x2 s2 q2 w r2 => ?_⟩⟩
      unfold R.bool at q2
      refine rB_of s2 (r1.ext x2) r2 (Post.bind q2) ?_
      intro d ω3 H3 x3 s3 q3 z rz
      cases d <;> first | exact q3.elim | skip
      rename_i kk
      refine ⟨kk, rz, ?_⟩
      cases kk with
      | true =>
        rw [if_pos rfl]
        refine ⟨ω3, ρ, st2, (hl.ext x1).ext (x2.trans x3), s3, (Post.bind q3).mono fun u st4 ω4 H4 x4 s4 q4 t r4 => ?_⟩
        exact rB_of s4 (r2.ext (x3.trans x4)) r4 q4 fun d ω' H' x' s' P => P
      | false =>
        rw [if_neg Bool.false_ne_true]
        exact q3 ω3 H3 .refl s3 _ rfl
    exact ⟨pe_imp (pe_chain (op_cmp c h1) (op_cmp c h2) A B D lm) key, pt_imp (pt_chain (op_cmp c h1) (op_cmp c h2) A B D lm) fun σ H Q q => tTest_of q key⟩
  · cases h

theorem Post.bool {σ : L2.St} {ω : Wd} {H : Hp} {K : PySem.W.Frag} {r : R D} {f : Bool → Sto → R D} {P : D → Sto → Wd → Hp → Prop} (h : Post K dp W cls σ ω H (r.bool f) P) :
    Post K dp W cls σ ω H r fun d st1 ω1 H1 => ∃ b, d = .bl b ∧ Post K dp W cls σ ω1 H1 (f b st1) P := by
  unfold R.bool at h
  refine (Post.bind h).mono ?_
  intro d st1 ω1 H1 x s q
  cases d <;> first | exact q.elim | skip
  exact ⟨_, rfl, q⟩
theorem pw_of {f : Env → Sto → R D} {pos : Pos} {op : BoolOp} (h : PT X e (tTf X.K dp W cls f)) (hw : ∀ {t : TT}, PT X e t → PW X (.BoolOp op [e] pos) t) : PW X (.BoolOp op [e] pos) (tTf X.K dp W cls f) := hw h
theorem snd_and (hm : ∀ m ∈ ms, SndE N G k C cls dp m) : ∀ (es : List Expr) (pos : Pos), Cok X G k C cls N sc W → chkEs N G ms sc es = true → es ≠ [] →
    PE X (.BoolOp .And es pos) (tEf X.K dp W cls fun ρ st => evAnd C ms ρ st) ∧ PW X (.BoolOp .And es pos) (tTf X.K dp W cls fun ρ st => evAnd C ms ρ st) := by
  induction ms with
  | nil =>
    intro es pos c h n
    unfold chkEs at h
    exact absurd (List.isEmpty_iff.mp h) n
  | cons m ms ih =>
    intro es pos c h n
    unfold chkEs at h
    cases es with
    | nil => cases h
    | cons e es =>
      simp only [Bool.and_eq_true] at h
      obtain ⟨A, B⟩ := hm m List.mem_cons_self X sc W e c h.1.1
      cases ms with
      | nil =>
        have h2 := h.2
        unfold chkEs at h2
        have e1 := List.isEmpty_iff.mp h2
        subst e1
        refine ⟨pe_imp (pe_one A) ?_, ?_⟩
        · rintro σ H Q ⟨ω, ρ, st, hl, hs, hp⟩
          unfold evAnd at hp
          exact ⟨ω, ρ, st, hl, hs, hp⟩
        · refine ⟨fun whole pins s σ H Q I q => (pw_and1 B).run whole pins s σ H Q I ?_⟩
          obtain ⟨ω, ρ, st, hl, hs, hp⟩ := q
          unfold evAnd at hp
          exact ⟨ω, ρ, st, hl, hs, hp⟩
      | cons m2 ms =>
        cases es with
        | nil =>
          have h2 := h.2
          unfold chkEs at h2
          cases h2
        | cons e2 es =>
          obtain ⟨A2, B2⟩ := ih (fun m h => hm m (List.mem_cons_of_mem _ h)) (e2 :: es) pos c h.2 (by simp)
          refine ⟨pe_imp (pe_and A A2) ?_, ?_⟩
          · rintro σ H Q ⟨ω, ρ, st, hl, hs, hp⟩
            unfold evAnd at hp
            refine ⟨ω, ρ, st, hl, hs, (Post.bool hp).mono ?_⟩
            rintro d st1 ω1 H1 x1 s1 ⟨b, rfl, q1⟩ v r
            refine ⟨b, r, ?_⟩
            cases b with
            | true => exact ⟨ω1, ρ, st1, hl.ext x1, s1, q1⟩
            | false => exact q1 ω1 H1 .refl s1 _ rfl
          · refine ⟨fun whole pins s σ H Q I q => (pw_and B B2).run whole pins s σ H Q I ?_⟩
            obtain ⟨ω, ρ, st, hl, hs, hp⟩ := q
            unfold evAnd at hp
            refine ⟨ω, ρ, st, hl, hs, (Post.bool hp).mono ?_⟩
            rintro d st1 ω1 H1 x1 s1 ⟨b, rfl, q1⟩
            refine ⟨b, rfl, ?_⟩
            cases b with
            | true => exact ⟨ω1, ρ, st1, hl.ext x1, s1, q1⟩
            | false =>
              obtain ⟨b', e', q'⟩ := q1 ω1 H1 .refl s1
              cases e'
              exact q'
theorem snd_or (hm : ∀ m ∈ ms, SndE N G k C cls dp m) : ∀ (es : List Expr) (pos : Pos), Cok X G k C cls N sc W → chkEs N G ms sc es = true → es ≠ [] →
    PE X (.BoolOp .Or es pos) (tEf X.K dp W cls fun ρ st => evOr C ms ρ st) ∧ PW X (.BoolOp .Or es pos) (tTf X.K dp W cls fun ρ st => evOr C ms ρ st) := by
  induction ms with
  | nil =>
    intro es pos c h n
    unfold chkEs at h
    exact absurd (List.isEmpty_iff.mp h) n
  | cons m ms ih =>
    intro es pos c h n
    unfold chkEs at h
    cases es with
    | nil => cases h
    | cons e es =>
      simp only [Bool.and_eq_true] at h
      obtain ⟨A, B⟩ := hm m List.mem_cons_self X sc W e c h.1.1
      cases ms with
      | nil =>
        have h2 := h.2
        unfold chkEs at h2
        have e1 := List.isEmpty_iff.mp h2
        subst e1
        refine ⟨pe_imp (pe_one A) ?_, ?_⟩
        · rintro σ H Q ⟨ω, ρ, st, hl, hs, hp⟩
          unfold evOr at hp
          exact ⟨ω, ρ, st, hl, hs, hp⟩
        · refine ⟨fun whole pins s σ H Q I q => (pw_or1 B).run whole pins s σ H Q I ?_⟩
          obtain ⟨ω, ρ, st, hl, hs, hp⟩ := q
          unfold evOr at hp
          exact ⟨ω, ρ, st, hl, hs, hp⟩
      | cons m2 ms =>
        cases es with
        | nil =>
          have h2 := h.2
          unfold chkEs at h2
          cases h2
        | cons e2 es =>
          obtain ⟨A2, B2⟩ := ih (fun m h => hm m (List.mem_cons_of_mem _ h)) (e2 :: es) pos c h.2 (by simp)
          refine ⟨pe_imp (pe_or A A2) ?_, ?_⟩
          · rintro σ H Q ⟨ω, ρ, st, hl, hs, hp⟩
            unfold evOr at hp
            refine ⟨ω, ρ, st, hl, hs, (Post.bool hp).mono ?_⟩
            rintro d st1 ω1 H1 x1 s1 ⟨b, rfl, q1⟩ v r
            refine ⟨b, r, ?_⟩
            cases b with
            | false => exact ⟨ω1, ρ, st1, hl.ext x1, s1, q1⟩
            | true => exact q1 ω1 H1 .refl s1 _ rfl
          · refine ⟨fun whole pins s σ H Q I q => (pw_or B B2).run whole pins s σ H Q I ?_⟩
            obtain ⟨ω, ρ, st, hl, hs, hp⟩ := q
            unfold evOr at hp
            refine ⟨ω, ρ, st, hl, hs, (Post.bool hp).mono ?_⟩
            rintro d st1 ω1 H1 x1 s1 ⟨b, rfl, q1⟩
            refine ⟨b, rfl, ?_⟩
            cases b with
            | false => exact ⟨ω1, ρ, st1, hl.ext x1, s1, q1⟩
            | true =>
              obtain ⟨b', e', q'⟩ := q1 ω1 H1 .refl s1
              cases e'
              exact q'
theorem snd_andE (hm : ∀ m ∈ ms, SndE N G k C cls dp m) : SndE N G k C cls dp (.and ms) := by
  intro X sc W e c h
  unfold chkE at h
  split at h
  · simp only [Bool.and_eq_true] at h
    obtain ⟨A, B⟩ := snd_and hm _ _ c h.1 (fun z => by rw [z] at h; simp at h)
    refine ⟨pe_imp A ?_, pt_imp B.pt ?_⟩
    · rintro σ H Q ⟨ω, ρ, st, hl, hs, hp⟩
      unfold ev at hp
      exact ⟨ω, ρ, st, hl, hs, hp⟩
    · rintro σ H Q ⟨ω, ρ, st, hl, hs, hp⟩
      unfold ev at hp
      exact ⟨ω, ρ, st, hl, hs, hp⟩
  · cases h
theorem snd_orE (hm : ∀ m ∈ ms, SndE N G k C cls dp m) : SndE N G k C cls dp (.or ms) := by
  intro X sc W e c h
  unfold chkE at h
  split at h
  · simp only [Bool.and_eq_true] at h
    obtain ⟨A, B⟩ := snd_or hm _ _ c h.1 (fun z => by rw [z] at h; simp at h)
    refine ⟨pe_imp A ?_, pt_imp B.pt ?_⟩
    · rintro σ H Q ⟨ω, ρ, st, hl, hs, hp⟩
      unfold ev at hp
      exact ⟨ω, ρ, st, hl, hs, hp⟩
    · rintro σ H Q ⟨ω, ρ, st, hl, hs, hp⟩
      unfold ev at hp
      exact ⟨ω, ρ, st, hl, hs, hp⟩
  · cases h
theorem snd_not (hm : SndE N G k C cls dp m) : SndE N G k C cls dp (.not m) := by
  intro X sc W e c h
  unfold chkE at h
  split at h
  · obtain ⟨A, B⟩ := hm X sc W _ c h
    refine ⟨pe_imp (pe_not A) ?_, pt_imp (pt_not B) ?_⟩
    · rintro σ H Q ⟨ω, ρ, st, hl, hs, hp⟩
      unfold ev at hp
      refine ⟨ω, ρ, st, hl, hs, (Post.bool hp).mono ?_⟩
      rintro d st1 ω1 H1 x1 s1 ⟨b, rfl, q1⟩ v r
      exact ⟨b, r, q1 ω1 H1 .refl s1 _ rfl⟩
    · rintro σ H Q ⟨ω, ρ, st, hl, hs, hp⟩
      unfold ev at hp
      refine ⟨ω, ρ, st, hl, hs, (Post.bool hp).mono ?_⟩
      rintro d st1 ω1 H1 x1 s1 ⟨b, rfl, q1⟩
      obtain ⟨b', e', q'⟩ := q1 ω1 H1 .refl s1
      cases e'
      exact ⟨b, rfl, q'⟩
  · cases h
theorem isTrue_ife {f : Expr} {pos : Pos} {tc ta tb : TT} {a b : Expr} (hc : PT X f tc) (ha : PT X a ta) (hb : PT X b tb) : PT X (.IfExp f a b pos) (fun σ H Q => tc σ H fun d H1 => if d = true then ta σ H1 Q else tb σ H1 Q) := by
  refine ⟨fun pins s σ H Q I h => ?_⟩
  show wpAny _ _ (do if ← isTrue f X.env (eval f X.env) then isTrue a X.env (eval a X.env) else isTrue b X.env (eval b X.env)) _ _ _
  refine wpAny_bind (thn (hc.run pins s σ H _ I h) fun d s1 ⟨H1, I1, q1⟩ => ?_)
  cases d with
  | true =>
    rw [if_pos rfl]
    exact ha.run pins s1 σ H1 Q I1 q1
  | false =>
    rw [if_neg Bool.false_ne_true]
    exact hb.run pins s1 σ H1 Q I1 q1
theorem snd_ife (hm : SndE N G k C cls dp m) (hn : SndE N G k C cls dp n) (hl : SndE N G k C cls dp l) : SndE N G k C cls dp (.ife m n l) := by
  intro X sc W e c h
  unfold chkE at h
  split at h
  · simp only [Bool.and_eq_true] at h
    obtain ⟨A, B⟩ := hm X sc W _ c h.1.1
    obtain ⟨A1, B1⟩ := hn X sc W _ c h.1.2
    obtain ⟨A2, B2⟩ := hl X sc W _ c h.2
    refine ⟨pe_imp (pe_ifExp B A1 A2) ?_, pt_imp (isTrue_ife B B1 B2) ?_⟩
    · rintro σ H Q ⟨ω, ρ, st, hl, hs, hp⟩
      unfold ev at hp
      refine ⟨ω, ρ, st, hl, hs, (Post.bool hp).mono ?_⟩
      rintro d st1 ω1 H1 x1 s1 ⟨b, rfl, q1⟩
      refine ⟨b, rfl, ?_⟩
      cases b with
      | true => exact ⟨ω1, ρ, st1, hl.ext x1, s1, q1⟩
      | false => exact ⟨ω1, ρ, st1, hl.ext x1, s1, q1⟩
    · rintro σ H Q ⟨ω, ρ, st, hl, hs, hp⟩
      unfold ev at hp
      refine ⟨ω, ρ, st, hl, hs, (Post.bool hp).mono ?_⟩
      rintro d st1 ω1 H1 x1 s1 ⟨b, rfl, q1⟩
      refine ⟨b, rfl, ?_⟩
      cases b with
      | true => exact ⟨ω1, ρ, st1, hl.ext x1, s1, q1⟩
      | false => exact ⟨ω1, ρ, st1, hl.ext x1, s1, q1⟩
  · cases h

theorem snd_call {f : Nat} (hm : ∀ m ∈ ms, SndE N G k C cls dp m) : SndE N G k C cls dp (.call f ms) := by
  intro X sc W e c h
  unfold chkE at h
  split at h
  · rename_i x p es pos
    simp only [Bool.and_eq_true, decide_eq_true_eq] at h
    obtain ⟨⟨⟨⟨h1, h2⟩, h3⟩, h4⟩, h5⟩ := h
    obtain ⟨A, B⟩ := snd_es hm X sc W es c h5
    obtain ⟨fa, fd, ps, F, hmg, kp, hb⟩ := c.fns f x h1
    have nm := nameOk_of h3
    cases es with
    | nil => simp at h4
    | cons e es =>
      rw [List.all_cons, Bool.and_eq_true] at B
      refine both_of (pe_imp (pe_callS F c.room (glb_of c.hsc h2) hmg kp hb (fun σ => passAt c.tk σ) A nm.d (star_of B.1 es X.env) (stars_of B.2)) ?_) rfl
      rintro σ H Q ⟨ω, ρ, st, hl, hs, hp⟩
      unfold ev at hp
      refine ⟨ω, ρ, st, hl, hs, (Post.bind hp).mono fun ds st1 ω1 H1 x1 s1 q1 vs r1 => ?_⟩
      refine ⟨ω1, st1, ds, dp + 1, s1, r1, ?_⟩
      revert q1
      cases C f ds st1 with
      | ok d st2 => exact fun q1 ω2 v H2 x2 s2 r2 => q1 ω2 H2 x2 s2 v r2
      | exc cc st2 => exact fun q1 ω2 H2 x2 s2 => q1 ω2 H2 x2 s2
      | fail => exact fun q1 => q1
  · cases h
end
end TL

namespace TL
open PySem L2 PyProof.Rows
section
variable {X : Cx} {N : List Str} {G : GT} {k : Nat} {C : Cal} {cls : Nat → Value} {dp : Nat} {sc : Scope} {W : WX} {e : Expr} {es : List Expr} {m n l a b : E} {ms : List E}
theorem cut_reps {K : PySem.W.Frag} {ω : Wd} {H : Hp} {ds : List D} {vs : List V} (r : Reps K ω H ds vs) (lo hi : Option Int) : Reps K ω H (cutD ds lo hi) (cutV vs lo hi) := by
  unfold cutD cutV
  rw [r.length]
  exact Reps.take _ (Reps.drop _ r)
theorem cutD_le {α : Type} (xs : List α) (lo hi : Option Int) : (cutD xs lo hi).length ≤ xs.length := by
  unfold cutD
  rw [List.length_take, List.length_drop]
  omega
theorem cutD_whole {α : Type} {xs : List α} {lo hi : Option Int} (h : HT.sIx xs.length 0 lo = 0 ∧ HT.sIx xs.length xs.length hi = xs.length) : cutD xs lo hi = xs := by
  unfold cutD
  rw [h.1, h.2]
  simp
theorem sl_dCut : SlR X (fun x lo hi H Q => ∃ (ω : Wd) (a d : D), (∀ a, ω.wr a ≠ none → H a ≠ none) ∧ Rep X.K ω H a x ∧ dCut a lo hi = some d ∧ ∀ H' v, Same H H' → Rep X.K ω H' d v → Q v H') := by
  have h := (sl_tupA (X := X)).or ((sl_list (X := X)).or (sl_str (X := X)))
  intro pins s σ H x v vl vu lo hi sl Q I rx hs pl pu q0
  refine h pins s σ H x v vl vu lo hi sl Q I rx hs pl pu ?_
  obtain ⟨ω, a, d, tr, ra, e, q⟩ := q0
  unfold dCut at e
  split at e
  · cases e
    obtain ⟨l1, a1, vs, rfl, s1, r1⟩ := ra
    refine .inl ⟨a1, vs, rfl, s1, fun w => ?_, fun w p hp => ?_⟩
    · rw [r1.length] at w
      rw [cutD_whole w] at q
      exact q H _ same_refl ⟨l1, a1, vs, rfl, s1, r1⟩
    · exact q _ _ (same_new hp _) (rep_new_tup hp (cut_reps r1 _ _) (Nat.le_trans (cutD_le _ _ _) l1))
  · cases e
    obtain ⟨l1, a1, vs, rfl, s1, w1, r1⟩ := ra
    refine .inr (.inl ⟨a1, vs, rfl, SqL.of s1, fun p hp => ?_⟩)
    exact q _ _ (same_new hp _) (rep_new_lst tr hp (cut_reps r1 _ _) (Nat.le_trans (cutD_le _ _ _) l1))
  · cases e
    obtain ⟨rfl, l1⟩ := ra
    refine .inr (.inr ⟨_, rfl, l1, q H _ same_refl ⟨?_, ?_⟩⟩)
    · unfold cutS cutD
      rw [Array.length_toList]
      rfl
    · show (List.toArray (cutD _ lo hi)).size ≤ sizeLine
      rw [List.size_toArray]
      refine Nat.le_trans (cutD_le _ _ _) ?_
      rw [Array.length_toList]
      exact l1
  · cases e
/-- a part of a slice -/
def tPartE (K : PySem.W.Frag) (C : Cal) (dp : Nat) (W : WX) (cls : Nat → Value) (ms : List E) : TO := fun σ H Q => ∃ ω ρ st, Loc K ω dp ρ σ H ∧ StoOk K ω st H ∧
  Post K dp W cls σ ω H ((evs C ms ρ st).bind fun l st => R.lift st (optI l)) fun o _ ω' H' => Q o H'
theorem po_imp {o : Option Expr} {t t' : TO} (h : PO X o t) (i : ∀ σ H Q, t' σ H Q → t σ H Q) : PO X o t' := ⟨fun pins s σ H Q I q => h.run pins s σ H Q I (i σ H Q q)⟩
theorem po_nil' : PO X none (tPartE X.K C dp W cls []) := po_imp po_none (by
  rintro σ H Q ⟨ω, ρ, st, hl, hs, hp⟩
  unfold evs at hp
  exact hp ω H .refl hs)
theorem po_one' (h : PE X e (tE X.K C dp W cls m)) : PO X (some e) (tPartE X.K C dp W cls [m]) := po_imp (po_some h) (by
  rintro σ H Q ⟨ω, ρ, st, hl, hs, hp⟩
  unfold evs at hp
  refine ⟨ω, ρ, st, hl, hs, (Post.bind (Post.bind hp)).mono fun d st1 ω1 H1 x1 s1 q1 v r1 => ?_⟩
  unfold evs at q1
  have q1 : ∀ ω' H', Ext (dp + 1) ω1 H1 ω' H' → StoOk X.K ω' st1 H' → Post X.K dp W cls σ ω' H' (R.lift st1 (optI [d])) _ := q1
  obtain ⟨o, eo, q2⟩ := Post.lift (q1 ω1 H1 .refl s1)
  unfold optI at eo
  split at eo
  · rename_i z; cases z
  · rename_i z; cases z; cases eo
    exact ⟨_, r1, q2 ω1 H1 .refl s1⟩
  · cases eo)
theorem bind_assoc' {α β γ : Type} (r : R α) (f : α → Sto → R β) (g : β → Sto → R γ) : (r.bind f).bind g = r.bind fun a st => (f a st).bind g := by cases r <;> rfl
theorem snd_sl_core {lo hi : List E} {p2 pos : Pos} {el eh : Option Expr} {x : Expr} (A : PE X x (tE X.K C dp W cls m)) (L : PO X el (tPartE X.K C dp W cls lo)) (U : PO X eh (tPartE X.K C dp W cls hi)) :
    PE X (.Subscript x (.Slice el eh none p2) pos) (tE X.K C dp W cls (.sl m lo hi)) := by
  refine pe_imp (pe_slice sl_dCut A L U) ?_
  rintro σ H Q ⟨ω, ρ, st, hl, hs, hp⟩
  unfold ev at hp
  refine ⟨ω, ρ, st, hl, hs, (Post.bind hp).mono fun d st1 ω1 H1 x1 s1 q1 v r1 => ⟨ω1, ρ, st1, hl.ext x1, s1, ?_⟩⟩
  rw [← bind_assoc'] at q1
  refine (Post.bind q1).mono fun l st2 ω2 H2 x2 s2 q2 => ⟨ω2, ρ, st2, (hl.ext x1).ext x2, s2, ?_⟩
  rw [← bind_assoc'] at q2
  refine (Post.bind q2).mono fun u st3 ω3 H3 x3 s3 q3 => ?_
  obtain ⟨z, ez, q⟩ := Post.lift q3
  exact ⟨ω3, d, z, s3.trk, r1.ext (x2.trans x3), ez, fun H' v' gr r => q ω3 H' (.ofGrow s3 gr) (s3.grow gr) v' r⟩
theorem snd_sl {lo hi : List E} (hm : SndE N G k C cls dp m) (hlo : ∀ m ∈ lo, SndE N G k C cls dp m) (hhi : ∀ m ∈ hi, SndE N G k C cls dp m) : SndE N G k C cls dp (.sl m lo hi) := by
  intro X sc W e c h
  unfold chkE at h
  have one : ∀ {ms : List E} {x : Expr}, (∀ m ∈ ms, SndE N G k C cls dp m) → ms.length = 1 → chkEs N G ms sc [x] = true → PO X (some x) (tPartE X.K C dp W cls ms) := by
    intro ms x hms l1 hc
    match ms, l1 with
    | [m], _ =>
      unfold chkEs at hc
      simp only [Bool.and_eq_true] at hc
      exact po_one' (hms m List.mem_cons_self X sc W x c hc.1.1).1
  have nil : ∀ {ms : List E}, ms.isEmpty = true → PO X none (tPartE X.K C dp W cls ms) := by
    intro ms h0
    rw [List.isEmpty_iff.mp h0]
    exact po_nil'
  split at h
  · simp only [Bool.and_eq_true] at h
    exact both_of (snd_sl_core (hm X sc W _ c h.2).1 (nil h.1.1) (nil h.1.2)) rfl
  · simp only [Bool.and_eq_true, decide_eq_true_eq] at h
    exact both_of (snd_sl_core (hm X sc W _ c h.1.2).1 (one hlo h.1.1.1 h.2) (nil h.1.1.2)) rfl
  · simp only [Bool.and_eq_true, decide_eq_true_eq] at h
    exact both_of (snd_sl_core (hm X sc W _ c h.1.2).1 (nil h.1.1.1) (one hhi h.1.1.2 h.2)) rfl
  · simp only [Bool.and_eq_true, decide_eq_true_eq] at h
    exact both_of (snd_sl_core (hm X sc W _ c h.1.1.2).1 (one hlo h.1.1.1.1 h.1.2) (one hhi h.1.1.1.2 h.2)) rfl
  · cases h

structure Feeds (K : PySem.W.Frag) (J : It) (ds : List D) (ω : Wd) (H : Hp) : Prop where
  len : ds.length ≤ sizeLine
  go : ∀ ω' H', Kept ω H ω' H' → ∀ i, i < ds.length → J.go i H'
  yld : ∀ ω' H', Kept ω H ω' H' → ∀ (i : Nat) (x : V) (H2 : Hp) (d : D), ds[i]? = some d → J.yld i H' x H2 → Same H' H2 ∧ Rep K ω' H2 d x
  stop : ∀ ω' H', Kept ω H ω' H' → J.stop ds.length H'
def tI (K : PySem.W.Frag) (C : Cal) (dp : Nat) (W : WX) (cls : Nat → Value) (ik : IK) (ie : List E) : TI := fun σ H R => ∃ ω ρ st, Loc K ω dp ρ σ H ∧ StoOk K ω st H ∧
  Post K dp W cls σ ω H (evs C ie ρ st) fun ds _ ω' H' => ∃ xs, items ik ds = some xs ∧ ∀ J, Feeds K J xs ω' H' → R J H'
theorem pi_imp {tg it : Expr} {t t' : TI} (h : PI X tg it t) (i : ∀ σ H Q, t' σ H Q → t σ H Q) : PI X tg it t' := ⟨fun pins s σ H Q I q => h.run pins s σ H Q I (i σ H Q q)⟩
theorem feeds_tup {K : PySem.W.Frag} {ω : Wd} {H : Hp} {a : Addr} {vs : List V} {ds : List D} (s : SqT K H a vs) (r : Reps K ω H ds vs) (l : ds.length ≤ sizeLine) : Feeds K (Itt K a) ds ω H where
  len := l
  go := fun ω' H' x i hi => by
    obtain ⟨v, e, _⟩ := r.get (List.getElem?_eq_getElem hi)
    exact ⟨vs, v, x.sqT s, e⟩
  yld := fun ω' H' x i v H2 d e y => by
    obtain ⟨rfl, y⟩ := y
    obtain ⟨v', e', r'⟩ := r.get e
    have := y vs (x.sqT s)
    rw [e'] at this
    cases this
    exact ⟨same_refl, Rep.kept x d _ r'⟩
  stop := fun ω' H' x => ⟨vs, x.sqT s, Nat.le_of_eq r.length⟩
theorem feeds_lst {K : PySem.W.Frag} {ω : Wd} {H : Hp} {a : Addr} {vs : List V} {ds : List D} (s : ∀ ω' H', Kept ω H ω' H' → SqL K H' a vs) (r : Reps K ω H ds vs) (l : ds.length ≤ sizeLine) : Feeds K (Itl K a) ds ω H where
  len := l
  go := fun ω' H' x i hi => by
    obtain ⟨v, e, _⟩ := r.get (List.getElem?_eq_getElem hi)
    exact ⟨vs, v, s ω' H' x, e⟩
  yld := fun ω' H' x i v H2 d e y => by
    obtain ⟨rfl, y⟩ := y
    obtain ⟨v', e', r'⟩ := r.get e
    have := y vs (s ω' H2 x)
    rw [e'] at this
    cases this
    exact ⟨same_refl, Rep.kept x d _ r'⟩
  stop := fun ω' H' x => ⟨vs, s ω' H' x, Nat.le_of_eq r.length⟩
theorem feeds_str {K : PySem.W.Frag} {ω : Wd} {H : Hp} {z : Str} (l : z.length ≤ sizeLine) : Feeds K (Its z) (z.cps.toList.map sign) ω H where
  len := by rw [List.length_map, Array.length_toList]; exact l
  go := fun ω' H' x i hi => by
    rw [List.length_map, Array.length_toList] at hi
    exact hi
  yld := fun ω' H' x i v H2 d e y => by
    obtain ⟨rfl, c, e1, rfl⟩ := y
    rw [List.getElem?_map, Array.getElem?_toList, e1] at e
    cases e
    exact ⟨same_refl, rfl, by show 1 ≤ sizeLine; rw [sizeLine_eq]; decide⟩
  stop := fun ω' H' x => by
    rw [List.length_map, Array.length_toList]
    exact Nat.le_refl _
theorem feeds_rng {K : PySem.W.Frag} {ω : Wd} {H : Hp} {lo : Int} {n : Nat} (l : n ≤ sizeLine) : Feeds K (Itr lo n) ((List.range n).map fun (i : Nat) => D.int (lo + (i : Int))) ω H where
  len := by rw [List.length_map, List.length_range]; exact l
  go := fun ω' H' x i hi => by
    rw [List.length_map, List.length_range] at hi
    exact hi
  yld := fun ω' H' x i v H2 d e y => by
    obtain ⟨rfl, rfl⟩ := y
    rw [List.getElem?_map] at e
    cases q : (List.range n)[i]? with
    | none => rw [q] at e; cases e
    | some j =>
      rw [q] at e
      cases e
      have : j = i := by
        obtain ⟨h1, h2⟩ := List.getElem?_eq_some_iff.mp q
        rw [List.getElem_range] at h2
        exact h2.symm
      subst this
      exact ⟨same_refl, rfl⟩
  stop := fun ω' H' x => by
    rw [List.length_map, List.length_range]
    exact Nat.le_refl _
theorem feeds_enumL {K : PySem.W.Frag} {ω : Wd} {H : Hp} {a : Addr} {vs : List V} {ds : List D} (s : ∀ ω' H', Kept ω H ω' H' → SqL K H' a vs) (r : Reps K ω H ds vs) (l : ds.length ≤ sizeLine) :
    Feeds K (Ite K a) (ds.zipIdx.map fun p => D.tup [.int (p.2 : Nat), p.1]) ω H where
  len := by rw [List.length_map, List.length_zipIdx]; exact l
  go := fun ω' H' x i hi => by
    rw [List.length_map, List.length_zipIdx] at hi
    obtain ⟨v, e, _⟩ := r.get (List.getElem?_eq_getElem hi)
    exact ⟨vs, v, s ω' H' x, e⟩
  yld := fun ω' H' x i v H2 d e y => by
    obtain ⟨T, z, rfl, hT, rfl, y⟩ := y
    rw [List.getElem?_map, List.getElem?_zipIdx] at e
    cases q : ds[i]? with
    | none => rw [q] at e; cases e
    | some d' =>
      rw [q] at e
      cases e
      obtain ⟨v', e', r'⟩ := r.get q
      have := y vs (s ω' H' x)
      rw [e'] at this
      cases this
      refine ⟨same_new hT _, rep_new_tup hT ⟨_, _, rfl, by show V.int _ = V.int _; rw [Nat.zero_add], _, _, rfl, Rep.kept x _ _ r', rfl⟩ (by show 2 ≤ sizeLine; rw [sizeLine_eq]; decide)⟩
  stop := fun ω' H' x => ⟨vs, s ω' H' x, by rw [List.length_map, List.length_zipIdx]; exact Nat.le_of_eq r.length⟩
end
end TL

namespace TL
open PySem L2 PyProof.Rows
section
variable {X : Cx} {N : List Str} {G : GT} {k : Nat} {C : Cal} {cls : Nat → Value} {dp : Nat} {sc : Scope} {W : WX} {e : Expr} {es : List Expr} {m n l a b : E} {ms : List E}
theorem feeds_enumT {K : PySem.W.Frag} {ω : Wd} {H : Hp} {a : Addr} {vs : List V} {ds : List D} (s : SqT K H a vs) (r : Reps K ω H ds vs) (l : ds.length ≤ sizeLine) :
    Feeds K (IteT K a) (ds.zipIdx.map fun p => D.tup [.int (p.2 : Nat), p.1]) ω H where
  len := by rw [List.length_map, List.length_zipIdx]; exact l
  go := fun ω' H' x i hi => by
    rw [List.length_map, List.length_zipIdx] at hi
    obtain ⟨v, e, _⟩ := r.get (List.getElem?_eq_getElem hi)
    exact ⟨vs, v, x.sqT s, e⟩
  yld := fun ω' H' x i v H2 d e y => by
    obtain ⟨T, z, rfl, hT, rfl, y⟩ := y
    rw [List.getElem?_map, List.getElem?_zipIdx] at e
    cases q : ds[i]? with
    | none => rw [q] at e; cases e
    | some d' =>
      rw [q] at e
      cases e
      obtain ⟨v', e', r'⟩ := r.get q
      have := y vs (x.sqT s)
      rw [e'] at this
      cases this
      refine ⟨same_new hT _, rep_new_tup hT ⟨_, _, rfl, by show V.int _ = V.int _; rw [Nat.zero_add], _, _, rfl, Rep.kept x _ _ r', rfl⟩ (by show 2 ≤ sizeLine; rw [sizeLine_eq]; decide)⟩
  stop := fun ω' H' x => ⟨vs, x.sqT s, by rw [List.length_map, List.length_zipIdx]; exact Nat.le_of_eq r.length⟩
theorem ie_one {it : Expr} {ie : List E} (h : chkEs N G ie sc [it] = true) : ∃ m, ie = [m] ∧ chkE N G m sc it = true := by
  have l := chkEs_length h
  match ie, l with
  | [m], _ =>
    unfold chkEs at h
    simp only [Bool.and_eq_true] at h
    exact ⟨m, rfl, h.1.1⟩
/-- one expression, walked -/
theorem post_one {σ : L2.St} {ω : Wd} {H : Hp} {K : PySem.W.Frag} {ρ : Env} {st : Sto} {P : List D → Sto → Wd → Hp → Prop} (h : Post K dp W cls σ ω H (evs C [m] ρ st) P) :
    Post K dp W cls σ ω H (ev C m ρ st) fun d st' ω' H' => P [d] st' ω' H' := by
  unfold evs at h
  refine (Post.bind h).mono fun d st1 ω1 H1 x1 s1 q1 => ?_
  unfold evs at q1
  have q1 : ∀ ω' H', Ext (dp + 1) ω1 H1 ω' H' → StoOk K ω' st1 H' → P [d] st1 ω' H' := q1
  exact q1 ω1 H1 .refl s1
theorem snd_it {ik : IK} {tg : T} {t it : Expr} {ie : List E} {own : List Nat} (hm : ∀ m ∈ ie, SndE N G k C cls dp m) (c : Cok X G k C cls N sc W) (h : itArgs G sc ik tg it = some es) (h2 : chkEs N G ie sc es = true)
    (h3 : ∀ is, tg = .tp is → ∃ es kk p, t = .Tuple es kk p) : PI X t it (tI X.K C dp W cls ik ie) := by
  unfold itArgs at h
  have seqs : ∀ {t' : TI}, (∀ m, ie = [m] → PE X it (tE X.K C dp W cls m) → PI X t it t') → es = [it] → PI X t it t' := by
    intro t' f e1
    subst e1
    obtain ⟨m, rfl, hc⟩ := ie_one h2
    exact f m rfl (hm m List.mem_cons_self X sc W it c hc).1
  split at h
  · rename_i y p es' pos
    split at h
    · rename_i hc
      cases h
      simp only [Bool.and_eq_true, Bool.or_eq_true, decide_eq_true_eq] at hc
      obtain ⟨⟨rfl, hf⟩, hl⟩ := hc
      have F := fre_of c hf
      obtain ⟨A, B⟩ := snd_es hm X sc W es c h2
      rcases hl with hl | hl
      · match es, hl with
        | [a], _ =>
          rw [List.all_cons, Bool.and_eq_true] at B
          refine pi_imp (pi_range1 F.g F.m A (star_of B.1 [] X.env)) ?_
          rintro σ H R ⟨ω, ρ, st, hl, hs, hp⟩
          refine ⟨ω, ρ, st, hl, hs, hp.len.mono ?_⟩
          rintro ds st' ω' H' x s ⟨ln, xs, e1, q⟩ vs r
          have l2 := chkEs_length h2
          unfold items at e1
          split at e1 <;> try cases e1
          all_goals try contradiction
          · split at e1
            · rename_i hb
              cases e1
              obtain ⟨v, rfl, rv⟩ := r.one
              cases rv
              refine ⟨_, rfl, hb.1, ?_, q _ (feeds_rng ?_)⟩
              · have := hb.2
                rw [sizeLine_eq] at this
                omega
              · have := hb.2
                omega
            · cases e1
          · exact absurd (ln.trans l2.symm) (by simp)
      · match es, hl with
        | [a, b], _ =>
          rw [List.all_cons, List.all_cons, Bool.and_eq_true, Bool.and_eq_true] at B
          refine pi_imp (pi_range2 F.g F.m A (by rw [star_of B.1, star_of B.2.1]; rfl) (star_of B.2.1 [] X.env)) ?_
          rintro σ H R ⟨ω, ρ, st, hl, hs, hp⟩
          refine ⟨ω, ρ, st, hl, hs, hp.len.mono ?_⟩
          rintro ds st' ω' H' x s ⟨ln, xs, e1, q⟩ vs r
          have l2 := chkEs_length h2
          unfold items at e1
          split at e1 <;> try cases e1
          all_goals try contradiction
          · exact absurd (ln.trans l2.symm) (by simp)
          · split at e1
            · rename_i hb
              cases e1
              obtain ⟨v, w, rfl, rv, rw'⟩ := r.two
              cases rv; cases rw'
              refine ⟨_, _, rfl, ⟨hb.1, hb.2.1, hb.2.2.1, hb.2.2.2.1⟩, q _ (feeds_rng ?_)⟩
              have := hb.2.2.2.2
              omega
            · cases e1
    · cases h
  · rename_i is y p es' pos
    split at h
    · rename_i hc
      cases h
      simp only [Bool.and_eq_true, decide_eq_true_eq] at hc
      obtain ⟨⟨rfl, hf⟩, hl⟩ := hc
      have F := fre_of c hf
      obtain ⟨A, B⟩ := snd_es hm X sc W es c h2
      obtain ⟨elts, kk, tp, rfl⟩ := h3 is rfl
      match es, hl with
      | [a], _ =>
        rw [List.all_cons, Bool.and_eq_true] at B
        refine pi_imp (pi_enumT F.g F.m A (star_of B.1 [] X.env)) ?_
        rintro σ H R ⟨ω, ρ, st, hl, hs, hp⟩
        refine ⟨ω, ρ, st, hl, hs, hp.mono ?_⟩
        rintro ds st' ω' H' x s ⟨xs, e1, q⟩ vs r
        unfold items at e1
        split at e1 <;> try cases e1
        all_goals try contradiction
        obtain ⟨v, rfl, l1, a1, ws, rfl, s1, r1⟩ := r.one
        exact ⟨a1, ws, rfl, s1, q _ (feeds_enumT s1 r1 l1)⟩
    · cases h
  · rename_i is y p es' pos
    split at h
    · rename_i hc
      cases h
      simp only [Bool.and_eq_true, decide_eq_true_eq] at hc
      obtain ⟨⟨rfl, hf⟩, hl⟩ := hc
      have F := fre_of c hf
      obtain ⟨A, B⟩ := snd_es hm X sc W es c h2
      obtain ⟨elts, kk, tp, rfl⟩ := h3 is rfl
      match es, hl with
      | [a], _ =>
        rw [List.all_cons, Bool.and_eq_true] at B
        refine pi_imp (pi_enum F.g F.m A (star_of B.1 [] X.env)) ?_
        rintro σ H R ⟨ω, ρ, st, hl, hs, hp⟩
        refine ⟨ω, ρ, st, hl, hs, hp.mono ?_⟩
        rintro ds st' ω' H' x s ⟨xs, e1, q⟩ vs r
        unfold items at e1
        split at e1 <;> try cases e1
        all_goals try contradiction
        obtain ⟨v, rfl, l1, a1, ws, rfl, s1, w1, r1⟩ := r.one
        exact ⟨a1, ws, rfl, SqL.of s1, q _ (feeds_enumL (fun ω2 H2 x => SqL.of (x.lst _ _ s1 w1).1) r1 l1)⟩
    · cases h
  · cases h
    refine seqs (fun m em A => ?_) rfl
    subst em
    refine pi_imp (pi_tup A) ?_
    rintro σ H R ⟨ω, ρ, st, hl, hs, hp⟩
    refine ⟨ω, ρ, st, hl, hs, (post_one hp).mono ?_⟩
    rintro d st' ω' H' x s ⟨xs, e1, q⟩ v r
    cases d <;> first | (simp [items] at e1; done) | skip
    simp only [items, Option.some.injEq] at e1
    subst e1
    obtain ⟨l1, a1, ws, rfl, s1, r1⟩ := r
    exact ⟨a1, rfl, ⟨ws, s1⟩, q _ (feeds_tup s1 r1 l1)⟩
  · cases h
    refine seqs (fun m em A => ?_) rfl
    subst em
    refine pi_imp (pi_list A) ?_
    rintro σ H R ⟨ω, ρ, st, hl, hs, hp⟩
    refine ⟨ω, ρ, st, hl, hs, (post_one hp).mono ?_⟩
    rintro d st' ω' H' x s ⟨xs, e1, q⟩ v r
    cases d <;> first | (simp [items] at e1; done) | skip
    simp only [items, Option.some.injEq] at e1
    subst e1
    obtain ⟨l1, a1, ws, rfl, s1, w1, r1⟩ := r
    exact ⟨a1, rfl, ⟨ws, SqL.of s1⟩, q _ (feeds_lst (fun ω2 H2 x => SqL.of (x.lst _ _ s1 w1).1) r1 l1)⟩
  · cases h
    refine seqs (fun m em A => ?_) rfl
    subst em
    refine pi_imp (pi_list A) ?_
    rintro σ H R ⟨ω, ρ, st, hl, hs, hp⟩
    refine ⟨ω, ρ, st, hl, hs, (post_one hp).mono ?_⟩
    rintro d st' ω' H' x s ⟨xs, e1, q⟩ v r
    cases d <;> first | (simp [items] at e1; done) | skip
    simp only [items, Option.some.injEq] at e1
    subst e1
    obtain ⟨l1, a1, ws, rfl, s1, r1⟩ := r
    refine ⟨a1, rfl, ⟨ws, sq_fls s1⟩, q _ (feeds_lst (fun ω2 H2 x => sq_fls (ω := ω2) ?_) r1 l1)⟩
    rcases s1 with ⟨s1, w1⟩ | ⟨o, s1⟩ | s1
    · exact .inl (x.lst _ _ s1 w1)
    · exact .inr (.inl ⟨o, x.frz _ _ _ s1⟩)
    · exact .inr (.inr s1)
  · cases h
    refine seqs (fun m em A => ?_) rfl
    subst em
    refine pi_imp (pi_str A) ?_
    rintro σ H R ⟨ω, ρ, st, hl, hs, hp⟩
    refine ⟨ω, ρ, st, hl, hs, (post_one hp).mono ?_⟩
    rintro d st' ω' H' x s ⟨xs, e1, q⟩ v r
    cases d <;> first | (simp [items] at e1; done) | skip
    simp only [items, Option.some.injEq] at e1
    subst e1
    obtain ⟨rfl, l1⟩ := r
    exact ⟨_, rfl, q _ (feeds_str l1)⟩
  · cases h

def gNames : List Nat → TGs
  | [] => gNil
  | i :: is => gCons (gName i) (gNames is)
def gT (K : PySem.W.Frag) : T → TG
  | .nm i => gName i
  | .tp is => gTup K is.length (gNames is)
theorem Loc.set {K : PySem.W.Frag} {ω : Wd} {H : Hp} {ρ : Env} {σ : L2.St} {i : Nat} {d : D} {v : V} (h : Loc K ω dp ρ σ H) (r : OwnR K ω H (.slot dp i) d v) : Loc K ω dp (ρ.set i (some d)) (σ.set i (some v)) H :=
  ⟨by rw [List.length_set, List.length_set]; exact h.len, fun j d' e => by
    by_cases hj : j = i
    · subst hj
      by_cases hl : j < ρ.length
      · rw [List.getElem?_set_self hl] at e
        cases e
        exact ⟨v, List.getElem?_set_self (by rw [h.len]; exact hl), r⟩
      · rw [List.getElem?_eq_none (by rw [List.length_set]; omega)] at e
        cases e
    · rw [List.getElem?_set_ne (Ne.symm hj)] at e
      obtain ⟨v', e', r'⟩ := h.at_ j d' e
      exact ⟨v', by rw [List.getElem?_set_ne (Ne.symm hj)]; exact e', r'⟩⟩
theorem Loc.setNone {K : PySem.W.Frag} {ω : Wd} {H : Hp} {ρ : Env} {σ : L2.St} {i : Nat} (h : Loc K ω dp ρ σ H) : Loc K ω dp (ρ.set i none) (σ.set i none) H :=
  ⟨by rw [List.length_set, List.length_set]; exact h.len, fun j d' e => by
    by_cases hj : j = i
    · subst hj
      by_cases hl : j < ρ.length
      · rw [List.getElem?_set_self hl] at e
        cases e
      · rw [List.getElem?_eq_none (by rw [List.length_set]; omega)] at e
        cases e
    · rw [List.getElem?_set_ne (Ne.symm hj)] at e
      obtain ⟨v', e', r'⟩ := h.at_ j d' e
      exact ⟨v', by rw [List.getElem?_set_ne (Ne.symm hj)]; exact e', r'⟩⟩
theorem Loc.wipe {K : PySem.W.Frag} {ω : Wd} {H : Hp} {ρ : Env} {σ : L2.St} (h : Loc K ω dp ρ σ H) : ∀ vs : List Nat, Loc K ω dp (wipeE ρ vs) (L2.wipe σ vs) H
  | [] => h
  | v :: vs => (Loc.wipe h vs).setNone
theorem wipe_off : ∀ {own : List Nat} {i : Nat} {x : Option V} {σ : L2.St}, i ∉ own → L2.wipe (σ.set i x) own = (L2.wipe σ own).set i x
  | [], i, x, σ, h => rfl
  | o :: own, i, x, σ, h => by
    simp only [List.mem_cons, not_or] at h
    show (L2.wipe (σ.set i x) own).set o none = ((L2.wipe σ own).set o none).set i x
    rw [wipe_off h.2, List.set_comm _ _ h.1]
theorem wipe_set : ∀ {own : List Nat} {i : Nat} {x : Option V} {σ : L2.St}, i ∈ own → L2.wipe (σ.set i x) own = L2.wipe σ own
  | [], i, x, σ, h => by simp at h
  | o :: own, i, x, σ, h => by
    show (L2.wipe (σ.set i x) own).set o none = (L2.wipe σ own).set o none
    by_cases hi : i ∈ own
    · rw [wipe_set hi]
    · have e : i = o := by
        rcases List.mem_cons.mp h with e | h
        · exact e
        · exact absurd h hi
      subst e
      rw [wipe_off hi, List.set_set]
theorem gNames_of {K : PySem.W.Frag} {ω : Wd} {H : Hp} {Q : L2.St → Hp → Prop} : ∀ {is : List Nat} {ds : List D} {vs : List V} {ρ : Env} {σ : L2.St}, Loc K ω dp ρ σ H → Reps K ω H ds vs → ds.length = is.length →
    (∀ σ', Loc K ω dp (setAll is ds ρ) σ' H → (∀ own, (∀ i ∈ is, i ∈ own) → L2.wipe σ' own = L2.wipe σ own) → Q σ' H) → gNames is vs σ H Q
  | [], [], vs, ρ, σ, hl, r, _, q => ⟨r, q σ hl fun _ _ => rfl⟩
  | i :: is, d :: ds, vs, ρ, σ, hl, r, e, q => by
    obtain ⟨v, rr, rfl, r1, r2⟩ := r
    refine ⟨v, rr, rfl, ?_⟩
    refine gNames_of (hl.set (OwnR.of r1)) r2 (by simpa using e) fun σ' hl' hw => q σ' hl' fun own ho => ?_
    rw [hw own fun j hj => ho j (List.mem_cons_of_mem _ hj)]
    exact wipe_set (ho i List.mem_cons_self)
  | [], _ :: _, _, _, _, _, _, e, _ => by simp at e
  | _ :: _, [], _, _, _, _, _, e, _ => by simp at e
/-- a target takes a value -/
theorem gT_of {K : PySem.W.Frag} {ω : Wd} {H : Hp} {Q : L2.St → Hp → Prop} {tg : T} {d : D} {v : V} {ρ ρ' : Env} {σ : L2.St} (hl : Loc K ω dp ρ σ H) (r : Rep K ω H d v) (hb : bindT tg d ρ = some ρ')
    (q : ∀ σ', Loc K ω dp ρ' σ' H → (∀ own, (∀ i ∈ (match tg with | .nm i => [i] | .tp is => is), i ∈ own) → L2.wipe σ' own = L2.wipe σ own) → Q σ' H) : gT K tg v σ H Q := by
  cases tg with
  | nm i =>
    simp only [bindT] at hb
    split at hb
    · cases hb
    · cases hb
      exact q _ (hl.set (OwnR.of r)) fun own ho => wipe_set (ho i List.mem_cons_self)
  | tp is =>
    cases d <;> first | (simp [bindT] at hb; done) | skip
    simp only [bindT] at hb
    split at hb
    · rename_i he
      cases hb
      obtain ⟨l1, a1, ws, rfl, s1, r1⟩ := r
      exact ⟨a1, ws, rfl, s1, r1.length.trans he, gNames_of hl r1 he q⟩
    · cases hb
end
end TL

namespace TL
open PySem L2 PyProof.Rows
section
variable {X : Cx} {N : List Str} {G : GT} {k : Nat} {C : Cal} {cls : Nat → Value} {dp : Nat} {sc : Scope} {W : WX} {e : Expr} {es : List Expr} {m n l a b : E} {ms : List E}
theorem lcl_of {df : Bool} {x : Str} (hsc : X.env.scope = sc) (hf : df = true → ∀ y, X.fn y = true) (h : lcl df sc x = true) : L2.Loc X.env.scope x ∧ (X.fn x = true ∨ X.env.scope.names.lookup x = some .local) := by
  unfold lcl at h
  rw [hsc]
  split at h
  · rename_i q; exact ⟨.inl q, .inr q⟩
  · rename_i q; exact ⟨.inr q, .inl (hf h x)⟩
  · cases h
theorem tgs_of {df : Bool} {own is : List Nat} {es : List Expr} (hN : X.N = N) (nd : N.Nodup) (hsc : X.env.scope = sc) (hf : df = true → ∀ y, X.fn y = true) (h : tgOk.tgs df N sc own is es = true) : PGs X es (gNames is) ∧ es.length = is.length ∧ (∀ i ∈ is, i ∈ own) ∧ (assignEach es X.env).findIdx? (·.1) = none ∧ (assignEach es X.env).length = is.length := by
  induction is generalizing es with
  | nil =>
    cases es with
    | nil => exact ⟨pgs_nil, rfl, by simp, rfl, rfl⟩
    | cons e es => simp [tgOk.tgs] at h
  | cons i is ih =>
    cases es with
    | nil => simp [tgOk.tgs] at h
    | cons e es =>
      cases e <;> first | (simp [tgOk.tgs] at h; done) | skip
      rename_i x p
      simp only [tgOk.tgs, Bool.and_eq_true, decide_eq_true_eq] at h
      obtain ⟨⟨⟨h1, h2⟩, h3⟩, h4⟩ := h
      obtain ⟨q1, q2⟩ := lcl_of hsc hf h3
      obtain ⟨A, B, D, F, L⟩ := ih h4
      refine ⟨pgs_cons (pg_name (i := i) (by rw [hN]; exact nd) (by rw [hN]; exact h1) q1 q2) A rfl, by rw [List.length_cons, List.length_cons, B], fun j hj => ?_, ?_, ?_⟩
      · rcases List.mem_cons.mp hj with rfl | hj
        · exact h2
        · exact D j hj
      · show List.findIdx? (·.1) ((false, _) :: assignEach es X.env) = none
        rw [List.findIdx?_cons]
        show Option.map _ _ = none
        rw [F]
        rfl
      · show (_ :: assignEach es X.env).length = _
        rw [List.length_cons, List.length_cons, L]
theorem tg_of {df : Bool} {own : List Nat} {tg : T} {t : Expr} (hN : X.N = N) (nd : N.Nodup) (hsc : X.env.scope = sc) (hf : df = true → ∀ y, X.fn y = true) (hc : X.calm = true) (h : tgOk df N sc own tg t = true) : PG X t (gT X.K tg) := by
  unfold tgOk at h
  split at h
  · rename_i i x p
    simp only [Bool.and_eq_true, decide_eq_true_eq] at h
    obtain ⟨⟨h1, h2⟩, h3⟩ := h
    obtain ⟨q1, q2⟩ := lcl_of hsc hf h3
    exact pg_name (i := i) (by rw [hN]; exact nd) (by rw [hN]; exact h1) q1 q2
  · obtain ⟨A, B, D, F, L⟩ := tgs_of hN nd hsc hf h
    exact pg_tup hc A L F
  · cases h
theorem tg_sub {df : Bool} {own : List Nat} {tg : T} {t : Expr} (h : tgOk df N sc own tg t = true) : ∀ i ∈ (match tg with | .nm i => [i] | .tp is => is), i ∈ own := by
  unfold tgOk at h
  split at h
  · simp only [Bool.and_eq_true, decide_eq_true_eq] at h
    intro j hj
    rw [List.mem_singleton.mp hj]
    exact h.1.2
  · rename_i is es _ _
    have key : ∀ {is : List Nat} {es : List Expr}, tgOk.tgs df N sc own is es = true → ∀ i ∈ is, i ∈ own := by
      intro is
      induction is with
      | nil => simp
      | cons i is ih =>
        intro es h
        cases es with
        | nil => simp [tgOk.tgs] at h
        | cons e es =>
          cases e <;> first | (simp [tgOk.tgs] at h; done) | skip
          simp only [tgOk.tgs, Bool.and_eq_true, decide_eq_true_eq] at h
          intro j hj
          rcases List.mem_cons.mp hj with rfl | hj
          · exact h.1.1.2
          · exact ih h.2 j hj
    exact key h
  · cases h
theorem tg_shape {df : Bool} {own : List Nat} {tg : T} {t : Expr} (h : tgOk df N sc own tg t = true) : ∀ is, tg = .tp is → ∃ es kk p, t = .Tuple es kk p := by
  rintro is rfl
  cases t <;> first | exact ⟨_, _, _, rfl⟩ | (simp [tgOk] at h)
/-- a comprehension's block -/
theorem Cok.blk (c : Cok X G k C cls N sc W) (s : Shared) (H : Hp) (scope : Scope) (Cc : Addr) (cl : List (Str × Addr)) (fp : List Addr) : Cok (X.blk s H scope (compEnvC scope cl Cc X.env) fp) G k C cls N (relS scope sc) (fun _ _ _ _ => False) where
  hN := c.hN
  nd := c.nd
  hsc := by rw [← c.hsc]; rfl
  calm := c.calm
  room := c.room
  tk := fun u s' ⟨_, _, _, _, _, _, _, _, _, _, _, _, _, _, _, _, w⟩ => w
  fns := c.fns
  cst := c.cst
  blt := c.blt

def Wd.put (ω : Wd) (a : Addr) (t : Root × List Str) : Wd := { ω with wr := fun b => if b = a then some t else ω.wr b }
def Wd.free (ω : Wd) (a : Addr) : Wd := { ω with wr := fun b => if b = a then none else ω.wr b }
variable {K : PySem.W.Frag} {ω ω' ω'' : Wd} {H H' H'' : Hp} {D₀ : Addr} {t : Root × List Str} {o : HO} {st : Sto}
theorem Kept.put (h : H D₀ = none) : Kept ω H (ω.put D₀ t) (upd H D₀ o) where
  mu := List.prefix_refl _
  tup := fun a xs e => by rw [upd_ne (ne_of_none e h)]; exact e
  frz := fun a o u e => by rw [upd_ne (ne_of_none e h)]; exact e
  lst := fun a xs e w => by
    refine ⟨by rw [upd_ne (ne_of_none e h)]; exact e, ?_⟩
    show (if a = D₀ then some t else ω.wr a) = none
    rw [if_neg (ne_of_none e h)]
    exact w
  dic := fun a xs e w => by
    refine ⟨by rw [upd_ne (ne_of_none e h)]; exact e, ?_⟩
    show (if a = D₀ then some t else ω.wr a) = none
    rw [if_neg (ne_of_none e h)]
    exact w
theorem Ext.put {d : Nat} (tr : ∀ a, ω.wr a ≠ none → H a ≠ none) (h : H D₀ = none) : Ext d ω H (ω.put D₀ t) (upd H D₀ o) where
  kept := .put h
  fix := fun a k i p e _ => by
    have ne : a ≠ D₀ := fun z => tr a (by rw [e]; simp) (by rw [z]; exact h)
    refine ⟨?_, upd_ne ne⟩
    show (if a = D₀ then some t else ω.wr a) = ω.wr a
    rw [if_neg ne]
theorem StoOk.put (s : StoOk K ω st H) (h : H D₀ = none) : StoOk K (ω.put D₀ t) st (upd H D₀ o) where
  len := s.len
  trk := fun a e => by
    by_cases q : a = D₀
    · rw [q, upd_same]; simp
    · rw [upd_ne q]
      refine s.trk a ?_
      have e' : (if a = D₀ then some t else ω.wr a) ≠ none := e
      rw [if_neg q] at e'
      exact e'
  at_ := fun l d e => (s.at_ l d e).elim
theorem Wd.put_same : (ω.put D₀ t).wr D₀ = some t := by show (if D₀ = D₀ then _ else _) = _; rw [if_pos rfl]
/-- a list that is owned is changed -/
theorem Kept.write {xs : List V} (w : ω.wr D₀ = some t) (h : H D₀ = some (.lst xs)) : Kept ω H ω (upd H D₀ o) where
  mu := List.prefix_refl _
  tup := fun a ys e => by
    have ne : a ≠ D₀ := fun z => by rw [z, h] at e; cases e
    rw [upd_ne ne]; exact e
  frz := fun a o u e => by
    have ne : a ≠ D₀ := fun z => by rw [z, h] at e; cases e
    rw [upd_ne ne]; exact e
  lst := fun a ys e w' => by
    have ne : a ≠ D₀ := fun z => by rw [z, w] at w'; cases w'
    rw [upd_ne ne]; exact ⟨e, w'⟩
  dic := fun a ys e w' => by
    have ne : a ≠ D₀ := fun z => by rw [z, w] at w'; cases w'
    rw [upd_ne ne]; exact ⟨e, w'⟩
theorem StoOk.write (s : StoOk K ω st H) : StoOk K ω st (upd H D₀ o) where
  len := s.len
  trk := fun a e => by
    by_cases q : a = D₀
    · rw [q, upd_same]; simp
    · rw [upd_ne q]
      exact s.trk a e
  at_ := fun l d e => (s.at_ l d e).elim
/-- .. seen from where it was not there yet -/
theorem Ext.writeNew {d : Nat} (tr : ∀ a, ω.wr a ≠ none → H a ≠ none) (x : Ext d ω H ω' H') (h : H D₀ = none) : Ext d ω H ω' (upd H' D₀ o) where
  kept := {
    mu := x.kept.mu
    tup := fun a xs e => by rw [upd_ne (ne_of_none e h)]; exact x.kept.tup a xs e
    frz := fun a o u e => by rw [upd_ne (ne_of_none e h)]; exact x.kept.frz a o u e
    lst := fun a xs e w => by rw [upd_ne (ne_of_none e h)]; exact x.kept.lst a xs e w
    dic := fun a xs e w => by rw [upd_ne (ne_of_none e h)]; exact x.kept.dic a xs e w }
  fix := fun a k i p e hk => by
    have ne : a ≠ D₀ := fun z => tr a (by rw [e]; simp) (by rw [z]; exact h)
    rw [upd_ne ne]
    exact x.fix a k i p e hk
theorem Kept.free : Kept ω H (ω.free D₀) H where
  mu := List.prefix_refl _
  tup := fun a xs e => e
  frz := fun a o u e => e
  lst := fun a xs e w => by
    refine ⟨e, ?_⟩
    show (if a = D₀ then none else ω.wr a) = none
    split
    · rfl
    · exact w
  dic := fun a xs e w => by
    refine ⟨e, ?_⟩
    show (if a = D₀ then none else ω.wr a) = none
    split
    · rfl
    · exact w
theorem StoOk.free (s : StoOk K ω st H) : StoOk K (ω.free D₀) st H where
  len := s.len
  trk := fun a e => by
    refine s.trk a fun z => e ?_
    show (if a = D₀ then none else ω.wr a) = none
    split
    · rfl
    · exact z
  at_ := fun l d e => (s.at_ l d e).elim
theorem Ext.freeNew {d : Nat} (tr : ∀ a, ω.wr a ≠ none → H a ≠ none) (x : Ext d ω H ω' H') (h : H D₀ = none) : Ext d ω H (ω'.free D₀) H' where
  kept := x.kept.trans .free
  fix := fun a k i p e hk => by
    have ne : a ≠ D₀ := fun z => tr a (by rw [e]; simp) (by rw [z]; exact h)
    refine ⟨?_, (x.fix a k i p e hk).2⟩
    show (if a = D₀ then none else ω'.wr a) = _
    rw [if_neg ne]
    exact (x.fix a k i p e hk).1

theorem R.bind_ok {α β : Type} {r : R α} {f : α → Sto → R β} {b : β} {st' : Sto} (h : r.bind f = .ok b st') : ∃ a st1, r = .ok a st1 ∧ f a st1 = .ok b st' := by
  cases r with
  | ok a st1 => exact ⟨a, st1, rfl, h⟩
  | exc c st1 => cases h
  | fail => cases h
theorem lcGo_length {bnd : D → Option Env} {cf ef : Env → Sto → R D} : ∀ {xs : List D} {st st' : Sto} {ds : List D}, lcGo bnd cf ef xs st = .ok ds st' → ds.length ≤ xs.length
  | [], st, st', ds, h => by
    unfold lcGo at h
    cases h
    exact Nat.le_refl _
  | x :: xs, st, st', ds, h => by
    unfold lcGo at h
    cases q : bnd x with
    | none => rw [q] at h; cases h
    | some ρ =>
      rw [q] at h
      obtain ⟨b, st1, e1, h⟩ := R.bind_ok h
      cases b <;> first | (cases h; done) | skip
      rename_i kk
      cases kk with
      | true =>
        obtain ⟨d, st2, e2, h⟩ := R.bind_ok h
        split at h
        · cases h
        · obtain ⟨ds2, st3, e3, h⟩ := R.bind_ok h
          cases h
          exact Nat.succ_le_succ (lcGo_length e3)
      | false => exact Nat.le_succ_of_le (lcGo_length h)
/-- what is made of a list, turn by turn -/
theorem lc_run {J : It} {xs : List D} {tg : T} {elt : E} {cond : List E} {own : List Nat} {σ : L2.St} {ρ : Env} {Q : VK} {stF : Sto} {dsF : List D} {W' : WX}
    (tr : ∀ a, ω.wr a ≠ none → H a ≠ none) (hl : Loc K ω dp ρ σ H) (s : StoOk K ω st H) (F : Feeds K J xs ω H) (sub : ∀ i ∈ (match tg with | .nm i => [i] | .tp is => is), i ∈ own)
    (e : lcGo (fun x => bindT tg x (wipeE ρ own)) (fun ρ st => evAnd1 C cond ρ st) (fun ρ st => ev C elt ρ st) xs st = .ok dsF stF)
    (q : ∀ ω' H', Ext (dp + 1) ω H ω' H' → StoOk K ω' stF H' → ∀ v, Rep K ω' H' (.lst dsF) v → Q v H') :
    ∀ D, H D = none → ∃ Wv : Nat → Nat → Hp → Prop, (∃ m, Wv 0 m (upd H D (.lst []))) ∧ ∀ i m H, Wv i m H →
      (J.stop i H ∧ Q (.ref D) H) ∨ (J.go i H ∧ ∃ Nx : Hp → Prop, (∀ H', Nx H' → ∃ m', m' < m ∧ Wv (i + 1) m' H') ∧ ∀ x H', J.yld i H x H' → gT K tg x (L2.wipe σ own) H' fun σ2 H2 => L2.wipe σ2 own = L2.wipe σ own ∧
        tTf K dp W' cls (fun ρ st => evAnd1 C cond ρ st) σ2 H2 fun b H3 =>
        if b = true then tEf K dp W' cls (fun ρ st => ev C elt ρ st) σ2 H3 fun y H4 => ∃ acc, H4 D = some (.lst acc) ∧ acc.length < sizeLine ∧ Nx (upd H4 D (.lst (acc ++ [y]))) else Nx H3) := by
  intro D hD
  refine ⟨fun i mm H2 => mm = xs.length - i ∧ i ≤ xs.length ∧ ∃ (ω2 : Wd) (st2 : Sto) (accD : List TL.D) (accV : List V) (rest : List TL.D), Ext (dp + 1) ω H ω2 H2 ∧ StoOk K ω2 st2 H2 ∧ ω2.wr D = some (.slot dp 0, [("" : Str)]) ∧ H2 D = some (.lst accV) ∧ Reps K ω2 H2 accD accV ∧
      accD.length ≤ i ∧ lcGo (fun x => bindT tg x (wipeE ρ own)) (fun ρ st => evAnd1 C cond ρ st) (fun ρ st => ev C elt ρ st) (xs.drop i) st2 = .ok rest stF ∧ dsF = accD ++ rest,
    ⟨xs.length, by simp, Nat.zero_le _, ω.put D (.slot dp 0, [("" : Str)]), st, [], [], dsF, .put tr hD, s.put hD, Wd.put_same, upd_same, rfl, Nat.le_refl _, e, rfl⟩, ?_⟩
  rintro i mm H2 ⟨rfl, hi, ω2, st2, accD, accV, rest, x2, s2, w2, h2, r2, l2, e2, ed⟩
  by_cases hlt : i < xs.length
  · rw [List.drop_eq_getElem_cons hlt] at e2
    unfold lcGo at e2
    cases qb : bindT tg xs[i] (wipeE ρ own) with
    | none => rw [qb] at e2; cases e2
    | some ρ2 =>
      rw [qb] at e2
      obtain ⟨b, st3, e3, e2⟩ := R.bind_ok e2
      refine .inr ⟨F.go ω2 H2 x2.kept i hlt, fun H3 => ∃ (ω3 : Wd) (st3 : Sto) (accD : List TL.D) (accV : List V) (rest : List TL.D), Ext (dp + 1) ω H ω3 H3 ∧ StoOk K ω3 st3 H3 ∧ ω3.wr D = some (.slot dp 0, [("" : Str)]) ∧ H3 D = some (.lst accV) ∧ Reps K ω3 H3 accD accV ∧
          accD.length ≤ i + 1 ∧ lcGo (fun x => bindT tg x (wipeE ρ own)) (fun ρ st => evAnd1 C cond ρ st) (fun ρ st => ev C elt ρ st) (xs.drop (i + 1)) st3 = .ok rest stF ∧ dsF = accD ++ rest,
        fun H3 h3 => ⟨xs.length - (i + 1), by omega, rfl, hlt, h3⟩, fun x H3 y => ?_⟩
      obtain ⟨gr, rx⟩ := F.yld ω2 H2 x2.kept i x H3 xs[i] (List.getElem?_eq_getElem hlt) y
      have s3 := s2.grow gr
      have x3 : Ext (dp + 1) ω2 H2 ω2 H3 := .ofGrow s2 gr
      have l3 : Loc K ω2 dp (wipeE ρ own) (L2.wipe σ own) H3 := (hl.ext (x2.trans x3)).wipe own
      refine gT_of l3 rx qb fun σ4 l4 hw => ⟨?_, ?_⟩
      · rw [hw own sub]
        clear hw l3 l4
        induction own with
        | nil => rfl
        | cons o own ih =>
          have key : ∀ (own : List Nat) (σ : L2.St), L2.wipe (L2.wipe σ own) own = L2.wipe σ own := by
            intro own
            induction own with
            | nil => intro σ; rfl
            | cons o own ih =>
              intro σ
              show (L2.wipe ((L2.wipe σ own).set o none) own).set o none = (L2.wipe σ own).set o none
              by_cases ho : o ∈ own
              · rw [wipe_set ho, ih]
              · rw [wipe_off ho, ih, List.set_set]
          exact key _ _
      · refine ⟨ω2, ρ2, st2, l4, s3, ?_⟩
        show Post K dp W' cls σ4 ω2 H3 (evAnd1 C cond ρ2 st2) _
        rw [e3]
        intro ω5 H5 x5 s5
        have hD5 := x5.fix D dp 0 [("" : Str)] w2 (Nat.lt_succ_self _)
        have w5 := hD5.1.trans w2
        have h5 : H5 D = some (.lst accV) := hD5.2.trans (gr _ _ h2)
        have r5 : Reps K ω5 H5 accD accV := (r2.grow gr).ext x5
        have x15 : Ext (dp + 1) ω H ω5 H5 := (x2.trans x3).trans x5
        cases b <;> first | (cases e2; done) | skip
        rename_i kk
        refine ⟨kk, rfl, ?_⟩
        cases kk with
        | false =>
          rw [if_neg Bool.false_ne_true]
          exact ⟨ω5, st3, accD, accV, rest, x15, s5, w5, h5, r5, Nat.le_succ_of_le l2, e2, ed⟩
        | true =>
          rw [if_pos rfl]
          obtain ⟨d, st6, e6, e2⟩ := R.bind_ok e2
          split at e2
          · cases e2
          obtain ⟨ds7, st7, e7, e2⟩ := R.bind_ok e2
          cases e2
          refine ⟨ω5, ρ2, st3, l4.ext x5, s5, ?_⟩
          show Post K dp W' cls σ4 ω5 H5 (ev C elt ρ2 st3) _
          rw [e6]
          intro ω6 H6 x6 s6 y ry
          have hD6 := x6.fix D dp 0 [("" : Str)] w5 (Nat.lt_succ_self _)
          have w6 := hD6.1.trans w5
          have h6 : H6 D = some (.lst accV) := hD6.2.trans h5
          have r6 : Reps K ω6 H6 accD accV := r5.ext x6
          refine ⟨accV, h6, ?_, ?_⟩
          · rw [r6.length]
            have := F.len
            omega
          · refine ⟨ω6, st6, accD ++ [d], accV ++ [y], ds7, (x15.trans x6).writeNew tr hD, s6.write, w6, upd_same, ?_, ?_, e7, ?_⟩
            · have kw : Kept ω6 H6 ω6 (upd H6 D (.lst (accV ++ [y]))) := .write w6 h6
              exact (Reps.kept kw _ _ r6).append ⟨y, [], rfl, Rep.kept kw _ _ ry, rfl⟩
            · rw [List.length_append, List.length_singleton]
              omega
            · rw [ed, List.append_assoc]
              rfl
  · have e1 : i = xs.length := by omega
    subst e1
    rw [List.drop_length] at e2
    unfold lcGo at e2
    cases e2
    rw [List.append_nil] at ed
    subst ed
    refine .inl ⟨F.stop ω2 H2 x2.kept, ?_⟩
    refine q (ω2.free D) H2 (x2.freeNew tr hD) s2.free (.ref D) ⟨Nat.le_trans l2 F.len, D, accV, rfl, h2, ?_, Reps.kept .free _ _ r2⟩
    show (if D = D then none else ω2.wr D) = none
    rw [if_pos rfl]

theorem snd_lc_core {elt : E} {tg : T} {ik : IK} {ie cond : List E} {own : List Nat} {x t it : Expr} {ifs : List Expr} {scope : Scope} {pos : Pos} (he : SndE N G k C cls dp elt) (hi : ∀ m ∈ ie, SndE N G k C cls dp m) (hco : ∀ m ∈ cond, SndE N G k C cls dp m)
    (c : Cok X G k C cls N sc W) (h : chkE N G (.lc elt tg ik ie cond own) sc (.ListComp x [⟨t, it, ifs, 0⟩] scope pos) = true) :
    ∃ (ownN : List (Str × Nat)) (wi : TI) (g : TG) (tt : TT) (te : TE), PI X t it wi ∧ BlkOk X.N X.env.scope scope ownN ∧ (∀ (s : Shared) (H : Hp) (C : Addr) (cl : List (Str × Addr)) (fp : List Addr), PG (X.blk s H scope (compEnvC scope cl C X.env) fp) t g) ∧
      (∀ (s : Shared) (H : Hp) (C : Addr) (cl : List (Str × Addr)) (fp : List Addr), PTs (X.blk s H scope (compEnvC scope cl C X.env) fp) ifs tt) ∧
      (∀ (s : Shared) (H : Hp) (C : Addr) (cl : List (Str × Addr)) (fp : List Addr), PE (X.blk s H scope (compEnvC scope cl C X.env) fp) x te) ∧ (∀ x, foldedSetIterable it X.env x = pure x) ∧
      ∀ σ H Q, tE X.K C dp W cls (.lc elt tg ik ie cond own) σ H Q → tLc wi g tt te (ownN.map (·.2)) σ H Q := by
  unfold chkE at h
  simp only [Bool.and_eq_true, decide_eq_true_eq] at h
  obtain ⟨⟨⟨⟨⟨⟨⟨h1, h2⟩, h3⟩, h4⟩, h5⟩, h6⟩, h7⟩, h8⟩ := h
  cases qi : itArgs G sc ik tg it with
  | none => rw [qi] at h8; cases h8
  | some es =>
    rw [qi] at h8
    have eown : (own.map fun (i : Nat) => ((N[i]?).getD ("" : Str), i)).map (·.2) = own := by
      rw [List.map_map]
      show own.map (fun i => i) = own
      simp
    refine ⟨own.map fun (i : Nat) => ((N[i]?).getD ("" : Str), i), _, gT X.K tg, tTf X.K dp (fun _ _ _ _ => False) cls (fun ρ st => evAnd1 C cond ρ st), tEf X.K dp (fun _ _ _ _ => False) cls (fun ρ st => ev C elt ρ st), snd_it (own := own) hi c qi h8 (tg_shape h2),
      by rw [c.hN, c.hsc]; exact blkOk_by h1, fun s H Cc cl fp => ?_, fun s H Cc cl fp => ?_, fun s H Cc cl fp => (he _ _ _ x (c.blk s H scope Cc cl fp) h6).1, fold_ok h3 X.env, ?_⟩
    · exact tg_of (X := X.blk s H scope (compEnvC scope cl Cc X.env) fp) (c.blk s H scope Cc cl fp).hN c.nd (c.blk s H scope Cc cl fp).hsc (fun z => by cases z) c.calm h2
    · have cb := c.blk s H scope Cc cl fp
      cases ifs with
      | nil =>
        cases cond with
        | cons _ _ => simp at h4
        | nil =>
          refine ⟨fun pins s σ H Q I q => pts_nil.run pins s σ H Q I ?_⟩
          obtain ⟨ω, ρ, st, hl, hs, hp⟩ := q
          unfold evAnd1 at hp
          obtain ⟨b, e, q⟩ := hp ω H .refl hs
          cases e
          exact q
      | cons f fs =>
        cases fs with
        | cons _ _ => simp at h5
        | nil =>
          match cond, h4 with
          | [m], _ =>
            unfold chkEs at h7
            simp only [Bool.and_eq_true] at h7
            obtain ⟨A, B⟩ := hco m List.mem_cons_self _ _ _ f cb h7.1.1
            refine pts_one (pt_imp B ?_)
            rintro σ H Q ⟨ω, ρ, st, hl, hs, hp⟩
            unfold evAnd1 at hp
            exact ⟨ω, ρ, st, hl, hs, hp⟩
    · rintro σ H Q ⟨ω, ρ, st, hl, hs, hp⟩
      unfold ev at hp
      rw [eown]
      refine ⟨ω, ρ, st, hl, hs, (Post.bind hp).mono fun ds st1 ω1 H1 x1 s1 q1 => ?_⟩
      cases qx : items ik ds with
      | none => rw [qx] at q1; exact q1.elim
      | some xs =>
        rw [qx] at q1
        refine ⟨xs, rfl, fun J F => ?_⟩
        cases qr : lcGo (fun x => bindT tg x (wipeE ρ own)) (fun ρ st => evAnd1 C cond ρ st) (fun ρ st => ev C elt ρ st) xs st1 with
        | exc cc st2 => simp only [qr] at q1; exact q1.elim
        | fail => simp only [qr] at q1; exact q1.elim
        | ok dsF stF =>
          simp only [qr] at q1
          exact lc_run s1.trk (hl.ext x1) s1 F (tg_sub h2) qr fun ω' H' x' s' v r => q1 ω' H' x' s' v r
theorem snd_lc {elt : E} {tg : T} {ik : IK} {ie cond : List E} {own : List Nat} (he : SndE N G k C cls dp elt) (hi : ∀ m ∈ ie, SndE N G k C cls dp m) (hco : ∀ m ∈ cond, SndE N G k C cls dp m) : SndE N G k C cls dp (.lc elt tg ik ie cond own) := by
  intro X sc W e c h
  have h' := h
  unfold chkE at h
  split at h
  · obtain ⟨ownN, wi, g, tt, te, A, B, D, E, F, I, J⟩ := snd_lc_core he hi hco c h'
    exact both_of (pe_imp (pe_lc c.calm (by rw [c.hN]; exact c.nd) A B D E F I) J) rfl
  · cases h
end
end TL

namespace TL
open PySem L2 PyProof.Rows
section
variable {X : Cx} {N : List Str} {G : GT} {k : Nat} {C : Cal} {cls : Nat → Value} {dp : Nat} {sc : Scope} {W : WX} {e : Expr} {es : List Expr} {m n l a b : E} {ms : List E}
/-- x in a name's own list -/
def rInOwn (K : PySem.W.Frag) (neg : Bool) : R2 := fun x y H Q => ∃ (ω : Wd) (a : D) (ds : List D) (ad : Addr) (vs : List V) (kk : Bool), Rep K ω H a x ∧ y = .ref ad ∧ H ad = some (.lst vs) ∧ Reps K ω H ds vs ∧ inD a (.mlst ds) = some kk ∧ Q (.bl (if neg then !kk else kk)) H
theorem op_inOwn (hu : X.A.units + 65 < cLine) : OpR X (compareOp .In) (rInOwn X.K false) := by
  refine opr_imp (op_inD hu) ?_
  rintro x y H Q ⟨ω, a, ds, ad, vs, kk, ra, rfl, ha, r, e, q⟩
  replace e : (if (a.shp && (D.lst ds).shp) = true then some (ds.any fun y => y.eqv a) else none) = some kk := e
  split at e
  · rename_i hc
    cases e
    rw [Bool.and_eq_true] at hc
    refine ⟨_, pys ds, Rep.dp a x (.inl hc.1) ra, .lst (SqL.of ha) (Reps.dp ds vs (canLayAll_of hc.2) r), hc.1, hc.2, ?_⟩
    rw [any_pys]
    exact q
  · cases e
theorem op_notInOwn (hu : X.A.units + 65 < cLine) : OpR X (compareOp .NotIn) (rInOwn X.K true) := by
  refine opr_imp (op_notInD hu) ?_
  rintro x y H Q ⟨ω, a, ds, ad, vs, kk, ra, rfl, ha, r, e, q⟩
  replace e : (if (a.shp && (D.lst ds).shp) = true then some (ds.any fun y => y.eqv a) else none) = some kk := e
  split at e
  · rename_i hc
    cases e
    rw [Bool.and_eq_true] at hc
    refine ⟨_, pys ds, Rep.dp a x (.inl hc.1) ra, .lst (SqL.of ha) (Reps.dp ds vs (canLayAll_of hc.2) r), hc.1, hc.2, ?_⟩
    rw [any_pys]
    exact q
  · cases e
theorem snd_inOwn {neg : Bool} {i : Nat} (hm : SndE N G k C cls dp m) : SndE N G k C cls dp (.inOwn neg m i) := by
  intro X sc W e c h
  unfold chkE at h
  split at h
  · rename_i a op x p pos
    simp only [Bool.and_eq_true, decide_eq_true_eq] at h
    obtain ⟨⟨⟨⟨h1, h2⟩, h3⟩, h4⟩, h5⟩ := h
    have nm := nameOk_of h5
    have A := (hm X sc W a c h2).1
    have B : PE X (.Name x p) (tVar i) := pe_var (X := X) (i := i) (by rw [c.hN]; exact h3) (vis_of c.hsc h4) nm.d nm.c
    have u := units_of c
    have ho : OpR X (compareOp op) (rInOwn X.K neg) := by
      cases neg with
      | true => rw [h1]; exact op_notInOwn u
      | false => rw [h1]; exact op_inOwn u
    have key : ∀ σ H Q, tE X.K C dp W cls (.inOwn neg m i) σ H Q → tOp (rInOwn X.K neg) (tE X.K C dp W cls m) (tVar i) σ H Q := by
      rintro σ H Q ⟨ω, ρ, st, hl, hs, hp⟩
      unfold ev at hp
      refine ⟨ω, ρ, st, hl, hs, (Post.bind hp).mono fun d st1 ω1 H1 x1 s1 q1 v r1 => ?_⟩
      split at q1
      · rename_i ds hd
        obtain ⟨w, e1, ad, vs, rfl, h2, w2, r2⟩ := (hl.ext x1).at_ i _ hd
        obtain ⟨d2, e2, q2⟩ := Post.lift q1
        cases q3 : inD d (.mlst ds) with
        | none => rw [q3] at e2; cases e2
        | some kk =>
          rw [q3] at e2
          cases e2
          exact ⟨_, e1, ω1, d, ds, ad, vs, kk, r1, rfl, h2, r2, q3, q2 ω1 H1 .refl s1 _ rfl⟩
      · rename_i ks hd
        obtain ⟨w, e1, r⟩ := (hl.ext x1).at_ i _ hd
        exact r.elim
      · exact q1.elim
    exact ⟨pe_imp (pe_cmpR ho A B (set_ok rfl)) key, pt_imp (pt_cmpR ho A B (set_ok rfl)) fun σ H Q q => tTest_of q key⟩
  · cases h
theorem Post.ext {α : Type} {K : PySem.W.Frag} {σ : L2.St} {ω ω1 : Wd} {H H1 : Hp} {r : R α} {P : α → Sto → Wd → Hp → Prop} (h : Post K dp W cls σ ω H r P) (x : Ext (dp + 1) ω H ω1 H1) : Post K dp W cls σ ω1 H1 r P := by
  cases r with
  | ok a st => exact fun ω' H' x' s => h ω' H' (x.trans x') s
  | exc c st => exact fun ω' H' x' s => h ω' H' (x.trans x') s
  | fail => exact h
/-- the pairs of a display -/
def trsOf (K : PySem.W.Frag) (C : Cal) (dp : Nat) (W : WX) (cls : Nat → Value) : List Str → List E → List (TE × TE)
  | k :: ks, m :: ms => (tC (.str k), tE K C dp W cls m) :: trsOf K C dp W cls ks ms
  | _, _ => []
def kvV : List Str → List V → List (Key × V)
  | k :: ks, v :: vs => (.inr k, v) :: kvV ks vs
  | _, _ => []
theorem pps_of {pos : Pos} (c : Cok X G k C cls N sc W) : ∀ {ks : List Str} {ms : List E} {keys : List (Option Expr)} {values : List Expr}, (∀ m ∈ ms, SndE N G k C cls dp m) → dicKeys ks keys = true → chkEs N G ms sc values = true → ks.length = ms.length → PPs X pos keys values (trsOf X.K C dp W cls ks ms)
  | [], [], keys, values, _, h1, h2, _ => by
    cases keys with
    | cons _ _ => cases h1
    | nil =>
      unfold chkEs at h2
      cases values with
      | cons _ _ => simp at h2
      | nil => exact pps_nil
  | kk :: ks, m :: ms, keys, values, hm, h1, h2, hl => by
    unfold dicKeys at h1
    split at h1
    · cases ‹_ :: _ = []›
    · rename_i k2 ks2 x j p es e1
      cases e1
      simp only [Bool.and_eq_true, decide_eq_true_eq] at h1
      obtain ⟨⟨rfl, h3⟩, h4⟩ := h1
      unfold chkEs at h2
      cases values with
      | nil => cases h2
      | cons v vs =>
        simp only [Bool.and_eq_true] at h2
        exact pps_cons pe_str (hm m List.mem_cons_self X sc W v c h2.1.1).1 (pps_of c (fun m' h => hm m' (List.mem_cons_of_mem _ h)) h4 h2.2 (Nat.succ.inj hl))
    · cases h1
theorem pairs_run {K : PySem.W.Frag} {σ : L2.St} : ∀ {ks : List Str} {ms : List E} {ω : Wd} {ρ : Env} {st : Sto} {H : Hp} {Q : List (V × V) → Hp → Prop}, ks.length = ms.length → Loc K ω dp ρ σ H → StoOk K ω st H →
    Post K dp W cls σ ω H (evs C ms ρ st) (fun ds _ ω' H' => ∀ vs, Reps K ω' H' ds vs → Q ((kvV ks vs).map fun kv => (kV kv.1, kv.2)) H') → tPairs (trsOf K C dp W cls ks ms) σ H Q
  | [], [], ω, ρ, st, H, Q, _, hl, hs, hp => by
    unfold evs at hp
    exact hp ω H .refl hs [] rfl
  | kk :: ks, m :: ms, ω, ρ, st, H, Q, hn, hl, hs, hp => by
    unfold evs at hp
    refine ⟨ω, ρ, st, hl, hs, (Post.bind hp).mono fun d st1 ω1 H1 x1 s1 q1 v r1 => ?_⟩
    refine pairs_run (Nat.succ.inj hn) (hl.ext x1) s1 ((Post.bind q1).mono fun ds st2 ω2 H2 x2 s2 q2 vs r2 => ?_)
    exact q2 ω2 H2 .refl s2 (v :: vs) ⟨v, vs, rfl, r1.ext x2, r2⟩
theorem kvV_len : ∀ {ks : List Str} {vs : List V}, (kvV ks vs).length ≤ ks.length
  | [], _ => Nat.le_refl _
  | _ :: _, [] => Nat.zero_le _
  | _ :: _, _ :: _ => Nat.succ_le_succ kvV_len
theorem kvV_mem : ∀ {ks : List Str} {vs : List V} {kv : Key × V}, kv ∈ kvV ks vs → ∃ k ∈ ks, kv.1 = .inr k
  | k :: ks, v :: vs, kv, h => by
    rcases List.mem_cons.mp h with rfl | h
    · exact ⟨k, List.mem_cons_self, rfl⟩
    · obtain ⟨k', h1, h2⟩ := kvV_mem h
      exact ⟨k', List.mem_cons_of_mem _ h1, h2⟩
theorem merge_new : ∀ {ks : List Str} {vs : List V} {acc : List (Key × V)}, ks.Nodup → (∀ kv ∈ acc, ∀ k ∈ ks, kv.1 ≠ .inr k) → mergeK acc (kvV ks vs) = acc ++ kvV ks vs
  | [], _, acc, _, _ => by simp [kvV, mergeK]
  | _ :: _, [], acc, _, _ => by simp [kvV, mergeK]
  | k :: ks, v :: vs, acc, nd, h => by
    rw [List.nodup_cons] at nd
    have hp : putK acc (.inr k) v = acc ++ [(.inr k, v)] := by
      unfold putK
      rw [if_neg]
      intro e
      obtain ⟨kv, h1, h2⟩ := List.any_eq_true.mp e
      exact h kv h1 k List.mem_cons_self (of_decide_eq_true h2)
    show mergeK (putK acc (.inr k) v) (kvV ks vs) = _
    rw [hp, merge_new nd.2, List.append_assoc]
    · rfl
    · intro kv hk k' hk'
      rcases List.mem_append.mp hk with hk | hk
      · exact h kv hk k' (List.mem_cons_of_mem _ hk')
      · rw [List.mem_singleton.mp hk]
        intro e
        cases e
        exact nd.1 hk'
theorem repk_of {K : PySem.W.Frag} {ω : Wd} {H : Hp} : ∀ {ks : List Str} {ds : List D} {vs : List V}, Reps K ω H ds vs → Repk K ω H (ks.zip ds) (kvV ks vs)
  | [], _, _, _ => by simp [Repk, kvV]
  | _ :: _, [], _, r => by
    cases r
    simp [Repk, kvV]
  | k :: ks, d :: ds, vs, r => by
    obtain ⟨v, r', rfl, h1, h2⟩ := r
    exact ⟨v, kvV ks r', rfl, h1, repk_of h2⟩
theorem Kept.writeD {ω : Wd} {H : Hp} {D₀ : Addr} {t : Root × List Str} {o : HO} {xs : List (Key × V)} (w : ω.wr D₀ = some t) (h : H D₀ = some (.dK xs)) : Kept ω H ω (upd H D₀ o) where
  mu := List.prefix_refl _
  tup := fun a ys e => by
    have ne : a ≠ D₀ := fun z => by rw [z, h] at e; cases e
    rw [upd_ne ne]; exact e
  frz := fun a o u e => by
    have ne : a ≠ D₀ := fun z => by rw [z, h] at e; cases e
    rw [upd_ne ne]; exact e
  lst := fun a ys e w' => by
    have ne : a ≠ D₀ := fun z => by rw [z, w] at w'; cases w'
    rw [upd_ne ne]; exact ⟨e, w'⟩
  dic := fun a ys e w' => by
    have ne : a ≠ D₀ := fun z => by rw [z, w] at w'; cases w'
    rw [upd_ne ne]; exact ⟨e, w'⟩
theorem keys_some : ∀ {ks : List Str} {keys : List (Option Expr)}, dicKeys ks keys = true → keys.all (·.isSome) = true ∧ keys.length = ks.length
  | [], [], _ => ⟨rfl, rfl⟩
  | [], _ :: _, h => by cases h
  | _ :: _, [], h => by cases h
  | k :: ks, none :: es, h => by cases h
  | k :: ks, some e :: es, h => by
    unfold dicKeys at h
    split at h
    · cases ‹_ :: _ = []›
    · rename_i e1 e2
      cases e1
      cases e2
      simp only [Bool.and_eq_true] at h
      obtain ⟨z1, z2⟩ := keys_some h.2
      exact ⟨by rw [List.all_cons, z1]; rfl, by rw [List.length_cons, List.length_cons, z2]⟩
    · cases h
theorem snd_dic {ks : List Str} (hm : ∀ m ∈ ms, SndE N G k C cls dp m) : SndE N G k C cls dp (.dic ks ms) := by
  intro X sc W e c h
  unfold chkE at h
  split at h
  · rename_i keys values pos
    simp only [Bool.and_eq_true, decide_eq_true_eq] at h
    obtain ⟨⟨⟨⟨⟨h1, h2⟩, h3⟩, h4⟩, h5⟩, h6⟩ := h
    obtain ⟨ka, kl⟩ := keys_some h1
    have hv := chkEs_length h2
    have kn : keys ≠ [] := by
      intro e
      rw [e] at kl
      have : ks = [] := List.length_eq_zero_iff.mp kl.symm
      rw [this] at h3
      cases h3
    refine both_of (pe_imp (pe_disp (pps_of c hm h1 h2 h5) ka (by rw [kl, h5]; exact hv.symm) kn (by rw [kl]; exact h4)) ?_) rfl
    rintro σ H Q ⟨ω, ρ, st, hl, hs, hp⟩ p hpn
    unfold ev at hp
    have x0 : Ext (dp + 1) ω H (ω.put p (.slot dp 0, [("" : Str)])) (upd H p (.dK [])) := .put hs.trk hpn
    refine pairs_run h5 (hl.ext x0) (hs.put hpn) ?_
    cases q : evs C ms ρ st with
    | fail => rw [q] at hp; exact hp.elim
    | exc cc st1 =>
      rw [q] at hp
      have hp : Post X.K dp W cls σ ω H (R.exc cc st1 : R D) _ := hp
      exact fun ω' H' x s => hp ω' H' (x0.trans x) s
    | ok ds st1 =>
      rw [q] at hp
      have hp : Post X.K dp W cls σ ω H (R.ok (D.dic (ks.zip ds)) st1) _ := hp
      intro ω1 H1 x1 s1 vs r1
      have fx := x1.fix p dp 0 [("" : Str)] Wd.put_same (Nat.lt_succ_self _)
      have w1 := fx.1.trans Wd.put_same
      have h1p : H1 p = some (.dK []) := fx.2.trans upd_same
      refine ⟨h1p, kvV ks vs, rfl, Nat.le_trans kvV_len h4, ?_⟩
      rw [merge_new h6 (fun _ z => by cases z), List.nil_append]
      have x2 : Ext (dp + 1) ω H ω1 H1 := x0.trans x1
      have x3 : Ext (dp + 1) ω H (ω1.free p) (upd H1 p (.dK (kvV ks vs))) := (x2.writeNew hs.trk hpn).freeNew hs.trk hpn
      have kw : Kept ω1 H1 ω1 (upd H1 p (.dK (kvV ks vs))) := .writeD w1 h1p
      refine hp (ω1.free p) _ x3 s1.write.free (.ref p) ⟨?_, p, kvV ks vs, rfl, upd_same, ?_, repk_of (Reps.kept .free _ _ (Reps.kept kw _ _ r1))⟩
      · rw [List.length_zip]
        have : (15 : Nat) ≤ sizeLine := by decide
        omega
      · show (if p = p then none else ω1.wr p) = none
        rw [if_pos rfl]
  · cases h
theorem valV_repk {K : PySem.W.Frag} {ω : Wd} {H : Hp} {k : Str} : ∀ {kvs : List (Str × D)} {kws : List (Key × V)}, Repk K ω H kvs kws → match kvs.lookup k with
    | none => valV kws (.inr k) = none
    | some d => ∃ v, valV kws (.inr k) = some v ∧ Rep K ω H d v
  | [], kws, r => by
    cases r
    exact valV_nil
  | (k', d) :: kvs, kws, r => by
    obtain ⟨v, r', rfl, h1, h2⟩ := r
    rw [List.lookup_cons]
    by_cases e : k = k'
    · subst e
      rw [beq_self_eq_true]
      exact ⟨v, valV_pos rfl, h1⟩
    · rw [show (k == k') = false from by simpa using e]
      have e2 : valV ((Sum.inr k', v) :: r') (Sum.inr k) = valV r' (.inr k) := valV_neg (p := ((Sum.inr k' : Key), v)) (fun z => e (Sum.inr.inj z).symm)
      rw [e2]
      exact valV_repk h2
theorem snd_dget (hm : SndE N G k C cls dp m) (hn : SndE N G k C cls dp n) (hk : SndE N G k C cls dp l) : SndE N G k C cls dp (.dget m n l) := by
  intro X sc W e c h
  unfold chkE at h
  split at h
  · rename_i a x apos b f pos
    simp only [Bool.and_eq_true, decide_eq_true_eq] at h
    obtain ⟨⟨⟨⟨⟨⟨⟨rfl, h2⟩, h3⟩, h4⟩, h5⟩, h6⟩, h7⟩, h8⟩ := h
    have u := units_of c
    have tr : backTo pos (starEach [b, f] X.env) = [(false, eval b X.env), (false, eval f X.env)] := by
      rw [star_of h6 [f] X.env, star_of h8 [] X.env]; rfl
    have M : M2 X a "get" apos b f pos := ⟨attr_ok h2 _ _, by rw [tr]; rfl, h3, tr⟩
    refine both_of (pe_imp (pe_dget2 (by omega) (hm X sc W _ c h4).1 (hn X sc W _ c h5).1 (hk X sc W _ c h7).1 M) ?_) rfl
    rintro σ H Q ⟨ω, ρ, st, hl, hs, hp⟩
    unfold ev at hp
    refine ⟨ω, ρ, st, hl, hs, (Post.bind hp).mono fun x st1 ω1 H1 x1 s1 q1 v r1 => ?_⟩
    cases x <;> first | exact q1.elim | skip
    rename_i kvs
    obtain ⟨ln, ad, kws, rfl, ha, wa, rk⟩ := r1
    refine ⟨ad, rfl, .inl ⟨kws, .inl ha⟩, ω1, ρ, st1, hl.ext x1, s1, (Post.bind q1).mono fun y st2 ω2 H2 x2 s2 q2 w r2 => ?_⟩
    refine ⟨ω2, ρ, st2, (hl.ext x1).ext x2, s2, (Post.bind q2).mono fun z st3 ω3 H3 x3 s3 q3 w3 r3 => ?_⟩
    obtain ⟨d, e, q4⟩ := Post.lift q3
    cases y <;> first | (cases e; done) | skip
    rename_i key
    have rw2 : w = .str key := r2.1
    subst rw2
    obtain ⟨ha2, wa2⟩ := x2.kept.dic _ _ ha wa
    obtain ⟨ha3, wa3⟩ := x3.kept.dic _ _ ha2 wa2
    have rk3 := Repk.kept x3.kept _ _ (Repk.kept x2.kept _ _ rk)
    have vv := valV_repk (k := key) rk3
    have e : some ((kvs.lookup key).getD z) = some d := e
    cases q : kvs.lookup key with
    | none =>
      rw [q] at vv e
      cases e
      exact ⟨_, DGet.k (k := .inr key) ha3, by rw [show valV kws (.inr key) = none from vv]; exact q4 ω3 H3 .refl s3 _ r3⟩
    | some d' =>
      rw [q] at vv e
      cases e
      obtain ⟨v', e1, rv⟩ := vv
      exact ⟨_, DGet.k (k := .inr key) ha3, by rw [e1]; exact q4 ω3 H3 .refl s3 _ rv⟩
  · cases h
mutual
theorem snd : ∀ m : E, SndE N G k C cls dp m
  | .var i => snd_var i
  | .con d => snd_con d
  | .tup ms => snd_tup (snds ms)
  | .lst ms => snd_lst (snds ms)
  | .dic ks ms => snd_dic (snds ms)
  | .o1 o m => snd_o1 (snd m)
  | .o2 o m n => snd_o2 (snd m) (snd n)
  | .sm o m n => snd_sm (snd m) (snd n)
  | .chain o o' m n l => snd_chain (snd m) (snd n) (snd l)
  | .and ms => snd_andE (snds ms)
  | .or ms => snd_orE (snds ms)
  | .not m => snd_not (snd m)
  | .ife m n l => snd_ife (snd m) (snd n) (snd l)
  | .call f ms => snd_call (snds ms)
  | .sl m lo hi => snd_sl (snd m) (snds lo) (snds hi)
  | .dget m n l => snd_dget (snd m) (snd n) (snd l)
  | .lc elt tg ik ie cond own => snd_lc (snd elt) (snds ie) (snds cond)
  | .inOwn neg m i => snd_inOwn (snd m)
theorem snds : ∀ ms : List E, ∀ m ∈ ms, SndE N G k C cls dp m
  | [], _, h => by cases h
  | m :: ms, m', h => by
    rcases List.mem_cons.mp h with e | h
    · rw [e]; exact snd m
    · exact snds ms m' h
end
end
end TL

namespace TL
open PySem L2 PyProof.Rows

/-- a, b = x, y with plain local names: stored from the right -/
def parOk (sc : Scope) : List Expr → List Expr → Bool
  | [.Name x px, .Name y py], [a, b] => (match sc.kind with | .function => true | _ => false) && lcl false sc x && lcl false sc y && !decide (x = y) && (px.line == py.line) && notStar a && notStar b && !([a, b].all (foldedForSure 8)) && !([a, b].all (constantsAlone 8))
  | _, _ => false
/-- a target that is no plain local name -/
def someCell (sc : Scope) : List Expr → Bool
  | .Name x _ :: es => (match sc.names.lookup x with | some .cell => true | _ => false) || someCell sc es
  | _ => false
def notTuple : Expr → Bool
  | .Tuple .. | .List .. => false
  | _ => true
/-- name = [.. for ..] with a plain local name on one line -/
def swLine (sc : Scope) (x : Str) (p : Pos) (scope : Scope) (pos : Pos) : Bool :=
  (match sc.kind with | .function => true | _ => false) && lcl false sc x && (p.line == pos.line) && !(scope.names.any fun (n, k) => n == x && (k == .local || k == .cell))
mutual
def chkS (N : List Str) (G : GT) : S → Scope → Stmt → Bool
  | .set i m, sc, st => match st with
    | .Assign [.Name x p] v pos => decide (N[i]? = some x) && lcl true sc x && chkE N G m sc v && (match v with
      | .ListComp _ [⟨_, _, _, 0⟩] scope pos' => (match m with | .lc .. => true | _ => false) && (swLine sc x p scope pos' || !lcl false sc x)
      | v => notComp v)
    | _ => false
  | .own i ms, sc, st => match st with
    | .Assign [.Name x p] (.List es _) pos => decide (N[i]? = some x) && lcl true sc x && decide (es.length ≤ 1000) && chkEs N G ms sc es
    | _ => false
  | .ownd _ _, _, _ => false
  | .unpack is m, sc, st => match st with
    | .Assign [.Tuple ts kt pt] v pos => tgOk.tgs true N sc is is ts && notComp v && chkE N G m sc v && (match v with
      | .Tuple vs _ _ => (parOk sc ts vs && (match m with | .tup _ => true | _ => false) && decide (ts.length = 2) && decide (is.Nodup)) || someCell sc ts
      | .List .. => false
      | _ => true)
    | _ => false
  | .app i m, sc, st => match st with
    | .Expr (.Call (.Attribute (.Name x p) y apos) [a] [] cpos) pos => decide (N[i]? = some x) && vis sc x && nameOk x && decide (y = "append") && (apos.endLine == cpos.line) && chkE N G m sc a && notStar a
    | _ => false
  | .ext i m, sc, st => match st with
    | .Expr (.Call (.Attribute (.Name x p) y apos) [a] [] cpos) pos => decide (N[i]? = some x) && vis sc x && nameOk x && decide (y = "extend") && (apos.endLine == cpos.line) && chkE N G m sc a && notStar a
    | _ => false
  | .put _ _, _, _ => false
  | .freeze _, _, _ => false
  | .expr m, sc, st => match st with
    | .Expr v pos => notComp v && chkE N G m sc v
    | _ => false
  | .ifs c a b, sc, st => match st with
    | .If cx ax bx _ => chkE N G c sc cx && chkSs N G a sc ax && chkSs N G b sc bx
    | _ => false
  | .for tg ik ie body, sc, st => match st with
    | .For t it bx [] _ => tgOk true N sc (match tg with | .nm i => [i] | .tp is => is) tg t && notSet it && chkSs N G body sc bx &&
        (match itArgs G sc ik tg it with
          | some es => chkEs N G ie sc es
          | none => false)
    | _ => false
  | .while c body, sc, st => match st with
    | .While cx bx [] _ => chkE N G c sc cx && chkSs N G body sc bx
    | _ => false
  | .ret m, sc, st => match st with
    | .Return (some v) _ => chkE N G m sc v
    | _ => false
  | .retN, sc, st => match st with
    | .Return none _ => true
    | _ => false
  | .raise _, _, _ => false
def chkSs (N : List Str) (G : GT) : List S → Scope → List Stmt → Bool
  | [], _, sts => sts.isEmpty
  | .freeze _ :: ms, sc, sts => chkSs N G ms sc sts
  | m :: ms, sc, sts => match sts with
    | st :: sts => chkS N G m sc st && chkSs N G ms sc sts
    | [] => false
end
/-- a def's own frame -/
structure CokS (X : Cx) (G : GT) (k : Nat) (C : Cal) (cls : Nat → Value) (N : List Str) (sc : Scope) (W : WX) : Prop extends Cok X G k C cls N sc W where
  fn : ∀ x, X.fn x = true
  po : PassesOwn (model X.prog X.w) X.A X.env X.xe

def PostS (K : PySem.W.Frag) (dp : Nat) (W : WX) (cls : Nat → Value) (ω : Wd) (H : Hp) (r : Fl) (D : Ends) : Prop := match r with
  | .nx ρ' st' => ∀ ω' σ' H', Ext dp ω H ω' H' → Loc K ω' dp ρ' σ' H' → StoOk K ω' st' H' → D.nx σ' H'
  | .rt d st' => ∀ ω' v H', Ext dp ω H ω' H' → StoOk K ω' st' H' → Rep K ω' H' d v → D.rt v H'
  | .ex c ρ' st' => ∀ ω' σ' H', Ext dp ω H ω' H' → Loc K ω' dp ρ' σ' H' → StoOk K ω' st' H' → W (cls c) none σ' H'
  | .fail => False
def tS (K : PySem.W.Frag) (dp : Nat) (W : WX) (cls : Nat → Value) (f : Env → Sto → Fl) : TS := fun D σ H => ∃ ω ρ st, Loc K ω dp ρ σ H ∧ StoOk K ω st H ∧ PostS K dp W cls ω H (f ρ st) D
def SndS (N : List Str) (G : GT) (k : Nat) (C : Cal) (cls : Nat → Value) (dp : Nat) (m : S) : Prop := ∀ (X : Cx) (sc : Scope) (W : WX) (st : Stmt), CokS X G k C cls N sc W → chkS N G m sc st = true → PS X st (tS X.K dp W cls fun ρ s => exec C m ρ s)
def SndSs (N : List Str) (G : GT) (k : Nat) (C : Cal) (cls : Nat → Value) (dp : Nat) (ms : List S) : Prop := ∀ (X : Cx) (sc : Scope) (W : WX) (sts : List Stmt), CokS X G k C cls N sc W → chkSs N G ms sc sts = true → PSs X sts (tS X.K dp W cls fun ρ s => execs C ms ρ s)
section
variable {X : Cx} {N : List Str} {G : GT} {k : Nat} {C : Cal} {cls : Nat → Value} {dp : Nat} {sc : Scope} {W : WX} {e : Expr} {es : List Expr} {m n l a b : E} {ms : List E}
variable {K : PySem.W.Frag} {ω ω' ω'' : Wd} {H H' H'' : Hp} {D : Ends} {ρ : Env} {σ : L2.St} {st : Sto}
theorem ps_imp {s : Stmt} {t t' : TS} (h : PS X s t) (i : ∀ D σ H, t' D σ H → t D σ H) : PS X s t' := ⟨fun pins s σ H D I q => h.run pins s σ H D I (i D σ H q)⟩
theorem pss_imp {s : List Stmt} {t t' : TS} (h : PSs X s t) (i : ∀ D σ H, t' D σ H → t D σ H) : PSs X s t' := ⟨fun pins s σ H D I q => h.run pins s σ H D I (i D σ H q)⟩
theorem PostS.at {r : Fl} (h : PostS K dp W cls ω H r D) (x : Ext dp ω H ω' H') : PostS K dp W cls ω' H' r D := by
  cases r with
  | nx ρ' st' => exact fun ω2 σ2 H2 x2 l2 s2 => h ω2 σ2 H2 (x.trans x2) l2 s2
  | rt d st' => exact fun ω2 v H2 x2 s2 r2 => h ω2 v H2 (x.trans x2) s2 r2
  | ex c ρ' st' => exact fun ω2 σ2 H2 x2 l2 s2 => h ω2 σ2 H2 (x.trans x2) l2 s2
  | fail => exact h
theorem PostS.mono {r : Fl} {D' : Ends} (h : PostS K dp W cls ω H r D) (h1 : ∀ σ H, D.nx σ H → D'.nx σ H) (h2 : ∀ v H, D.rt v H → D'.rt v H) : PostS K dp W cls ω H r D' := by
  cases r with
  | nx ρ' st' => exact fun ω2 σ2 H2 x2 l2 s2 => h1 _ _ (h ω2 σ2 H2 x2 l2 s2)
  | rt d st' => exact fun ω2 v H2 x2 s2 r2 => h2 _ _ (h ω2 v H2 x2 s2 r2)
  | ex c ρ' st' => exact h
  | fail => exact h
/-- an expression, then the rest -/
theorem PostS.of {r : R TL.D} {f : TL.D → Sto → Fl} (hl : Loc K ω dp ρ σ H) (h : PostS K dp W cls ω H (Fl.of ρ r f) D) :
    Post K dp W cls σ ω H r fun d st1 ω1 H1 => PostS K dp W cls ω1 H1 (f d st1) D := by
  cases r with
  | ok d st1 => exact fun ω1 H1 x1 s1 => PostS.at h (x1.mono (Nat.le_succ _))
  | exc c st1 => exact fun ω1 H1 x1 s1 => h ω1 σ H1 (x1.mono (Nat.le_succ _)) (hl.ext x1) s1
  | fail => exact h
theorem PostS.ofs {r : R (List TL.D)} {f : List TL.D → Sto → Fl} (hl : Loc K ω dp ρ σ H) (h : PostS K dp W cls ω H (Fl.ofs ρ r f) D) :
    Post K dp W cls σ ω H r fun d st1 ω1 H1 => PostS K dp W cls ω1 H1 (f d st1) D := by
  cases r with
  | ok d st1 => exact fun ω1 H1 x1 s1 => PostS.at h (x1.mono (Nat.le_succ _))
  | exc c st1 => exact fun ω1 H1 x1 s1 => h ω1 σ H1 (x1.mono (Nat.le_succ _)) (hl.ext x1) s1
  | fail => exact h
/-- one statement, then the rest -/
theorem PostS.seq {r : Fl} {f : Env → Sto → Fl} (h : PostS K dp W cls ω H (r.seq f) D) : PostS K dp W cls ω H r { D with nx := fun σ H => tS K dp W cls f D σ H } := by
  cases r with
  | nx ρ' st' => exact fun ω2 σ2 H2 x2 l2 s2 => ⟨ω2, ρ', st', l2, s2, PostS.at h x2⟩
  | rt d st' => exact h
  | ex c ρ' st' => exact h
  | fail => exact h

theorem snd_ret : SndS N G k C cls dp (.ret m) := by
  intro X sc W st c h
  unfold chkS at h
  split at h
  · refine ps_imp (ps_ret (snd (dp := dp) m X sc W _ c.toCok h).1) ?_
    rintro D σ H ⟨ω, ρ, st, hl, hs, hp⟩
    unfold exec at hp
    refine ⟨ω, ρ, st, hl, hs, (PostS.of hl hp).mono fun d st1 ω1 H1 x1 s1 q1 v r1 => ?_⟩
    split at q1
    · exact q1.elim
    · exact q1 ω1 v H1 .refl s1 r1
  · cases h
theorem snd_retN : SndS N G k C cls dp .retN := by
  intro X sc W st c h
  unfold chkS at h
  split at h
  · refine ps_imp ps_retN ?_
    rintro D σ H ⟨ω, ρ, st, hl, hs, hp⟩
    unfold exec at hp
    exact hp ω _ H .refl hs rfl
  · cases h
theorem snd_expr : SndS N G k C cls dp (.expr m) := by
  intro X sc W st c h
  unfold chkS at h
  split at h
  · simp only [Bool.and_eq_true] at h
    refine ps_imp (ps_expr (snd (dp := dp) m X sc W _ c.toCok h.2).1 (swap_ok h.1 _ _ _)) ?_
    rintro D σ H ⟨ω, ρ, st, hl, hs, hp⟩
    unfold exec at hp
    refine ⟨ω, ρ, st, hl, hs, (PostS.of hl hp).mono fun d st1 ω1 H1 x1 s1 q1 v r1 => ?_⟩
    exact q1 ω1 σ H1 .refl (hl.ext x1) s1
  · cases h
theorem set_post {σ : L2.St} {i : Nat} (h : tS K dp W cls (fun ρ s => exec C (.set i m) ρ s) D σ H) : tAsg (tE K C dp W cls m) (gName i) D σ H := by
  obtain ⟨ω, ρ, st, hl, hs, hp⟩ := h
  unfold exec at hp
  refine ⟨ω, ρ, st, hl, hs, (PostS.of hl hp).mono fun d st1 ω1 H1 x1 s1 q1 v r1 => ?_⟩
  split at q1
  · exact q1.elim
  · exact q1 ω1 _ H1 .refl ((hl.ext x1).set (OwnR.of r1)) s1
theorem sw_false {x : Str} {p : Pos} {elt : Expr} {gs : List Comprehension} {scope : Scope} {pos : Pos} {ln : Nat} (hsc : X.env.scope = sc) (h : lcl false sc x = false) : swapsWith (.ListComp elt gs scope pos) (some (.Name x p)) ln X.env = pure false := by
  have q : (X.env.kindOf x == some .local) = false := by
    unfold Env.kindOf
    rw [hsc]
    unfold lcl at h
    revert h
    cases sc.names.lookup x with
    | none => intro _; rfl
    | some q => cases q <;> first | (intro h; cases h; done) | (intro _; rfl)
  unfold swapsWith
  show (pure _ : Sem Bool) = _
  simp only [q, Bool.and_false, Bool.false_and]
theorem snd_set {i : Nat} : SndS N G k C cls dp (.set i m) := by
  intro X sc W st c h
  unfold chkS at h
  split at h
  · rename_i x p v pos
    simp only [Bool.and_eq_true, decide_eq_true_eq] at h
    obtain ⟨⟨⟨h1, h2⟩, h3⟩, h4⟩ := h
    obtain ⟨q1, q2⟩ := lcl_of (X := X) c.hsc (fun _ => c.fn) h2
    have hN : X.N.Nodup := by rw [c.hN]; exact c.nd
    have hi : X.N[i]? = some x := by rw [c.hN]; exact h1
    split at h4
    · rename_i elt t it ifs scope pos'
      simp only [Bool.and_eq_true, Bool.or_eq_true, Bool.not_eq_true'] at h4
      obtain ⟨h5, h6⟩ := h4
      rcases h6 with h6 | h6
      · cases m <;> first | (cases h5; done) | skip
        rename_i elt' tg ik ie cond own
        obtain ⟨ownN, wi, g, tt, te, A, B, D, E, F, I, J⟩ := snd_lc_core (dp := dp) (snd elt') (snds ie) (snds cond) c.toCok h3
        unfold swLine at h6
        simp only [Bool.and_eq_true, Bool.not_eq_true'] at h6
        obtain ⟨⟨⟨k1, k2⟩, k3⟩, k4⟩ := h6
        have hl : X.env.scope.names.lookup x = some .local := by
          rw [c.hsc]
          unfold lcl at k2
          revert k2
          cases sc.names.lookup x with
          | none => intro h; cases h
          | some q => cases q <;> first | (intro _; rfl) | (intro h; cases h)
        have hk : X.env.scope.kind = .function := by
          rw [c.hsc]
          revert k1
          cases sc.kind <;> first | (intro _; rfl) | (intro h; cases h)
        refine ps_imp (ps_setLc (i := i) c.calm hN hi hl (sw_true hk hl k3 k4) A B D E F I) ?_
        rintro D σ H q
        exact J σ H _ (set_post q)
      · exact ps_imp (ps_set (i := i) hN hi q1 (snd (dp := dp) m X sc W _ c.toCok h3).1 (sw_false c.hsc h6) q2) fun D σ H q => set_post q
    · exact ps_imp (ps_set (i := i) hN hi q1 (snd (dp := dp) m X sc W _ c.toCok h3).1 (swap_ok h4 _ _ _) q2) fun D σ H q => set_post q
  · cases h
theorem snd_own {i : Nat} : SndS N G k C cls dp (.own i ms) := by
  intro X sc W st c h
  unfold chkS at h
  split at h
  · rename_i x p es p2 pos
    simp only [Bool.and_eq_true, decide_eq_true_eq] at h
    obtain ⟨⟨⟨h1, h2⟩, h3⟩, h4⟩ := h
    obtain ⟨q1, q2⟩ := lcl_of (X := X) c.hsc (fun _ => c.fn) h2
    have hN : X.N.Nodup := by rw [c.hN]; exact c.nd
    have hi : X.N[i]? = some x := by rw [c.hN]; exact h1
    obtain ⟨A, B⟩ := snd_es (dp := dp) (snds ms) X sc W es c.toCok h4
    have ln := chkEs_length h4
    refine ps_imp (ps_set (i := i) hN hi q1 (pe_lst A) (swap_ok rfl _ _ _) q2) ?_
    rintro D σ H ⟨ω, ρ, st, hl, hs, hp⟩
    unfold exec at hp
    refine ⟨ω, ρ, st, hl, hs, (PostS.ofs hl hp).len.mono fun ds st1 ω1 H1 x1 s1 ⟨l1, q1⟩ vs r1 => ⟨?_, fun a ha => ?_⟩⟩
    · rw [r1.length, l1, ← ln]
      exact le_line h3
    · have xp : Ext (dp + 1) ω1 H1 (ω1.put a (.slot dp i, [])) (upd H1 a (.lst vs)) := .put s1.trk ha
      refine q1 (ω1.put a (.slot dp i, [])) _ _ (xp.mono (Nat.le_succ _)) (((hl.ext x1).ext xp).set ?_) (s1.put ha)
      exact ⟨a, vs, rfl, upd_same, Wd.put_same, r1.ext xp⟩
  · cases h

end
open AutoSeq1 in
theorem extend_list_tup (l : Addr) (items : Array Value) (n : Nat) (b : Addr) (items2 : Array Value) (n2 : Nat) (dd2 : Option Addr) (sl2 : Array (Option Value)) (hs0 : ¬(!items.isEmpty && Builtin.List.listTooLong (items.size + items2.size)) = true) (hs1 : items.size ≤ sizeLine) (hs2 : items.size + items2.size ≤ sizeLine + 1) :
    Meets (Builtin.«list.extend» ⟨[.ref l, .ref b], []⟩) (fun _ R s => s.heap.get? l = some { cls := .type "list", dict := none, data := .seq items n, slots := #[] } ∧ s.heap.get? b = some { cls := .type "tuple", dict := dd2, data := .seq items2 n2, slots := sl2 } ∧ R (.ok (.ret Value.none)) { s with heap := s.heap.update l (Obj.mapSeq fun x => x ++ items2), toks := s.toks }) :=
  .of_wp fun prog w A R s h => by
    obtain ⟨hp, g, d, tk, os⟩ := s; obtain ⟨hl, hb, h⟩ := h; have f1 := idx_int; have f2 := AutoSeq1.sub_tuple_tuple; have f3 := AutoSeq1.sub_list_list; have f4 := AutoSeq1.sub_tuple_list; have f5 := AutoSeq1.sub_list_tuple;
    have hz' : (items ++ items2).size ≤ sizeLine + 1 := by rw [Array.size_append]; exact hs2
    wp_walk using (wpAny_updateSeq hl rfl (hz := hs1) (_hz' := hz')), wpAny_loadPart' hl, wpAny_loadPart' hb; exact ⟨_, rfl, h⟩
section
variable {X : Cx} {N : List Str} {G : GT} {k : Nat} {C : Cal} {cls : Nat → Value} {dp : Nat} {sc : Scope} {W : WX} {e : Expr} {es : List Expr} {m n l a b : E} {ms : List E}
variable {K : PySem.W.Frag} {ω ω' ω'' : Wd} {H H' H'' : Hp} {D : Ends} {ρ : Env} {σ : L2.St} {st : Sto}
theorem Ext.write {d i : Nat} {p : List Str} {a : Addr} {o : HO} {xs : List V} (w : ω.wr a = some (.slot d i, p)) (h : H a = some (.lst xs)) : Ext d ω H ω (upd H a o) where
  kept := .write w h
  fix := fun b k j q e hk => by
    have ne : b ≠ a := fun z => by
      rw [z, w] at e
      cases e
      exact absurd hk (Nat.lt_irrefl _)
    exact ⟨rfl, upd_ne ne⟩
theorem Loc.write {i : Nat} {a : Addr} {vs xs : List V} {ds : List TL.D} (hl : Loc K ω dp ρ σ H) (hs : σ[i]? = some (some (.ref a))) (w : ω.wr a = some (.slot dp i, [])) (h : H a = some (.lst xs)) (r : Reps K ω H ds vs) :
    Loc K ω dp (ρ.set i (some (.mlst ds))) σ (upd H a (.lst vs)) :=
  ⟨by rw [List.length_set]; exact hl.len, fun j d e => by
    have kw : Kept ω H ω (upd H a (.lst vs)) := .write w h
    by_cases hj : j = i
    · subst hj
      by_cases hlt : j < ρ.length
      · rw [List.getElem?_set_self hlt] at e
        cases e
        exact ⟨_, hs, a, vs, rfl, upd_same, w, Reps.kept kw _ _ r⟩
      · rw [List.getElem?_eq_none (by rw [List.length_set]; omega)] at e
        cases e
    · rw [List.getElem?_set_ne (Ne.symm hj)] at e
      obtain ⟨v', e', r'⟩ := hl.at_ j d e
      refine ⟨v', e', ?_⟩
      cases d with
      | mlst ds' =>
        obtain ⟨a', vs', e1, h1, w1, r1⟩ := r'
        have ne : a' ≠ a := fun z => by
          rw [z, w] at w1
          cases w1
          exact hj rfl
        exact ⟨a', vs', e1, by rw [upd_ne ne]; exact h1, w1, Reps.kept kw _ _ r1⟩
      | _ => first | exact Rep.kept kw _ _ r' | exact r'.elim⟩
theorem few_of {a : Expr} {cpos : Pos} (h : notStar a = true) : ((backTo cpos (starEach [a] X.env)).all (fun x => !x.1) && (backToKw cpos (keywordEach [] X.env)).all (fun x => x.1.isSome)
      && decide (([a] : List Expr).length + ([] : List Keyword).length + (if ([] : List Keyword).isEmpty then 0 else 1) < 30)) = true := by
  rw [star_of h [] X.env]; rfl
theorem snd_app {i : Nat} : SndS N G k C cls dp (.app i m) := by
  intro X sc W st c h
  unfold chkS at h
  split at h
  · rename_i x p y apos a cpos pos
    simp only [Bool.and_eq_true, decide_eq_true_eq] at h
    obtain ⟨⟨⟨⟨⟨⟨h1, h2⟩, h3⟩, rfl⟩, h5⟩, h6⟩, h7⟩ := h
    have nm := nameOk_of h3
    have B : PE X (.Name x p) (tVar i) := pe_var (X := X) (i := i) (by rw [c.hN]; exact h1) (vis_of c.hsc h2) nm.d nm.c
    have P : PA X [a] (tCons (tE X.K C dp W cls m) tNil) := pa_cons (snd (dp := dp) m X sc W _ c.toCok h6).1 pa_nil (star_of h7 [] X.env)
    refine ps_imp (ps_expr (pe_bm PySem.F.plainAttrs_list PySem.F.slot_list_append PySem.F.type_list_append mt_append B P (attr_ok rfl _ _) (few_of h7) h5 (star_of h7 [] X.env) rfl) (swap_ok rfl _ _ _)) ?_
    rintro D σ H ⟨ω, ρ, st, hl, hs, hp⟩
    unfold exec at hp
    dsimp only at hp
    split at hp
    · rename_i ds hd
      obtain ⟨v, e1, ad, vs, rfl, h2, w2, r2⟩ := hl.at_ i _ hd
      refine ⟨_, e1, .inl ⟨rfl, _, SqL.of h2⟩, ω, ρ, st, hl, hs, (PostS.of hl hp).mono fun d st1 ω1 H1 x1 s1 q1 w r1 => ?_⟩
      obtain ⟨f1, f2⟩ := x1.fix ad dp i [] w2 (Nat.lt_succ_self _)
      have h3 : H1 ad = some (.lst vs) := f2.trans h2
      have w3 := f1.trans w2
      have r3 := r2.ext x1
      split at q1
      · exact q1.elim
      · split at q1
        · rename_i hlen
          refine ⟨ad, vs, w, rfl, rfl, h3, by rw [r3.length]; exact hlen, ?_⟩
          exact q1 ω1 σ _ (.write w3 h3) ((hl.ext x1).write e1 w3 h3 (r3.append ⟨w, [], rfl, r1, rfl⟩)) s1.write
        · exact q1.elim
    · exact hp.elim
  · cases h
theorem mt_extendT : MtR X "list.extend" (fun x vs H Q => ∃ l b xs zs, x = .ref l ∧ vs = [.ref b] ∧ H l = some (.lst xs) ∧ SqT X.K H b zs ∧ xs.length + zs.length ≤ sizeLine ∧ Q .non (upd H l (.lst (xs ++ zs)))) := by
  intro pins s σ H x vs v us Q I rx rv h
  obtain ⟨l, b, xs, zs, rfl, rfl, hH, hB, hz, q⟩ := h
  cases rx
  obtain ⟨u, rfl, ru⟩ := rv.one
  cases ru
  obtain ⟨z, its, n, r, hl, e⟩ := I.lstM hH
  obtain ⟨its2, r2, ⟨⟨cls2, dd2, dt2, sl2⟩, e2, c2, n2, d2⟩, hl2⟩ := I.tuple hB
  simp only at c2 d2
  subst c2 d2
  have le2 := r2.length
  have hsz : its.toArray.size + its2.toArray.size ≤ sizeLine := by rw [List.size_toArray, List.size_toArray]; omega
  have hlong : ¬ (!its.toArray.isEmpty && Builtin.List.listTooLong (its.toArray.size + its2.toArray.size)) = true := by
    rw [L2.notLongL hsz, Bool.and_false]
    exact Bool.false_ne_true
  refine call_meets F.slot_list_extend ⟨_, e, rfl⟩ F.entry_list_extend (F.args_list_extend_2 _ _)
    (extend_list_tup l its.toArray n b its2.toArray n2 dd2 sl2 hlong (by rw [List.size_toArray]; omega) (by omega)) ⟨e, e2, ?_⟩
  refine ⟨.non, _, I.lset (its' := its ++ its2) hH e (by simp) (r.append r2) ?_, rfl, q⟩
  rw [List.length_append]
  omega
theorem snd_ext {i : Nat} : SndS N G k C cls dp (.ext i m) := by
  intro X sc W st c h
  unfold chkS at h
  split at h
  · rename_i x p y apos a cpos pos
    simp only [Bool.and_eq_true, decide_eq_true_eq] at h
    obtain ⟨⟨⟨⟨⟨⟨h1, h2⟩, h3⟩, rfl⟩, h5⟩, h6⟩, h7⟩ := h
    have nm := nameOk_of h3
    have B : PE X (.Name x p) (tVar i) := pe_var (X := X) (i := i) (by rw [c.hN]; exact h1) (vis_of c.hsc h2) nm.d nm.c
    have P : PA X [a] (tCons (tE X.K C dp W cls m) tNil) := pa_cons (snd (dp := dp) m X sc W _ c.toCok h6).1 pa_nil (star_of h7 [] X.env)
    refine ps_imp (ps_expr (pe_bm PySem.F.plainAttrs_list PySem.F.slot_list_extend PySem.F.type_list_extend (MtR.or mt_extend mt_extendT) B P (attr_ok rfl _ _) (few_of h7) h5 (star_of h7 [] X.env) rfl) (swap_ok rfl _ _ _)) ?_
    rintro D σ H ⟨ω, ρ, st, hl, hs, hp⟩
    unfold exec at hp
    dsimp only at hp
    split at hp
    · rename_i ds hd
      obtain ⟨v, e1, ad, vs, rfl, h2, w2, r2⟩ := hl.at_ i _ hd
      refine ⟨_, e1, .inl ⟨rfl, _, SqL.of h2⟩, ω, ρ, st, hl, hs, (PostS.of hl hp).mono fun d st1 ω1 H1 x1 s1 q1 w r1 => ?_⟩
      obtain ⟨f1, f2⟩ := x1.fix ad dp i [] w2 (Nat.lt_succ_self _)
      have h3 : H1 ad = some (.lst vs) := f2.trans h2
      have w3 := f1.trans w2
      have r3 := r2.ext x1
      split at q1
      · split at q1
        · rename_i hlen
          obtain ⟨_, a2, ws, rfl, h4, w4, r4⟩ := r1
          refine .inl ⟨ad, a2, vs, ws, rfl, rfl, h3, h4, by rw [r3.length, r4.length]; exact hlen, ?_⟩
          exact q1 ω1 σ _ (.write w3 h3) ((hl.ext x1).write e1 w3 h3 (r3.append r4)) s1.write
        · exact q1.elim
      · split at q1
        · rename_i hlen
          obtain ⟨_, a2, ws, rfl, h4, r4⟩ := r1
          refine .inr ⟨ad, a2, vs, ws, rfl, rfl, h3, h4, by rw [r3.length, r4.length]; exact hlen, ?_⟩
          exact q1 ω1 σ _ (.write w3 h3) ((hl.ext x1).write e1 w3 h3 (r3.append r4)) s1.write
        · exact q1.elim
      · exact q1.elim
    · exact hp.elim
  · cases h
end
end TL

namespace TL
open PySem L2 PyProof.Rows
section
variable {X : Cx} {N : List Str} {G : GT} {k : Nat} {C : Cal} {cls : Nat → Value} {dp : Nat} {sc : Scope} {W : WX} {e : Expr} {es : List Expr} {m n l a b : E} {ms : List E}
variable {K : PySem.W.Frag} {ω ω' ω'' : Wd} {H H' H'' : Hp} {D : Ends} {ρ : Env} {σ : L2.St} {st : Sto}
theorem lcl_local {x : Str} (hsc : X.env.scope = sc) (h : lcl false sc x = true) : X.env.kindOf x = some .local := by
  unfold Env.kindOf
  rw [hsc]
  unfold lcl at h
  revert h
  cases sc.names.lookup x with
  | none => intro h; cases h
  | some q => cases q <;> first | (intro _; rfl) | (intro h; cases h)
theorem par_of {ts vs : List Expr} {kt k2 : Nat} {pt p2 : Pos} (hsc : X.env.scope = sc) (h : parOk sc ts vs = true) : ∃ x px y py a b, ts = [.Name x px, .Name y py] ∧ vs = [a, b] ∧ X.env.scope.names.lookup x = some .local ∧ X.env.scope.names.lookup y = some .local ∧
    swappedStores [.Tuple ts kt pt] (.Tuple vs k2 p2) X.env = pure (some [x, y]) ∧ x ≠ y := by
  unfold parOk at h
  split at h
  · rename_i x px y py a b
    simp only [Bool.and_eq_true, Bool.not_eq_true', decide_eq_false_iff_not] at h
    obtain ⟨⟨⟨⟨⟨⟨⟨⟨h1, h2⟩, h3⟩, h4⟩, h5⟩, h6⟩, h7⟩, h8⟩, h9⟩ := h
    have k1 := lcl_local hsc h2
    have k2' := lcl_local hsc h3
    have hk : X.env.scope.kind = .function := by
      rw [hsc]
      revert h1
      cases sc.kind <;> first | (intro _; rfl) | (intro h; cases h)
    have hb : X.env.blockKind = .function := by unfold Env.blockKind; rw [hk]; rfl
    have e5 : px.line = py.line := by simpa using h5
    refine ⟨x, px, y, py, a, b, rfl, rfl, k1, k2', ?_, h4⟩
    unfold swappedStores
    have ha : ([a, b].any fun | .Starred .. => true | _ => false) = false := by
      rw [List.any_cons, List.any_cons, List.any_nil]
      cases a <;> cases b <;> first | rfl | (simp [notStar] at h6; done) | (simp [notStar] at h7; done)
    have hne : ¬ y = x := fun z => h4 z.symm
    have q1 : (y == x) = false := by simpa using hne
    have ed : ([x, y] : List Str).eraseDups = [x, y] := by
      simp [List.eraseDups, List.eraseDupsBy, List.eraseDupsBy.loop, q1]
    have fm : (([.Name x px, .Name y py] : List Expr).filterMap fun
        | .Name id pos => if X.env.kindOf id == some .local && pos.line == ((([.Name x px, .Name y py] : List Expr).head?.map (·.pos.line)).getD 0) then some id else none
        | _ => none) = [x, y] := by
      simp [k1, k2', e5, Expr.pos]
    have hb' : (X.env.blockKind != ScopeKind.function) = false := by rw [hb]; rfl
    have key : ∀ names : List Str, names = [x, y] → ¬ ((names.length != 2 || names.eraseDups.length != names.length) = true) := by
      rintro _ rfl
      rw [ed]
      simp
    first | unfold swappedStores | skip
    refine (if_neg ?_).trans ((if_neg ?_).trans ((if_neg ?_).trans ((if_neg ?_).trans ((if_neg ?_).trans ?_))))
    · rw [hb']
      simp
    · rw [Bool.not_eq_true]
      exact ha
    · exact key _ fm
    · rw [h8]
      simp
    · rw [h9]
      simp
    · exact congrArg (fun z => (pure (some z) : Sem (Option (List Str)))) fm
  · cases h
theorem cell_none {ts vs : List Expr} {kt k2 : Nat} {pt p2 : Pos} (hsc : X.env.scope = sc) (h : someCell sc ts = true) : swappedStores [.Tuple ts kt pt] (.Tuple vs k2 p2) X.env = pure none := by
  have key : ∀ (ts : List Expr) (ln : Nat), someCell sc ts = true → ((ts.filterMap fun
        | .Name id pos => if X.env.kindOf id == some .local && pos.line == ln then some id else none
        | _ => none).length != ts.length) = true := by
    intro ts ln h
    have le : ∀ ts : List Expr, (ts.filterMap fun
        | .Name id pos => if X.env.kindOf id == some .local && pos.line == ln then some id else none
        | _ => none).length ≤ ts.length := fun ts => List.length_filterMap_le _ _
    have lt : ∀ ts : List Expr, someCell sc ts = true → (ts.filterMap fun
        | .Name id pos => if X.env.kindOf id == some .local && pos.line == ln then some id else none
        | _ => none).length < ts.length := by
      intro ts
      induction ts with
      | nil => intro h; simp [someCell] at h
      | cons t ts ih =>
        intro h
        cases t <;> first | (simp [someCell] at h; done) | skip
        rename_i x p
        simp only [someCell, Bool.or_eq_true] at h
        rw [List.length_cons]
        by_cases hx : (X.env.kindOf x == some .local && p.line == ln) = true
        · rcases h with h | h
          · exfalso
            simp only [Bool.and_eq_true, beq_iff_eq] at hx
            have q := hx.1
            unfold Env.kindOf at q
            rw [hsc] at q
            rw [q] at h
            cases h
          · rw [List.filterMap_cons]
            simp only [hx, if_true, List.length_cons]
            exact Nat.succ_lt_succ (ih h)
        · rw [List.filterMap_cons]
          simp only [hx, if_false]
          exact Nat.lt_succ_of_le (le ts)
    have := lt ts h
    rw [bne_iff_ne]
    omega
  have q := key ts ((ts.head?.map (·.pos.line)).getD 0) h
  first | unfold swappedStores | skip
  split
  · rename_i heq
    cases heq
    split
    · rfl
    · split
      · rfl
      · refine (if_pos ?_).trans rfl
        rw [Bool.or_eq_true]
        exact .inl q
  · rename_i hno
    exact (hno ts vs rfl).elim
theorem swappedE {tg e : Expr} (h : notTuple e = true) (env : PySem.Env) : swappedStores [tg] e env = pure none := by
  unfold swappedStores
  split
  · rename_i heq
    revert heq
    cases e <;> cases tg <;> first | (intro h; cases h; done) | (simp [notTuple] at h)
  · rfl
theorem swapSole {t v : Expr} {l : Nat} {env : PySem.Env} (h : swapsWith v (some t) l env = pure false) : swapsWithSole [t] v l env = pure false := by
  unfold swapsWithSole
  exact h
theorem setAll_two {ρ : Env} {i j : Nat} {d e : TL.D} : setAll [i, j] [d, e] ρ = (ρ.set i (some d)).set j (some e) := rfl
theorem snd_unpack {is : List Nat} : SndS N G k C cls dp (.unpack is m) := by
  intro X sc W st c h
  unfold chkS at h
  split at h
  · rename_i ts kt pt v pos
    simp only [Bool.and_eq_true] at h
    obtain ⟨⟨⟨h1, h2⟩, h3⟩, h4⟩ := h
    have hN : X.N.Nodup := by rw [c.hN]; exact c.nd
    obtain ⟨A, B, D, F, L⟩ := tgs_of (X := X) c.hN c.nd c.hsc (fun _ => c.fn) h1
    have E := (snd (dp := dp) m X sc W v c.toCok h3).1
    have gen : swappedStores [.Tuple ts kt pt] v X.env = pure none → PS X (.Assign [.Tuple ts kt pt] v pos) (tS X.K dp W cls fun ρ s => exec C (.unpack is m) ρ s) := by
      intro hw
      refine ps_imp (ps_asg E (pg_tup c.calm A L F) (swapSole (swap_ok h2 _ _ _)) hw rfl) ?_
      rintro D σ H ⟨ω, ρ, st, hl, hs, hp⟩
      unfold exec at hp
      refine ⟨ω, ρ, st, hl, hs, (PostS.of hl hp).mono fun d st1 ω1 H1 x1 s1 q1 v r1 => ?_⟩
      split at q1
      · rename_i ρ1 hb
        exact gT_of (tg := .tp is) (hl.ext x1) r1 hb fun σ' hl' _ => q1 ω1 σ' H1 .refl hl' s1
      · exact q1.elim
    split at h4
    · rename_i vs k2 p2
      simp only [Bool.or_eq_true, Bool.and_eq_true, decide_eq_true_eq] at h4
      rcases h4 with ⟨⟨⟨h5, h6⟩, h7⟩, h8⟩ | h5
      · obtain ⟨x, px, y, py, a, b, rfl, rfl, l1, l2, hw, ne⟩ := par_of (kt := kt) (k2 := k2) (pt := pt) (p2 := p2) c.hsc h5
        cases m <;> first | (cases h6; done) | skip
        rename_i ms
        match is, B with
        | [i, j], _ =>
          simp only [tgOk.tgs, Bool.and_eq_true, decide_eq_true_eq] at h1
          obtain ⟨⟨⟨e1, _⟩, _⟩, ⟨⟨⟨e2, _⟩, _⟩, _⟩⟩ := h1
          unfold chkE at h3
          simp only [Bool.and_eq_true, decide_eq_true_eq] at h3
          obtain ⟨P, _⟩ := snd_es (dp := dp) (snds ms) X sc W [a, b] c.toCok h3.2
          have hij : i ≠ j := by
            intro z
            rw [z] at h8
            simp at h8
          refine ps_imp (ps_par (i := i) (j := j) c.calm hN (by rw [c.hN]; exact e1) (by rw [c.hN]; exact e2) hij l1 l2 P hw (swapSole (swap_ok h2 _ _ _))) ?_
          rintro D σ H ⟨ω, ρ, st, hl, hs, hp⟩
          unfold exec at hp
          have hp := PostS.of hl hp
          unfold ev at hp
          refine ⟨ω, ρ, st, hl, hs, (Post.bind hp).len.mono fun ds st1 ω1 H1 x1 s1 ⟨ln, q1⟩ vs r1 => ?_⟩
          have q1 : ∀ ω' H', Ext (dp + 1) ω1 H1 ω' H' → StoOk X.K ω' st1 H' → PostS X.K dp W cls ω' H' (match bindT (.tp [i, j]) (.tup ds) ρ with
            | some ρ1 => .nx ρ1 st1
            | none => .fail) D := q1
          have q2 := q1 ω1 H1 .refl s1
          have l2 : ds.length = 2 := by
            rw [ln]
            have := chkEs_length h3.2
            exact this.symm
          match ds, l2 with
          | [d, e], _ =>
            obtain ⟨v, w, rfl, rv, rw'⟩ := r1.two
            refine ⟨v, w, rfl, ?_⟩
            exact q2 ω1 _ H1 .refl (((hl.ext x1).set (OwnR.of rv)).set (OwnR.of rw')) s1
      · exact gen (cell_none c.hsc h5)
    · cases h4
    · rename_i n1 n2
      refine gen (swappedE ?_ _)
      cases v <;> first | rfl | exact absurd rfl (n1 _ _ _) | exact absurd rfl (n2 _ _)
  · cases h

theorem snd_ifs {ca cb : List S} (ha : SndSs N G k C cls dp ca) (hb : SndSs N G k C cls dp cb) : SndS N G k C cls dp (.ifs m ca cb) := by
  intro X sc W st c h
  unfold chkS at h
  split at h
  · simp only [Bool.and_eq_true] at h
    refine ps_imp (ps_if (snd (dp := dp) m X sc W _ c.toCok h.1.1).2 (ha X sc W _ c h.1.2) (hb X sc W _ c h.2)) ?_
    rintro D σ H ⟨ω, ρ, st, hl, hs, hp⟩
    unfold exec at hp
    refine ⟨ω, ρ, st, hl, hs, (PostS.of hl hp).mono fun d st1 ω1 H1 x1 s1 q1 => ?_⟩
    split at q1
    · rename_i kk
      refine ⟨kk, rfl, ?_⟩
      cases kk with
      | true => exact ⟨ω1, ρ, st1, hl.ext x1, s1, q1⟩
      | false => exact ⟨ω1, ρ, st1, hl.ext x1, s1, q1⟩
    · exact q1.elim
  · cases h
theorem snd_while {body : List S} (hb : SndSs N G k C cls dp body) : SndS N G k C cls dp (.while m body) := by
  intro X sc W st c h
  unfold chkS at h
  split at h
  · simp only [Bool.and_eq_true] at h
    refine ps_imp (ps_while c.po (snd (dp := dp) m X sc W _ c.toCok h.1).2 (hb X sc W _ c h.2)) ?_
    rintro D σ H ⟨ω, ρ, st, hl, hs, hp⟩
    unfold exec at hp
    refine ⟨fun n σ H => ∃ ω ρ st, Loc X.K ω dp ρ σ H ∧ StoOk X.K ω st H ∧ PostS X.K dp W cls ω H (whileGo (fun ρ st => ev C m ρ st) (fun ρ st => execs C body ρ st) n ρ st) D, ⟨FU, ω, ρ, st, hl, hs, hp⟩, ?_⟩
    rintro n σ H ⟨ω, ρ, st, hl, hs, hp⟩
    cases n with
    | zero => exact hp.elim
    | succ n =>
      unfold whileGo at hp
      refine ⟨ω, ρ, st, hl, hs, (PostS.of hl hp).mono fun d st1 ω1 H1 x1 s1 q1 => ?_⟩
      split at q1
      · refine ⟨true, rfl, ?_⟩
        show ite _ _ _
        rw [if_pos rfl]
        refine ⟨fun σ H => tS X.K dp W cls (whileGo (fun ρ st => ev C m ρ st) (fun ρ st => execs C body ρ st) n) D σ H, fun σ' H' ⟨ω', ρ', st', a, b, q⟩ => ⟨n, Nat.lt_succ_self _, ω', ρ', st', a, b, q⟩, ω1, ρ, st1, hl.ext x1, s1, ?_⟩
        refine (PostS.seq q1).mono (fun _ _ q => q) fun _ _ q => q
      · refine ⟨false, rfl, ?_⟩
        show ite _ _ _
        rw [if_neg Bool.false_ne_true]
        exact q1 ω1 σ H1 .refl (hl.ext x1) s1
      · exact q1.elim
  · cases h
theorem snd_for {tg : T} {ik : IK} {ie : List E} {body : List S} (hb : SndSs N G k C cls dp body) : SndS N G k C cls dp (.for tg ik ie body) := by
  intro X sc W st c h
  unfold chkS at h
  split at h
  · rename_i t it bx pos
    simp only [Bool.and_eq_true] at h
    obtain ⟨⟨⟨h1, h2⟩, h3⟩, h4⟩ := h
    cases qi : itArgs G sc ik tg it with
    | none => rw [qi] at h4; cases h4
    | some es =>
      rw [qi] at h4
      have I := snd_it (dp := dp) (own := (match tg with | .nm i => [i] | .tp is => is)) (snds ie) c.toCok qi h4 (tg_shape h1)
      refine ps_imp (ps_for c.po c.calm I (tg_of c.hN c.nd c.hsc (fun _ => c.fn) c.calm h1) (hb X sc W _ c h3) (fold_ok h2 X.env)) ?_
      rintro D σ H ⟨ω, ρ, st, hl, hs, hp⟩
      unfold exec at hp
      refine ⟨ω, ρ, st, hl, hs, (PostS.ofs hl hp).mono fun ds st1 ω1 H1 x1 s1 q1 => ?_⟩
      cases qx : items ik ds with
      | none => rw [qx] at q1; exact q1.elim
      | some xs =>
        rw [qx] at q1
        refine ⟨xs, rfl, fun J F => ?_⟩
        refine ⟨fun i mm σ H => mm = xs.length - i ∧ i ≤ xs.length ∧ ∃ ω' ρ' st', Kept ω1 H1 ω' H ∧ Loc X.K ω' dp ρ' σ H ∧ StoOk X.K ω' st' H ∧ PostS X.K dp W cls ω' H (forGo (bindT tg) (fun ρ st => execs C body ρ st) (xs.drop i) ρ' st') D,
          ⟨xs.length, by simp, Nat.zero_le _, ω1, ρ, st1, .refl, hl.ext x1, s1, q1⟩, ?_⟩
        rintro i mm σ H2 ⟨rfl, hi, ω2, ρ2, st2, k2, l2, s2, p2⟩
        by_cases hlt : i < xs.length
        · rw [List.drop_eq_getElem_cons hlt] at p2
          unfold forGo at p2
          refine .inr ⟨F.go ω2 H2 k2 i hlt, fun σ H => ∃ ω' ρ' st', Kept ω1 H1 ω' H ∧ Loc X.K ω' dp ρ' σ H ∧ StoOk X.K ω' st' H ∧ PostS X.K dp W cls ω' H (forGo (bindT tg) (fun ρ st => execs C body ρ st) (xs.drop (i + 1)) ρ' st') D,
            fun σ' H' h => ⟨xs.length - (i + 1), by omega, rfl, hlt, h⟩, fun x H3 y => ?_⟩
          obtain ⟨gr, rx⟩ := F.yld ω2 H2 k2 i x H3 xs[i] (List.getElem?_eq_getElem hlt) y
          have x3 : Ext (dp + 1) ω2 H2 ω2 H3 := .ofGrow s2 gr
          have p3 := PostS.at p2 (x3.mono (Nat.le_succ _))
          cases qb : bindT tg xs[i] ρ2 with
          | none => rw [qb] at p3; exact p3.elim
          | some ρ3 =>
            rw [qb] at p3
            refine gT_of (l2.ext x3) rx qb fun σ4 l4 _ => ⟨ω2, ρ3, st2, l4, s2.grow gr, ?_⟩
            have kk : Kept ω1 H1 ω2 H3 := k2.trans x3.kept
            have p3 : PostS X.K dp W cls ω2 H3 ((execs C body ρ3 st2).seq fun ρ2 st2 => forGo (bindT tg) (fun ρ st => execs C body ρ st) (xs.drop (i + 1)) ρ2 st2) D := p3
            revert p3
            show PostS X.K dp W cls ω2 H3 _ D → PostS X.K dp W cls ω2 H3 (execs C body ρ3 st2) _
            cases execs C body ρ3 st2 with
            | nx ρ' st' =>
              intro p3 ω5 σ5 H5 x5 l5 s5
              have p3 : PostS X.K dp W cls ω2 H3 (forGo (bindT tg) (fun ρ st => execs C body ρ st) (xs.drop (i + 1)) ρ' st') D := p3
              exact ⟨ω5, ρ', st', kk.trans x5.kept, l5, s5, PostS.at p3 x5⟩
            | rt d st' => exact fun p4 => p4
            | ex cc ρ' st' => exact fun p4 => p4
            | fail => exact fun p4 => p4
        · have e1 : i = xs.length := by omega
          subst e1
          rw [List.drop_length] at p2
          unfold forGo at p2
          exact .inl ⟨F.stop ω2 H2 k2, p2 ω2 σ H2 .refl l2 s2⟩
  · cases h
theorem chkSs_cons {s : S} {ms : List S} {sts : List Stmt} (nf : ∀ i, s ≠ .freeze i) : chkSs N G (s :: ms) sc sts = (match sts with
    | st :: sts => chkS N G s sc st && chkSs N G ms sc sts
    | [] => false) := by
  cases s <;> first | exact absurd rfl (nf _) | (cases sts <;> simp only [chkSs])
theorem snd_ss_cons {s : S} {ms : List S} (h1 : SndS N G k C cls dp s) (h2 : SndSs N G k C cls dp ms) (nf : ∀ i, s ≠ .freeze i) : SndSs N G k C cls dp (s :: ms) := by
  intro X sc W sts c h
  have h' := h
  rw [chkSs_cons nf] at h'
  cases sts with
  | nil => cases h'
  | cons st sts =>
    simp only [Bool.and_eq_true] at h'
    refine pss_imp (pss_cons (h1 X sc W st c h'.1) (h2 X sc W sts c h'.2)) ?_
    rintro D σ H ⟨ω, ρ, st, hl, hs, hp⟩
    unfold execs at hp
    exact ⟨ω, ρ, st, hl, hs, PostS.seq hp⟩
theorem Loc.freeze {i : Nat} {a : Addr} {vs : List V} {ds : List TL.D} (hl : Loc K ω dp ρ σ H) (s : StoOk K ω st H) (hs : σ[i]? = some (some (.ref a))) (h : H a = some (.lst vs)) (w : ω.wr a = some (.slot dp i, [])) (r : Reps K ω H ds vs) (l : ds.length ≤ sizeLine) :
    Loc K (ω.free a) dp (ρ.set i (some (.lst ds))) σ H :=
  ⟨by rw [List.length_set]; exact hl.len, fun j d e => by
    by_cases hj : j = i
    · subst hj
      by_cases hlt : j < ρ.length
      · rw [List.getElem?_set_self hlt] at e
        cases e
        refine ⟨_, hs, OwnR.of ⟨l, a, vs, rfl, h, ?_, Reps.kept .free _ _ r⟩⟩
        show (if a = a then none else ω.wr a) = none
        rw [if_pos rfl]
      · rw [List.getElem?_eq_none (by rw [List.length_set]; omega)] at e
        cases e
    · rw [List.getElem?_set_ne (Ne.symm hj)] at e
      obtain ⟨v', e', r'⟩ := hl.at_ j d e
      refine ⟨v', e', ?_⟩
      cases d with
      | mlst ds' =>
        obtain ⟨a', vs', e1, h1, w1, r1⟩ := r'
        have ne : a' ≠ a := fun z => by
          rw [z, w] at w1
          cases w1
          exact hj rfl
        refine ⟨a', vs', e1, h1, ?_, Reps.kept .free _ _ r1⟩
        show (if a' = a then none else ω.wr a') = _
        rw [if_neg ne]
        exact w1
      | _ => first | exact Rep.kept .free _ _ r' | exact r'.elim⟩
theorem Ext.freeOwn {d i : Nat} {p : List Str} {a : Addr} (w : ω.wr a = some (.slot d i, p)) : Ext d ω H (ω.free a) H where
  kept := .free
  fix := fun b k j q e hk => by
    have ne : b ≠ a := fun z => by
      rw [z, w] at e
      cases e
      exact absurd hk (Nat.lt_irrefl _)
    refine ⟨?_, rfl⟩
    show (if b = a then none else ω.wr b) = _
    rw [if_neg ne]
end
end TL

namespace TL
open PySem L2 PyProof.Rows
section
variable {X : Cx} {N : List Str} {G : GT} {k : Nat} {C : Cal} {cls : Nat → Value} {dp : Nat} {sc : Scope} {W : WX} {e : Expr} {es : List Expr} {m n l a b : E} {ms : List E}
variable {K : PySem.W.Frag} {ω ω' ω'' : Wd} {H H' H'' : Hp} {D : Ends} {ρ : Env} {σ : L2.St} {st : Sto}
theorem snd_ss_nil : SndSs N G k C cls dp [] := by
  intro X sc W sts c h
  unfold chkSs at h
  have e := List.isEmpty_iff.mp h
  subst e
  refine pss_imp pss_nil ?_
  rintro D σ H ⟨ω, ρ, st, hl, hs, hp⟩
  unfold execs at hp
  exact hp ω σ H .refl hl hs
theorem snd_ss_freeze {i : Nat} {ss : List S} (h2 : SndSs N G k C cls dp ss) : SndSs N G k C cls dp (.freeze i :: ss) := by
  intro X sc W sts c h
  unfold chkSs at h
  have P := h2 X sc W sts c h
  refine ⟨fun pins s σ H D I q => ?_⟩
  obtain ⟨ω, ρ, st, hl, hs, hp⟩ := q
  refine P.run pins s σ H D I ?_
  unfold execs exec at hp
  dsimp only at hp
  split at hp
  · rename_i ds hd
    obtain ⟨v, e1, ad, vs, rfl, h2, w2, r2⟩ := hl.at_ i _ hd
    have ln : ds.length ≤ sizeLine := by
      rw [← r2.length]
      obtain ⟨z, _⟩ := I.hok ad _ h2
      exact z
    have xf : Ext dp ω H (ω.free ad) H := .freeOwn w2
    exact ⟨ω.free ad, _, st, hl.freeze hs e1 h2 w2 r2 ln, hs.free, PostS.at (show PostS X.K dp W cls ω H (execs C ss (ρ.set i (some (.lst ds))) st) D from hp) xf⟩
  · exact hp.elim
theorem snd_no {s : S} (h : ∀ sc st, chkS N G s sc st = false) : SndS N G k C cls dp s := by
  intro X sc W st c h'
  rw [h] at h'
  cases h'
mutual
theorem sndS : ∀ s : S, SndS N G k C cls dp s
  | .set i m => snd_set
  | .own i ms => snd_own
  | .ownd i m => snd_no fun _ _ => by unfold chkS; rfl
  | .unpack is m => snd_unpack
  | .app i m => snd_app
  | .ext i m => snd_ext
  | .put i m => snd_no fun _ _ => by unfold chkS; rfl
  | .freeze i => snd_no fun _ _ => by unfold chkS; rfl
  | .expr m => snd_expr
  | .ifs m a b => snd_ifs (sndSs a) (sndSs b)
  | .for tg ik ie body => snd_for (sndSs body)
  | .while m body => snd_while (sndSs body)
  | .ret m => snd_ret
  | .retN => snd_retN
  | .raise c => snd_no fun _ _ => by unfold chkS; rfl
theorem sndSs : ∀ ss : List S, SndSs N G k C cls dp ss
  | [] => snd_ss_nil
  | .freeze i :: ss => snd_ss_freeze (sndSs ss)
  | s :: ss => by
    by_cases h : ∃ i, s = .freeze i
    · obtain ⟨i, rfl⟩ := h
      exact snd_ss_freeze (sndSs ss)
    · exact snd_ss_cons (sndS s) (sndSs ss) fun i e => h ⟨i, e⟩
end
end

/-- a def: its name, its text, its names, its code -/
structure Tx where
  name : Str
  qual : Str
  names : List Str
  stmt : Stmt
  code : Fn
/-- a def, checked against its text -/
def chkFn (G : GT) (t : Tx) : Bool :=
  decide (t.code.ns = t.names.length) && chkSs t.names G t.code.body (defScope t.stmt) (defBody t.stmt) &&
  (match (defScope t.stmt).kind with | .function => true | _ => false) && !(defScope t.stmt).isCoroutine && !(defScope t.stmt).isGenerator && decide t.names.Nodup && decide (t.code.np ≤ t.names.length) &&
  ((t.names.take t.code.np).all fun x => match (defScope t.stmt).names.lookup x with | some .local | some .cell => true | _ => false) && ((defScope t.stmt).names.all fun y => match y.2 with | .free => false | _ => true)
theorem scope_of {G : GT} {t : Tx} (h : chkFn G t = true) : FnScope t.names (t.names.take t.code.np) (defScope t.stmt) ∧ t.code.ns = t.names.length ∧ t.code.np ≤ t.names.length ∧ chkSs t.names G t.code.body (defScope t.stmt) (defBody t.stmt) = true := by
  unfold chkFn at h
  simp only [Bool.and_eq_true, decide_eq_true_eq, Bool.not_eq_true'] at h
  obtain ⟨⟨⟨⟨⟨⟨⟨⟨h1, h2⟩, h3⟩, h4⟩, h5⟩, h6⟩, h7⟩, h8⟩, h9⟩ := h
  refine ⟨⟨?_, h4, h5, h6, ?_, fun x hx => ?_, fun y hy z => ?_⟩, h1, h7, h2⟩
  · revert h3
    cases (defScope t.stmt).kind <;> first | (intro _; rfl) | (intro h; cases h)
  · rw [List.length_take, Nat.min_eq_left h7]
  · have q := List.all_eq_true.mp h8 x hx
    revert q
    cases (defScope t.stmt).names.lookup x with
    | none => intro q; cases q
    | some k => cases k <;> first | (intro _; exact .inl rfl) | (intro _; exact .inr rfl) | (intro q; cases q)
  · have q := List.all_eq_true.mp h9 y hy
    rw [z] at q
    cases q
structure ProgOk (K : PySem.W.Frag) (mg : Str → Option Value) (G : GT) (T : List Tx) : Prop where
  fns : G.fns = T.map (·.name)
  chk : ∀ t ∈ T, chkFn G t = true
  at_ : ∀ t ∈ T, ∃ f fd, Fun K t.name t.qual t.stmt f fd ∧ mg t.name = some (.ref f) ∧ Binds K fd (t.names.take t.code.np) []
  cst : ∀ (x : Str) (d : TL.D), G.consts.lookup x = some d → ∃ u v, mg x = some u ∧ RelV v u ∧ ∀ ω H, Rep K ω H d v
  blt : ∀ x ∈ G.blt, mg x = none
theorem enter_loc {K : PySem.W.Frag} {ω : Wd} {H : Hp} {dp : Nat} {F : Fn} {N : List Str} {ds : List TL.D} {vs : List V} (r : Reps K ω H ds vs) (h : F.ns = N.length) : Loc K ω dp (enter F ds) (L2.start N vs) H where
  len := by
    unfold enter L2.start
    rw [List.length_append, List.length_append, List.length_map, List.length_map, List.length_replicate, List.length_replicate, r.length, h]
  at_ := fun i d e => by
    unfold enter at e
    unfold L2.start
    by_cases hi : i < ds.length
    · rw [List.getElem?_append_left (by rw [List.length_map]; exact hi), List.getElem?_map] at e
      cases q : ds[i]? with
      | none => rw [q] at e; cases e
      | some d' =>
        rw [q] at e
        cases e
        obtain ⟨v, e', rv⟩ := r.get q
        refine ⟨v, ?_, OwnR.of rv⟩
        rw [List.getElem?_append_left (by rw [List.length_map, r.length]; exact hi), List.getElem?_map, e']
        rfl
    · rw [List.getElem?_append_right (by rw [List.length_map]; omega), List.getElem?_replicate] at e
      split at e <;> cases e
/-- THE THEOREM: each def of a program that is checked does what its code does -/
theorem prog_ok {P : Program} {w : World} {K : PySem.W.Frag} {mg : Str → Option Value} {base : Heap} {G : GT} {T : List Tx} {cls : Nat → Value} (O : ProgOk K mg G T) :
    ∀ (n i : Nat) (t : Tx) (f : Addr) (fd : FuncData), T[i]? = some t → Fun K t.name t.qual t.stmt f fd → FnOk P w K mg base (L2.CX P w) n f fd (t.names.take t.code.np) (spC K (run (T.map (·.code)) n) cls i)
  | 0, i, t, f, fd, ht, F => by
    have no : ∀ vs H Q E, ¬ spC K (run (T.map (·.code)) 0) cls i vs H Q E := fun vs H Q E ⟨ω, st, ds, dp, hs, r, h⟩ => h
    exact ⟨fun vs H Q E h => absurd h (no vs H Q E), fun A outer s H args us vs Q E _ _ _ _ h => absurd h (no vs H Q E)⟩
  | n + 1, i, t, f, fd, ht, F => by
    obtain ⟨S, hns, hnp, hck⟩ := scope_of (O.chk t (List.mem_of_getElem? ht))
    have hcode : (T.map (·.code))[i]? = some t.code := by rw [List.getElem?_map, ht]; rfl
    have ln : ∀ {ds : List TL.D} {st : Sto}, run (T.map (·.code)) (n + 1) i ds st ≠ .fail → ds.length = t.code.np ∧ run (T.map (·.code)) (n + 1) i ds st = finish (execs (run (T.map (·.code)) n) t.code.body (enter t.code ds) st) := by
      intro ds st h
      unfold run at h ⊢
      rw [hcode] at h ⊢
      dsimp only at h ⊢
      by_cases e : ds.length = t.code.np
      · rw [if_pos e]
        exact ⟨e, rfl⟩
      · rw [if_neg e] at h
        exact absurd rfl h
    refine F.okX S (fun vs H Q E h => ?_) (fun cdv A outer s H vs Q E hr h => ?_)
    · obtain ⟨ω, st, ds, dp, hs, r, h⟩ := h
      have q : run (T.map (·.code)) (n + 1) i ds st ≠ .fail := fun z => by rw [z] at h; exact h
      rw [r.length, (ln q).1, List.length_take, Nat.min_eq_left hnp]
    · obtain ⟨ω, st, ds, dp, hs, r, h⟩ := h
      have q : run (T.map (·.code)) (n + 1) i ds st ≠ .fail := fun z => by rw [z] at h; exact h
      rw [(ln q).2] at h
      have c : CokS (cxOf (L2.CX P w) P w K mg base t.names t.qual (defScope t.stmt) f cdv A outer s H E) G n (run (T.map (·.code)) n) cls t.names (defScope t.stmt) (fun cc d _ H' => E cc d H') := {
        hN := rfl
        nd := S.nd
        hsc := rfl
        calm := rfl
        room := hr
        tk := takes_of rfl rfl rfl rfl
        fns := fun j x hj => by
          rw [O.fns, List.getElem?_map] at hj
          cases ht' : T[j]? with
          | none => rw [ht'] at hj; cases hj
          | some t' =>
            rw [ht'] at hj
            cases hj
            obtain ⟨f', fd', F', hm, hb⟩ := O.at_ t' (List.mem_of_getElem? ht')
            exact ⟨f', fd', _, prog_ok O n j t' f' fd' ht' F', hm, F'.kp, hb⟩
        cst := O.cst
        blt := O.blt
        fn := fun _ => rfl
        po := passes_of rfl }
      refine ⟨_, sndSs (dp := dp) t.code.body _ _ _ _ c hck, ω, enter t.code ds, st, enter_loc r hns, hs, ?_⟩
      show PostS K dp _ cls ω H (execs (run (T.map (·.code)) n) t.code.body (enter t.code ds) st) _
      revert h
      cases execs (run (T.map (·.code)) n) t.code.body (enter t.code ds) st with
      | nx ρ' st' => exact fun h ω' σ' H' x _ s' => h ω' .non H' x s' rfl
      | rt d st' => exact fun h ω' v H' x s' r' => h ω' v H' x s' r'
      | ex cc ρ' st' => exact fun h ω' σ' H' x _ s' => h ω' H' x s'
      | fail => exact fun h => h
/-- the law's call -/
theorem law_sp {K : PySem.W.Frag} {H : Hp} {C : Cal} {cls : Nat → Value} {i : Nat} {a : Addr} {ns : List Int} {st' : Sto} {E : XK} (hS : SqL K H a (ns.map V.int)) (hl : ns.length ≤ 63) (h : C i [.fls (ns.map .int)] [] = .ok (.bl true) st') :
    spC K C cls i [.ref a] H (fun v _ => v = .bl true) E := by
  have ri : ∀ ns : List Int, Reps K ⟨[], fun _ => none⟩ H (ns.map TL.D.int) (ns.map V.int) := by
    intro ns
    induction ns with
    | nil => rfl
    | cons n ns ih => exact ⟨_, _, rfl, rfl, ih⟩
  refine ⟨⟨[], fun _ => none⟩, [], [.fls (ns.map .int)], 0, ⟨rfl, fun _ h => absurd rfl h, fun l d e => by simp at e⟩, ⟨_, _, rfl, ⟨by rw [List.length_map]; exact Nat.le_trans hl (by decide), a, _, rfl, ?_, ri ns⟩, rfl⟩, ?_⟩
  · rcases hS with (h | ⟨o, h⟩) | h
    · exact .inl ⟨h, rfl⟩
    · exact .inr (.inl ⟨o, h⟩)
    · exact .inr (.inr h)
  · rw [h]
    exact fun ω' v H' x s r => r
/-- the end: the law's call, walked -/
theorem walk {l : PySem.W.OpenLaw} {q : Program} {loose : List Str} {XP : (Str → Option Value) → Heap → Prop} {YP : World → Heap → Prop} {d : DefRec} {K : Params → PySem.W.Frag} {G : GT} {T : List Tx} {t : Tx} {i n : Nat} {x : Str} (hn : l.most = some 63) (hdf : d.params.defaults = [])
    (hr : Room n callerA) (hY : ∀ (w : World) (h : Heap), YP w h → (K w.params).In h) (ht : T[i]? = some t) (hx : t.names.take t.code.np = [x]) (hname : t.name = d.name)
    (F : ∀ (w : World) (mg : Str → Option Value) (h : Heap), (K w.params).In h → h.Ns mainGlobals mg → ProgOk (K w.params) mg G T)
    (hb : ∀ (w : World) (fa : Addr) (fd : FuncData), Fun (K w.params) t.name t.qual t.stmt fa fd → ∀ (s : Shared) (u : Value), BindsTo s fd ⟨[u], []⟩ [(x, u)])
    (law : ∀ ns : List Int, ns.length ≤ 63 → ∃ st', run (T.map (·.code)) n i [.fls (ns.map .int)] [] = .ok (.bl true) st') :
    PySem.W.WalkO q loose XP YP l.row.toRowW d [] (fun f vs => PySem.call f vs) :=
  L2.walk_of (n := 63) (k := n) (x := x) (CX := fun w => L2.CX l.prog w) (sp := fun w => spC (K w.params) (run (T.map (·.code)) n) (fun _ => .none) i) hn (by decide) hdf hr hY
    (fun w mg fa h KX g hfa => by
      have O := F w mg h KX g
      obtain ⟨f, fd, Fu, hm, _⟩ := O.at_ t (List.mem_of_getElem? ht)
      rw [hname, hfa] at hm
      cases hm
      refine ⟨fd, hb w fa fd Fu, fun base KB gB => ?_⟩
      have z := prog_ok (P := l.prog) (w := w) (base := base) (cls := fun _ => .none) O n i t fa fd ht Fu
      rw [hx] at z
      exact z)
    (fun w H a ns hl _ hS => let ⟨st', h⟩ := law ns hl; law_sp hS hl h) fun w H s e s' h => by
      obtain ⟨_, _, _, _, _, _, _, _, _, _, _, _, z⟩ := h
      exact z.elim
end TL

namespace TP
open PySem L2 TL
def top (i : Nat) : Stmt := PySem.Challenge.pw_taletask_k40_short.main.body.getD i (.Pass ⟨0, 0, 0, 0⟩)
def c_tasks_in : Fn := ⟨1, 1, [.ifs (.o2 .isIn (.o2 .ix (.var 0) (.con (.int 0))) (.con (.tup [.str "all", .str "any", .str "then"]))) [.ret (.o2 .ix (.var 0) (.con (.int 1)))] [], .ifs (.o2 .eq (.o2 .ix (.var 0) (.con (.int 0))) (.con (.str "do"))) [.ret (.tup [])] [], .ret (.sl (.var 0) [.con (.int 2)] [])]⟩
def c_with_tasks : Fn := ⟨2, 2, [.ifs (.o2 .isIn (.o2 .ix (.var 0) (.con (.int 0))) (.con (.tup [.str "all", .str "any", .str "then"]))) [.ret (.tup [.o2 .ix (.var 0) (.con (.int 0)), .o1 .tuple (.var 1)])] [], .ifs (.o2 .eq (.o2 .ix (.var 0) (.con (.int 0))) (.con (.str "do"))) [.ret (.var 0)] [], .ret (.o2 .add (.sl (.var 0) [] [.con (.int 2)]) (.o1 .tuple (.var 1)))]⟩
def c_flat : Fn := ⟨2, 4, [.own 2 [], .for (.nm 3) .lst [.var 1] [.ifs (.o2 .eq (.o2 .ix (.var 3) (.con (.int 0))) (.var 0)) [.ext 2 (.o1 .list (.o2 .ix (.var 3) (.con (.int 1))))] [.app 2 (.var 3)]], .freeze 2, .ret (.var 2)]⟩
def c_unlike_ones : Fn := ⟨1, 3, [.own 1 [], .for (.nm 2) .lst [.var 0] [.ifs (.inOwn true (.var 2) 1) [.app 1 (.var 2)] []], .freeze 1, .ret (.var 1)]⟩
def c_once : Fn := ⟨1, 4, [.set 1 (.lc (.call 4 [.var 3]) (.nm 3) .tup [.call 0 [.var 0]] [] [3]), .set 2 (.o2 .ix (.var 0) (.con (.int 0))), .ifs (.o2 .isIn (.var 2) (.con (.tup [.str "all", .str "any", .str "then"]))) [.set 1 (.call 2 [.var 2, .var 1]), .ifs (.o2 .ne (.var 2) (.con (.str "then"))) [.set 1 (.call 3 [.var 1])] [], .ifs (.o2 .eq (.o1 .len (.var 1)) (.con (.int 1))) [.ret (.o2 .ix (.var 1) (.con (.int 0)))] [], .ret (.tup [.var 2, .o1 .tuple (.var 1)])] [], .ifs (.and [.o2 .eq (.var 2) (.con (.str "without")), .o2 .eq (.sl (.o2 .ix (.var 1) (.con (.int 0))) [] [.con (.int 2)]) (.sl (.var 0) [] [.con (.int 2)])]) [.ret (.o2 .ix (.var 1) (.con (.int 0)))] [], .ifs (.and [.o2 .eq (.var 2) (.con (.str "within")), .o2 .eq (.o2 .ix (.o2 .ix (.var 1) (.con (.int 0))) (.con (.int 0))) (.var 2)]) [.ret (.tup [.var 2, .o2 .min (.o2 .ix (.var 0) (.con (.int 1))) (.o2 .ix (.o2 .ix (.var 1) (.con (.int 0))) (.con (.int 1))), .o2 .ix (.o2 .ix (.var 1) (.con (.int 0))) (.con (.int 2))])] [], .ret (.call 1 [.var 0, .var 1])]⟩
def c_short : Fn := ⟨1, 2, [.set 1 (.call 4 [.var 0]), .while (.o2 .ne (.var 1) (.var 0)) [.set 0 (.var 1), .set 1 (.call 4 [.var 0])], .ret (.var 0)]⟩
def c_is_short : Fn := ⟨1, 1, [.ret (.o2 .eq (.call 4 [.var 0]) (.var 0))]⟩
def c__law_cell_at : Fn := ⟨2, 2, [.ifs (.o2 .lt (.var 1) (.o1 .len (.var 0))) [.ret (.o2 .ix (.var 0) (.var 1))] [], .ret (.con (.int 0))]⟩
def c__law_mixed : Fn := ⟨2, 3, [.set 2 (.o2 .mod (.o2 .mul (.o2 .add (.o2 .add (.call 7 [.var 0, .var 1]) (.o2 .mul (.con (.int 7919)) (.var 1))) (.con (.int 1))) (.con (.int 48271))) (.con (.int 2147483647))), .ret (.o2 .mod (.o2 .add (.o2 .add (.o2 .mul (.var 2) (.var 2)) (.o2 .mul (.con (.int 7)) (.var 2))) (.var 1)) (.con (.int 2147483629)))]⟩
def c__law_drawn : Fn := ⟨2, 3, [.set 2 (.o2 .mod (.o2 .mul (.o2 .add (.o2 .add (.var 0) (.o2 .mul (.con (.int 104729)) (.var 1))) (.con (.int 17))) (.con (.int 69621))) (.con (.int 2147483647))), .ret (.o2 .mod (.o2 .add (.o2 .add (.o2 .mul (.var 2) (.var 2)) (.o2 .mul (.con (.int 3)) (.var 2))) (.var 1)) (.con (.int 2147483629)))]⟩
def c__law_task : Fn := ⟨3, 8, [.set 3 (.o2 .ix (.con (.str "abc")) (.o2 .mod (.o2 .div (.var 0) (.con (.int 8))) (.con (.int 3)))), .set 4 (.o2 .mod (.var 0) (.con (.int 8))), .ifs (.or [.o2 .eq (.var 1) (.con (.int 1)), .o2 .lt (.var 4) (.con (.int 2))]) [.ret (.tup [.con (.str "do"), .var 3, .o2 .add (.con (.int 1)) (.o2 .mod (.o2 .div (.var 0) (.con (.int 64))) (.var 2))])] [], .ifs (.o2 .eq (.var 4) (.con (.int 6))) [.ret (.tup [.con (.str "without"), .var 3, .call 10 [.o2 .div (.call 9 [.var 0, .con (.int 1)]) (.con (.int 4)), .o2 .sub (.var 1) (.con (.int 1)), .var 2]])] [], .ifs (.o2 .eq (.var 4) (.con (.int 7))) [.set 5 (.o2 .add (.con (.int 1)) (.o2 .mod (.o2 .div (.var 0) (.con (.int 64))) (.o2 .ix (.tup [.con (.int 9), .con (.int 4)]) (.o2 .mod (.o2 .div (.var 0) (.con (.int 1024))) (.con (.int 2)))))), .ret (.tup [.con (.str "within"), .var 5, .call 10 [.o2 .div (.call 9 [.var 0, .con (.int 2)]) (.con (.int 4)), .o2 .sub (.var 1) (.con (.int 1)), .var 2]])] [], .set 5 (.o2 .add (.con (.int 1)) (.o2 .mod (.o2 .div (.var 0) (.con (.int 64))) (.con (.int 3)))), .set 6 (.o2 .ix (.tup [.con (.str "all"), .con (.str "any"), .con (.str "then"), .con (.str "all")]) (.o2 .sub (.var 4) (.con (.int 2)))), .ifs (.o2 .eq (.var 6) (.con (.str "then"))) [.set 5 (.o2 .max (.con (.int 2)) (.var 5))] [], .ret (.tup [.var 6, .o1 .tuple (.lc (.call 10 [.o2 .div (.call 9 [.var 0, .o2 .add (.con (.int 3)) (.var 7)]) (.con (.int 4)), .o2 .sub (.var 1) (.con (.int 1)), .var 2]) (.nm 7) .rng [.var 5] [] [7])])]⟩
def c__law_deeds : Fn := ⟨2, 3, [.ret (.o1 .tuple (.lc (.o2 .ix (.con (.str "abcabcd")) (.o2 .mod (.o2 .div (.call 9 [.var 0, .o2 .add (.con (.int 20)) (.var 2)]) (.con (.int 4))) (.con (.int 7)))) (.nm 2) .rng [.o2 .mod (.var 0) (.o2 .add (.var 1) (.con (.int 1)))] [] [2]))]⟩
def c__law_other : Fn := ⟨2, 3, [.set 2 (.o2 .mod (.var 1) (.con (.int 8))), .ifs (.o2 .eq (.var 2) (.con (.int 0))) [.ret (.tup [.con (.str "all"), .tup [.var 0, .var 0]])] [], .ifs (.o2 .eq (.var 2) (.con (.int 1))) [.ret (.tup [.con (.str "any"), .tup [.tup [.con (.str "any"), .tup [.var 0]], .var 0]])] [], .ifs (.o2 .eq (.var 2) (.con (.int 2))) [.ret (.tup [.con (.str "within"), .o2 .add (.con (.int 1)) (.o2 .mod (.o2 .div (.var 1) (.con (.int 8))) (.con (.int 9))), .var 0])] [], .ifs (.o2 .eq (.var 2) (.con (.int 3))) [.ret (.tup [.con (.str "without"), .o2 .ix (.con (.str "abcd")) (.o2 .mod (.o2 .div (.var 1) (.con (.int 8))) (.con (.int 4))), .var 0])] [], .ifs (.and [.o2 .eq (.var 2) (.con (.int 4)), .o2 .isIn (.o2 .ix (.var 0) (.con (.int 0))) (.tup [.con (.str "all"), .con (.str "any")])]) [.ret (.tup [.o2 .ix (.var 0) (.con (.int 0)), .o1 .rev (.o2 .ix (.var 0) (.con (.int 1)))])] [], .ifs (.and [.o2 .eq (.var 2) (.con (.int 5)), .o2 .eq (.o2 .ix (.var 0) (.con (.int 0))) (.con (.str "then"))]) [.ret (.tup [.con (.str "then"), .tup [.o2 .ix (.o2 .ix (.var 0) (.con (.int 1))) (.con (.int 0)), .call 13 [.sl (.o2 .ix (.var 0) (.con (.int 1))) [.con (.int 1)] []]]])] [], .ifs (.and [.o2 .eq (.var 2) (.con (.int 6)), .o2 .eq (.o2 .ix (.var 0) (.con (.int 0))) (.con (.str "do")), .o2 .gt (.o2 .ix (.var 0) (.con (.int 2))) (.con (.int 1))]) [.ret (.tup [.con (.str "then"), .tup [.tup [.con (.str "do"), .o2 .ix (.var 0) (.con (.int 1)), .con (.int 1)], .tup [.con (.str "do"), .o2 .ix (.var 0) (.con (.int 1)), .o2 .sub (.o2 .ix (.var 0) (.con (.int 2))) (.con (.int 1))]]])] [], .ret (.call 10 [.o2 .div (.var 1) (.con (.int 8)), .con (.int 2), .con (.int 2)])]⟩
def c__law_rest : Fn := ⟨1, 1, [.ifs (.o2 .eq (.o1 .len (.var 0)) (.con (.int 1))) [.ret (.o2 .ix (.var 0) (.con (.int 0)))] [], .ret (.tup [.con (.str "then"), .var 0])]⟩
def c__law_parts : Fn := ⟨1, 1, [.ifs (.o2 .isIn (.o2 .ix (.var 0) (.con (.int 0))) (.tup [.con (.str "all"), .con (.str "any"), .con (.str "then")])) [.ret (.o1 .list (.o2 .ix (.var 0) (.con (.int 1))))] [], .ret (.o2 .mul (.o1 .list (.sl (.var 0) [.con (.int 2)] [])) (.o1 .int (.o2 .ne (.o2 .ix (.var 0) (.con (.int 0))) (.con (.str "do")))))]⟩
def c__law_step : Fn := ⟨1, 6, [.set 1 (.o2 .ix (.var 0) (.con (.int 0))), .set 2 (.call 14 [.var 0]), .ifs (.o2 .isIn (.var 1) (.tup [.con (.str "all"), .con (.str "any"), .con (.str "then")])) [.ifs (.o2 .eq (.o1 .len (.var 2)) (.con (.int 1))) [.ret (.o2 .ix (.var 2) (.con (.int 0)))] [], .for (.tp [3, 4]) .enumL [.var 2] [.ifs (.o2 .eq (.o2 .ix (.var 4) (.con (.int 0))) (.var 1)) [.ret (.tup [.var 1, .o2 .add (.o2 .add (.o1 .tuple (.sl (.var 2) [] [.var 3])) (.o2 .ix (.var 4) (.con (.int 1)))) (.o1 .tuple (.sl (.var 2) [.o2 .add (.var 3) (.con (.int 1))] []))])] [], .ifs (.and [.o2 .ne (.var 1) (.con (.str "then")), .o2 .isIn (.var 4) (.sl (.var 2) [] [.var 3])]) [.ret (.tup [.var 1, .o1 .tuple (.o2 .add (.sl (.var 2) [] [.var 3]) (.sl (.var 2) [.o2 .add (.var 3) (.con (.int 1))] []))])] []]] [.ifs (.and [.o2 .ne (.var 2) (.lst []), .o2 .eq (.o2 .ix (.o2 .ix (.var 2) (.con (.int 0))) (.con (.int 0))) (.var 1)]) [.ifs (.o2 .eq (.var 1) (.con (.str "within"))) [.ret (.tup [.var 1, .o2 .min (.o2 .ix (.var 0) (.con (.int 1))) (.o2 .ix (.o2 .ix (.var 2) (.con (.int 0))) (.con (.int 1))), .o2 .ix (.o2 .ix (.var 2) (.con (.int 0))) (.con (.int 2))])] [], .ifs (.o2 .eq (.o2 .ix (.var 0) (.con (.int 1))) (.o2 .ix (.o2 .ix (.var 2) (.con (.int 0))) (.con (.int 1)))) [.ret (.o2 .ix (.var 2) (.con (.int 0)))] []] []], .for (.tp [3, 4]) .enumL [.var 2] [.set 5 (.call 15 [.var 4]), .ifs (.o2 .ne (.var 5) (.var 4)) [.ifs (.o2 .isIn (.var 1) (.tup [.con (.str "all"), .con (.str "any"), .con (.str "then")])) [.ret (.tup [.var 1, .o1 .tuple (.o2 .add (.o2 .add (.sl (.var 2) [] [.var 3]) (.lst [.var 5])) (.sl (.var 2) [.o2 .add (.var 3) (.con (.int 1))] []))])] [], .ret (.o2 .add (.sl (.var 0) [] [.con (.int 2)]) (.tup [.var 5]))] []], .ret (.var 0)]⟩
def c_law : Fn := ⟨1, 4, [.set 1 (.call 10 [.call 8 [.var 0, .con (.int 0)], .o2 .add (.con (.int 1)) (.o2 .mod (.call 8 [.var 0, .con (.int 1)]) (.con (.int 4))), .con (.int 3)]), .ifs (.o2 .eq (.o2 .mod (.call 8 [.var 0, .con (.int 2)]) (.con (.int 2))) (.con (.int 1))) [.set 1 (.call 12 [.var 1, .call 8 [.var 0, .con (.int 3)]])] [], .set 2 (.var 1), .while (.o2 .ne (.call 15 [.var 2]) (.var 2)) [.set 2 (.call 15 [.var 2])], .ifs (.or [.o2 .ne (.call 5 [.var 1]) (.var 2), .o2 .isNotB (.call 6 [.var 2]) (.con (.bl true))]) [.ret (.con (.bl false))] [], .set 3 (.call 6 [.var 1]), .ret (.and [.o1 .isBool (.var 3), .o2 .eq (.var 3) (.o2 .eq (.var 2) (.var 1))])]⟩
def Pg : List Fn := [c_tasks_in, c_with_tasks, c_flat, c_unlike_ones, c_once, c_short, c_is_short, c__law_cell_at, c__law_mixed, c__law_drawn, c__law_task, c__law_deeds, c__law_other, c__law_rest, c__law_parts, c__law_step, c_law]
def t0 : Tx := ⟨"tasks_in", "tasks_in", ["task"], top 2, c_tasks_in⟩
def t1 : Tx := ⟨"with_tasks", "with_tasks", ["task", "parts"], top 3, c_with_tasks⟩
def t2 : Tx := ⟨"flat", "flat", ["word", "parts", "found", "part"], top 5, c_flat⟩
def t3 : Tx := ⟨"unlike_ones", "unlike_ones", ["parts", "found", "part"], top 6, c_unlike_ones⟩
def t4 : Tx := ⟨"once", "once", ["task", "parts", "word", "part"], top 7, c_once⟩
def t5 : Tx := ⟨"short", "short", ["task", "found"], top 8, c_short⟩
def t6 : Tx := ⟨"is_short", "is_short", ["task"], top 9, c_is_short⟩
def t7 : Tx := ⟨"_law_cell_at", "_law_cell_at", ["_law_script", "_law_k"], top 11, c__law_cell_at⟩
def t8 : Tx := ⟨"_law_mixed", "_law_mixed", ["_law_script", "_law_k", "_law_drawn_here"], top 12, c__law_mixed⟩
def t9 : Tx := ⟨"_law_drawn", "_law_drawn", ["_law_number", "_law_k", "_law_drawn_here"], top 13, c__law_drawn⟩
def t10 : Tx := ⟨"_law_task", "_law_task", ["_law_number", "_law_deep", "_law_most", "_law_deed", "_law_kind", "_law_many", "_law_word", "_law_k"], top 14, c__law_task⟩
def t11 : Tx := ⟨"_law_deeds", "_law_deeds", ["_law_number", "_law_most", "_law_k"], top 15, c__law_deeds⟩
def t12 : Tx := ⟨"_law_other", "_law_other", ["_law_task_here", "_law_number", "_law_kind"], top 16, c__law_other⟩
def t13 : Tx := ⟨"_law_rest", "_law_rest", ["_law_parts_here"], top 17, c__law_rest⟩
def t14 : Tx := ⟨"_law_parts", "_law_parts", ["_law_task_here"], top 18, c__law_parts⟩
def t15 : Tx := ⟨"_law_step", "_law_step", ["_law_task_here", "_law_word", "_law_parts_here", "_law_at", "_law_part", "_law_less"], top 19, c__law_step⟩
def t16 : Tx := ⟨"law", "law", ["_law_script", "_law_task_here", "_law_due", "_law_found"], top 20, c_law⟩
def Ts : List Tx := [t0, t1, t2, t3, t4, t5, t6, t7, t8, t9, t10, t11, t12, t13, t14, t15, t16]
def Gt : GT := ⟨["tasks_in", "with_tasks", "flat", "unlike_ones", "once", "short", "is_short", "_law_cell_at", "_law_mixed", "_law_drawn", "_law_task", "_law_deeds", "_law_other", "_law_rest", "_law_parts", "_law_step", "law"], [("GROUPS", .tup [.str "all", .str "any", .str "then"])], ["bool", "enumerate", "int", "isinstance", "len", "list", "max", "min", "range", "tuple"]⟩
theorem k0 : chkFn Gt t0 = true := by decide +kernel
theorem k1 : chkFn Gt t1 = true := by decide +kernel
theorem k2 : chkFn Gt t2 = true := by decide +kernel
theorem k3 : chkFn Gt t3 = true := by decide +kernel
theorem k4 : chkFn Gt t4 = true := by decide +kernel
theorem k5 : chkFn Gt t5 = true := by decide +kernel
theorem k6 : chkFn Gt t6 = true := by decide +kernel
theorem k7 : chkFn Gt t7 = true := by decide +kernel
theorem k8 : chkFn Gt t8 = true := by decide +kernel
theorem k9 : chkFn Gt t9 = true := by decide +kernel
theorem k10 : chkFn Gt t10 = true := by decide +kernel
theorem k11 : chkFn Gt t11 = true := by decide +kernel
theorem k12 : chkFn Gt t12 = true := by decide +kernel
theorem k13 : chkFn Gt t13 = true := by decide +kernel
theorem k14 : chkFn Gt t14 = true := by decide +kernel
theorem k15 : chkFn Gt t15 = true := by decide +kernel
theorem k16 : chkFn Gt t16 = true := by decide +kernel
end TP

namespace TL
open PySem hiding run execs exec finish Env
open L2

def D.isS : TL.D → Bool
  | .str _ => true
  | _ => false
theorem eqv_str (x y : Str) : (TL.D.str x).eqv (.str y) = decide (x = y) := by
  unfold TL.D.eqv TL.D.py PyData.eqv
  by_cases h : x = y
  · simp [h]
  · simp [h]
theorem eqv_tup_str (ds : List TL.D) (y : Str) : (TL.D.tup ds).eqv (.str y) = false := by
  unfold TL.D.eqv TL.D.py PyData.eqv
  rfl
theorem eqv_str_tup (ds : List TL.D) (y : Str) : (TL.D.str y).eqv (.tup ds) = false := by
  unfold TL.D.eqv TL.D.py PyData.eqv
  rfl
theorem eqv_int (x y : Int) : (TL.D.int x).eqv (.int y) = decide (x = y) := by
  unfold TL.D.eqv TL.D.py PyData.eqv
  by_cases h : x = y
  · simp [h]
  · simp [h]
theorem eqv_non : TL.D.non.eqv .non = true := by
  unfold TL.D.eqv TL.D.py PyData.eqv
  rfl
theorem eqv_lst_nil (ds : List TL.D) : (TL.D.lst ds).eqv (.lst []) = decide (ds = []) := by
  unfold TL.D.eqv TL.D.py PyData.eqv
  cases ds <;> simp [pys, PyData.eqvAll]
/-- fit to be compared: plain, at most n deep -/
def okD (n : Nat) (d : TL.D) : Prop := d.py.canLay0 = true ∧ d.py.depth ≤ n
theorem okD.shp {n : Nat} {d : TL.D} (h : okD n d) (hn : n ≤ 64) : d.shp = true := by
  unfold TL.D.shp SeqAt.shaped
  rw [h.1, Bool.true_and]
  exact decide_eq_true (Nat.le_trans h.2 hn)
theorem okD.mono {n m : Nat} {d : TL.D} (h : okD n d) (hn : n ≤ m) : okD m d := ⟨h.1, Nat.le_trans h.2 hn⟩
theorem okD_int (n : Nat) (i : Int) : okD n (.int i) := ⟨rfl, Nat.zero_le _⟩
theorem okD_non (n : Nat) : okD n .non := ⟨rfl, Nat.zero_le _⟩
theorem okD_str (n : Nat) {x : Str} (h : PyData.strOk x = true) : okD n (.str x) := ⟨h, Nat.zero_le _⟩
theorem okD_tup {n : Nat} : ∀ {ds : List TL.D}, (∀ d ∈ ds, okD n d) → okD (n + 1) (.tup ds) := by
  intro ds h
  have h' : ∀ (ds : List TL.D), (∀ d ∈ ds, okD n d) → PyData.canLayAll0 (pys ds) = true ∧ PyData.depthAll (pys ds) ≤ n := by
    intro ds
    induction ds with
    | nil => intro _; exact ⟨rfl, Nat.zero_le _⟩
    | cons d ds ih =>
      intro h
      have a := h d (List.mem_cons_self ..)
      have b := ih fun x hx => h x (List.mem_cons_of_mem _ hx)
      simp only [pys, PyData.canLayAll0, PyData.depthAll]
      exact ⟨by rw [a.1, b.1]; rfl, Nat.max_le.mpr ⟨a.2, b.2⟩⟩
  have z := h' ds h
  unfold okD
  simp only [TL.D.py, PyData.canLay0, PyData.depth]
  exact ⟨z.1, by omega⟩
theorem okD_lst {n : Nat} {ds : List TL.D} (h : ∀ d ∈ ds, okD n d) : okD (n + 1) (.lst ds) := by
  have z := okD_tup h
  unfold okD at z ⊢
  simp only [TL.D.py, PyData.canLay0, PyData.depth] at z ⊢
  exact z
theorem okD_tup_nil (n : Nat) : okD n.succ (.tup []) := okD_tup (fun _ h => nomatch h)
theorem okD.eqv_refl {n : Nat} {d : TL.D} (h : okD n d) : d.eqv d = true := SeqAt.eqv_refl _ h.1
theorem okD.own {n : Nat} {d : TL.D} (h : okD n d) : d.own = false := by
  cases d <;> first | rfl | (have := h.1; simp [TL.D.py, PyData.canLay0] at this)
theorem dEq_ok {n m : Nat} {a b : TL.D} (h : okD n a) (k : okD m b) (hn : n ≤ 64) (hm : m ≤ 64) : dEq a b = some (.bl (a.eqv b)) := by
  unfold dEq
  rw [h.shp hn, k.shp hm]
  rfl
theorem dNe_ok {n m : Nat} {a b : TL.D} (h : okD n a) (k : okD m b) (hn : n ≤ 64) (hm : m ≤ 64) : dNe a b = some (.bl (!a.eqv b)) := by
  unfold dNe
  rw [h.shp hn, k.shp hm]
  rfl
/-- a comprehension whose parts are quiet -/
theorem lcGo_map {bnd : TL.D → Option Env} {c e : Env → Sto → R TL.D} {st : Sto} {p : TL.D → Bool} {g : TL.D → TL.D} : ∀ {xs : List TL.D}, (∀ x ∈ xs, ∃ ρ, bnd x = some ρ ∧ c ρ st = .ok (.bl (p x)) st ∧ (p x = true → e ρ st = .ok (g x) st ∧ (g x).own = false)) → lcGo bnd c e xs st = .ok ((xs.filter p).map g) st := by
  intro xs
  induction xs with
  | nil => intro _; rfl
  | cons x xs ih =>
    intro h
    obtain ⟨ρ, h1, h2, h3⟩ := h x (List.mem_cons_self ..)
    have ih := ih fun y hy => h y (List.mem_cons_of_mem _ hy)
    unfold lcGo
    simp only [h1, h2, R.bind]
    cases hp : p x with
    | true =>
      obtain ⟨h3, h4⟩ := h3 hp
      simp only [h3, h4, ih, List.filter_cons, hp, if_true, List.map_cons, Bool.false_eq_true, if_false]
    | false => simp only [ih, List.filter_cons, hp, Bool.false_eq_true, if_false]
/-- a comprehension that asks nothing -/
theorem lcGo_all {bnd : TL.D → Option Env} {c e : Env → Sto → R TL.D} {st : Sto} {g : TL.D → TL.D} {xs : List TL.D} (h : ∀ x ∈ xs, ∃ ρ, bnd x = some ρ ∧ c ρ st = .ok (.bl true) st ∧ e ρ st = .ok (g x) st ∧ (g x).own = false) : lcGo bnd c e xs st = .ok (xs.map g) st := by
  have z := lcGo_map (bnd := bnd) (c := c) (e := e) (st := st) (p := fun _ => true) (g := g) (xs := xs) fun x hx => by
    obtain ⟨ρ, a, b, d⟩ := h x hx
    exact ⟨ρ, a, b, fun _ => d⟩
  rw [z, List.filter_eq_self.mpr fun _ _ => rfl]
theorem lcGo_ex {bnd : TL.D → Option Env} {c e : Env → Sto → R TL.D} {st : Sto} {P : TL.D → Prop} : ∀ {xs : List TL.D}, (∀ x ∈ xs, ∃ ρ d, bnd x = some ρ ∧ c ρ st = .ok (.bl true) st ∧ e ρ st = .ok d st ∧ d.own = false ∧ P d) →
    ∃ ds, lcGo bnd c e xs st = .ok ds st ∧ ds.length = xs.length ∧ ∀ d ∈ ds, P d := by
  intro xs
  induction xs with
  | nil => intro _; exact ⟨[], rfl, rfl, fun _ h => nomatch h⟩
  | cons x xs ih =>
    intro h
    obtain ⟨ρ, d, h1, h2, h3, h4, h5⟩ := h x (List.mem_cons_self ..)
    obtain ⟨ds, e1, e2, e3⟩ := ih fun y hy => h y (List.mem_cons_of_mem _ hy)
    refine ⟨d :: ds, ?_, by rw [List.length_cons, List.length_cons, e2], fun y hy => ?_⟩
    · unfold lcGo
      simp only [h1, h2, R.bind, h3, h4, e1, Bool.false_eq_true, if_false]
    · rcases List.mem_cons.mp hy with rfl | hy
      · exact h5
      · exact e3 y hy
/-- a for that only goes through -/
theorem forGo_inv {bnd : TL.D → Env → Option Env} {b : Env → Sto → Fl} {st : Sto} {I : List TL.D → Env → Prop} {Q : Fl → Prop} : ∀ (xs : List TL.D) {ρ : Env}, I xs ρ → (∀ ρ, I [] ρ → Q (.nx ρ st)) →
    (∀ x xs ρ, I (x :: xs) ρ → ∃ ρ1, bnd x ρ = some ρ1 ∧ ((∃ ρ2, b ρ1 st = .nx ρ2 st ∧ I xs ρ2) ∨ (∃ d, b ρ1 st = .rt d st ∧ Q (.rt d st)))) → Q (forGo bnd b xs ρ st)
  | [], ρ, h, e, _ => e ρ h
  | x :: xs, ρ, h, e, s => by
    obtain ⟨ρ1, h1, h2⟩ := s x xs ρ h
    unfold forGo
    rw [h1]
    rcases h2 with ⟨ρ2, h2, h3⟩ | ⟨d, h2, h3⟩
    · simp only [h2, Fl.seq]
      exact forGo_inv xs h3 e s
    · simp only [h2, Fl.seq]
      exact h3
@[simp] theorem str_inj (x y : String) : (Str.ofString x = Str.ofString y) = (x = y) := by
  apply propext
  constructor
  · intro h
    rw [Str.ofString_eq_toList, Str.ofString_eq_toList] at h
    have h : x.toList.map Char.toNat = y.toList.map Char.toNat := by
      have := congrArg (fun s : Str => s.cps.toList) h
      simpa using this
    have h2 : x.toList = y.toList := by
      have inj : ∀ a b : Char, a.toNat = b.toNat → a = b := fun a b e => Char.ext (UInt32.toNat_inj.mp e)
      have : ∀ (l m : List Char), l.map Char.toNat = m.map Char.toNat → l = m := by
        intro l
        induction l with
        | nil => intro m e; cases m with
          | nil => rfl
          | cons _ _ => cases e
        | cons a l ih => intro m e; cases m with
          | nil => cases e
          | cons b m =>
            simp only [List.map_cons, List.cons.injEq] at e
            rw [inj a b e.1, ih m e.2]
      exact this _ _ h
    exact String.toList_inj.mp h2
  · intro h
    rw [h]
/-- loops over code: named, so that simp leaves them alone -/
def lcE (C : Cal) (elt : E) (tg : T) (own : List Nat) (cond : List E) (xs : List TL.D) (ρ : TL.Env) (st : Sto) : R (List TL.D) := lcGo (fun x => bindT tg x (wipeE ρ own)) (fun ρ st => evAnd1 C cond ρ st) (fun ρ st => ev C elt ρ st) xs st
def forE (C : Cal) (tg : T) (body : List S) (xs : List TL.D) (ρ : TL.Env) (st : Sto) : Fl := forGo (bindT tg) (fun ρ st => execs C body ρ st) xs ρ st
def whileE (C : Cal) (c : E) (body : List S) (n : Nat) (ρ : TL.Env) (st : Sto) : Fl := whileGo (fun ρ st => ev C c ρ st) (fun ρ st => execs C body ρ st) n ρ st
def ropt {α β : Type} (o : Option α) (f : α → R β) : R β := match o with
  | none => .fail
  | some a => f a
def fopt {α : Type} (o : Option α) (f : α → Fl) : Fl := match o with
  | none => .fail
  | some a => f a
def kTup (ds : List TL.D) (st : List TL.D) : R TL.D := .ok (.tup ds) st
def kLst (ds : List TL.D) (st : List TL.D) : R TL.D := .ok (.lst ds) st
def kO1 (o : O1) (d : TL.D) (st : List TL.D) : R TL.D := R.lift st (o1 o d)
def kO2b (o : O2) (x y : TL.D) (st : List TL.D) : R TL.D := R.lift st (o2 o x y)
def kO2 (C : Cal) (o : O2) (b : E) (ρ : TL.Env) (x : TL.D) (st : List TL.D) : R TL.D := (ev C b ρ st).bind (kO2b o x)
def kNot (k : Bool) (st : List TL.D) : R TL.D := .ok (.bl (!k)) st
def kIf (C : Cal) (a b : E) (ρ : TL.Env) (k : Bool) (st : List TL.D) : R TL.D := if k then ev C a ρ st else ev C b ρ st
def kSl5 (d : TL.D) (l h : Option Int) (st : List TL.D) : R TL.D := R.lift st (dCut d l h)
def kSl4 (d : TL.D) (l : Option Int) (h : List TL.D) (st : List TL.D) : R TL.D := (R.lift st (optI h)).bind (kSl5 d l)
def kSl3 (C : Cal) (hi : List E) (ρ : TL.Env) (d : TL.D) (l : Option Int) (st : List TL.D) : R TL.D := (evs C hi ρ st).bind (kSl4 d l)
def kSl2 (C : Cal) (hi : List E) (ρ : TL.Env) (d : TL.D) (l : List TL.D) (st : List TL.D) : R TL.D := (R.lift st (optI l)).bind (kSl3 C hi ρ d)
def kSl1 (C : Cal) (lo hi : List E) (ρ : TL.Env) (d : TL.D) (st : List TL.D) : R TL.D := (evs C lo ρ st).bind (kSl2 C hi ρ d)
def kAnd (C : Cal) (es : List E) (ρ : TL.Env) (k : Bool) (st : List TL.D) : R TL.D := if k then evAnd C es ρ st else .ok (.bl false) st
def kOr (C : Cal) (es : List E) (ρ : TL.Env) (k : Bool) (st : List TL.D) : R TL.D := if k then .ok (.bl true) st else evOr C es ρ st
def kEsb (d : TL.D) (ds : List TL.D) (st : List TL.D) : R (List TL.D) := .ok (d :: ds) st
def kEs (C : Cal) (es : List E) (ρ : TL.Env) (d : TL.D) (st : List TL.D) : R (List TL.D) := (evs C es ρ st).bind (kEsb d)
def kSm (C : Cal) (o : O2) (b : E) (ρ : TL.Env) (x : TL.D) (st : List TL.D) : R TL.D := match x with
  | .str x => (ev C b ρ st).bind (kO2b o (.str x))
  | _ => .fail
def kCh3 (C : Cal) (o : O2) (c : E) (ρ : TL.Env) (y : TL.D) (k : Bool) (st : List TL.D) : R TL.D := if k then (ev C c ρ st).bind (kO2b o y) else .ok (.bl false) st
def kCh2 (C : Cal) (o o' : O2) (c : E) (ρ : TL.Env) (x y : TL.D) (st : List TL.D) : R TL.D := (R.lift st (o2 o x y)).bool (kCh3 C o' c ρ y)
def kCh1 (C : Cal) (o o' : O2) (b c : E) (ρ : TL.Env) (x : TL.D) (st : List TL.D) : R TL.D := (ev C b ρ st).bind (kCh2 C o o' c ρ x)
def kLc2 (C : Cal) (elt : E) (tg : T) (cond : List E) (own : List Nat) (ρ : TL.Env) (st : List TL.D) (xs : List TL.D) : R TL.D := ((lcE C elt tg own cond xs ρ st).quiet).bind kLst
def kLc (C : Cal) (elt : E) (tg : T) (ik : IK) (cond : List E) (own : List Nat) (ρ : TL.Env) (ds : List TL.D) (st : List TL.D) : R TL.D := ropt (items ik ds) (kLc2 C elt tg cond own ρ st)
def kDic (ks : List Str) (ds : List TL.D) (st : List TL.D) : R TL.D := .ok (.dic (ks.zip ds)) st
def kDg3 (kvs : List (Str × TL.D)) (y z : TL.D) (st : List TL.D) : R TL.D := R.lift st (dGet kvs y z)
def kDg2 (C : Cal) (d : E) (ρ : TL.Env) (kvs : List (Str × TL.D)) (y : TL.D) (st : List TL.D) : R TL.D := (ev C d ρ st).bind (kDg3 kvs y)
def kDg1 (C : Cal) (k d : E) (ρ : TL.Env) (x : TL.D) (st : List TL.D) : R TL.D := match x with
  | .dic kvs => (ev C k ρ st).bind (kDg2 C d ρ kvs)
  | _ => .fail
def kSet (i : Nat) (ρ : TL.Env) (d : TL.D) (st : List TL.D) : Fl := if d.own then .fail else .nx (ρ.set i (some d)) st
def kOwn (i : Nat) (ρ : TL.Env) (ds : List TL.D) (st : List TL.D) : Fl := .nx (ρ.set i (some (.mlst ds))) st
def kNx (st : List TL.D) (ρ : TL.Env) : Fl := .nx ρ st
def kUnp (is : List Nat) (ρ : TL.Env) (d : TL.D) (st : List TL.D) : Fl := fopt (bindT (.tp is) d ρ) (kNx st)
def kIfs (C : Cal) (a b : List S) (ρ : TL.Env) (d : TL.D) (st : List TL.D) : Fl := match d with
  | .bl k => if k then execs C a ρ st else execs C b ρ st
  | _ => .fail
def kRet (d : TL.D) (st : List TL.D) : Fl := if d.own then .fail else .rt d st
def kEx (ρ : TL.Env) (d : TL.D) (st : List TL.D) : Fl := .nx ρ st
def kFor2 (C : Cal) (tg : T) (body : List S) (ρ : TL.Env) (st : List TL.D) (xs : List TL.D) : Fl := forE C tg body xs ρ st
def kFor (C : Cal) (tg : T) (ik : IK) (body : List S) (ρ : TL.Env) (ds : List TL.D) (st : List TL.D) : Fl := fopt (items ik ds) (kFor2 C tg body ρ st)
def kApp2 (i : Nat) (ρ : TL.Env) (ds : List TL.D) (d : TL.D) (st : List TL.D) : Fl := if d.own then .fail else if ds.length < sizeLine then .nx (ρ.set i (some (.mlst (ds ++ [d])))) st else .fail
def kApp (C : Cal) (i : Nat) (e : E) (ρ : TL.Env) (st : List TL.D) (x : Option (Option TL.D)) : Fl := match x with
  | some (some (.mlst ds)) => Fl.of ρ (ev C e ρ st) (kApp2 i ρ ds)
  | _ => .fail
def kExt2 (i : Nat) (ρ : TL.Env) (ds : List TL.D) (d : TL.D) (st : List TL.D) : Fl := match d with
  | .lst es => if ds.length + es.length ≤ sizeLine then .nx (ρ.set i (some (.mlst (ds ++ es)))) st else .fail
  | .tup es => if ds.length + es.length ≤ sizeLine then .nx (ρ.set i (some (.mlst (ds ++ es)))) st else .fail
  | _ => .fail
def kExt (C : Cal) (i : Nat) (e : E) (ρ : TL.Env) (st : List TL.D) (x : Option (Option TL.D)) : Fl := match x with
  | some (some (.mlst ds)) => Fl.of ρ (ev C e ρ st) (kExt2 i ρ ds)
  | _ => .fail
def kIn2 (neg : Bool) (y : Option (Option TL.D)) (x : TL.D) (st : List TL.D) : R TL.D := match y with
  | some (some (.mlst ds)) => R.lift st ((inD x (.mlst ds)).map fun b => .bl (if neg then !b else b))
  | some (some (.mset ks)) => R.lift st ((inD x (.mset ks)).map fun b => .bl (if neg then !b else b))
  | _ => .fail
def kFrz (i : Nat) (ρ : TL.Env) (st : List TL.D) (x : Option (Option TL.D)) : Fl := match x with
  | some (some (.mlst ds)) => .nx (ρ.set i (some (.lst ds))) st
  | _ => .fail
section simps
variable {α β : Type} {C : Cal} {st : Sto} {ρ : TL.Env}
theorem itRng {k : Int} (h1 : 0 ≤ k) (h2 : k ≤ 100000) : items .rng [.int k] = some ((List.range k.toNat).map fun (i : Nat) => .int (i : Int)) := by
  simp only [items, Int.zero_add]
  rw [if_pos ⟨by omega, by unfold sizeLine; omega⟩]
theorem itRng2 {a k : Int} (h : 0 ≤ a) (h0 : a ≤ 100000) (h1 : 0 ≤ k) (h2 : k ≤ 100000) : items .rng [.int a, .int k] = some ((List.range (k - a).toNat).map fun (i : Nat) => .int (a + (i : Int))) := by
  simp only [items]
  rw [if_pos ⟨by omega, by omega, by omega, by omega, by unfold sizeLine; omega⟩]
@[simp] theorem itTup {ds : List TL.D} : items .tup [.tup ds] = some ds := rfl
@[simp] theorem itLst {ds : List TL.D} : items .lst [.lst ds] = some ds := rfl
@[simp] theorem itFls {ds : List TL.D} : items .fls [.fls ds] = some ds := rfl
@[simp] theorem itEnT {ds : List TL.D} : items .enumT [.tup ds] = some (ds.zipIdx.map fun p => .tup [.int (p.2 : Nat), p.1]) := rfl
@[simp] theorem itEnL {ds : List TL.D} : items .enumL [.lst ds] = some (ds.zipIdx.map fun p => .tup [.int (p.2 : Nat), p.1]) := rfl
@[simp] theorem ropt_some {a : α} {f : α → R β} : ropt (some a) f = f a := by unfold ropt; rfl
@[simp] theorem fopt_some {a : α} {f : α → Fl} : fopt (some a) f = f a := by unfold fopt; rfl
@[simp] theorem bind_ok {a : α} {f : α → List TL.D → R β} : (R.ok a st).bind f = f a st := by unfold R.bind; rfl
@[simp] theorem bind_exc {c : Nat} {f : α → List TL.D → R β} : (R.exc c st).bind f = .exc c st := rfl
@[simp] theorem bind_fail {f : α → List TL.D → R β} : (R.fail).bind f = .fail := rfl
@[simp] theorem bind_ite {p : Prop} [Decidable p] {a b : R α} {f : α → List TL.D → R β} : (if p then a else b).bind f = if p then a.bind f else b.bind f := by split <;> rfl
@[simp] theorem bool_ok {b : Bool} {f : Bool → List TL.D → R TL.D} : (R.ok (.bl b) st).bool f = f b st := by unfold R.bool; rfl
@[simp] theorem bool_exc {c : Nat} {f : Bool → List TL.D → R TL.D} : (R.exc c st).bool f = .exc c st := rfl
@[simp] theorem lift_some {a : α} : R.lift st (some a) = .ok a st := rfl
@[simp] theorem lift_none : R.lift st (none : Option α) = .fail := rfl
@[simp] theorem quiet_ok {a : α} : (R.ok a st).quiet = .ok a st := by unfold R.quiet; rfl
@[simp] theorem of_ok {a : TL.D} {f : TL.D → List TL.D → Fl} : Fl.of ρ (.ok a st) f = f a st := by unfold Fl.of; rfl
@[simp] theorem of_exc {c : Nat} {f : TL.D → List TL.D → Fl} : Fl.of ρ (.exc c st) f = .ex c ρ st := rfl
@[simp] theorem ofs_ok {a : List TL.D} {f : List TL.D → List TL.D → Fl} : Fl.ofs ρ (.ok a st) f = f a st := by unfold Fl.ofs; rfl
@[simp] theorem seq_nx {f : TL.Env → Sto → Fl} : (Fl.nx ρ st).seq f = f ρ st := by unfold Fl.seq; rfl
@[simp] theorem seq_rt {d : TL.D} {f : TL.Env → Sto → Fl} : (Fl.rt d st).seq f = .rt d st := by unfold Fl.seq; rfl
@[simp] theorem seq_ex {c : Nat} {f : TL.Env → Sto → Fl} : (Fl.ex c ρ st).seq f = .ex c ρ st := rfl
@[simp] theorem seq_ite {p : Prop} [Decidable p] {a b : Fl} {f : TL.Env → Sto → Fl} : (if p then a else b).seq f = if p then a.seq f else b.seq f := by split <;> rfl
@[simp] theorem fin_nx : finish (.nx ρ st) = .ok .non st := rfl
@[simp] theorem fin_rt {d : TL.D} : finish (.rt d st) = .ok d st := rfl
@[simp] theorem fin_ex {c : Nat} : finish (.ex c ρ st) = .exc c st := rfl
@[simp] theorem fin_ite {p : Prop} [Decidable p] {a b : Fl} : finish (if p then a else b) = if p then finish a else finish b := by split <;> rfl
@[simp] theorem own_non : TL.D.non.own = false := rfl
@[simp] theorem own_bl {b : Bool} : (TL.D.bl b).own = false := rfl
@[simp] theorem own_int {b : Int} : (TL.D.int b).own = false := rfl
@[simp] theorem own_str {b : Str} : (TL.D.str b).own = false := rfl
@[simp] theorem own_tup {b : List TL.D} : (TL.D.tup b).own = false := rfl
@[simp] theorem own_lst {b : List TL.D} : (TL.D.lst b).own = false := rfl
@[simp] theorem own_fls {b : List TL.D} : (TL.D.fls b).own = false := rfl
@[simp] theorem evv {i : Nat} : ev C (.var i) ρ st = match ρ[i]? with
    | some (some d) => if d.own then .fail else .ok d st
    | _ => .fail := by unfold ev; rfl
@[simp] theorem evc {d : TL.D} : ev C (.con d) ρ st = .ok d st := by unfold ev; rfl
@[simp] theorem evt {es : List E} : ev C (.tup es) ρ st = (evs C es ρ st).bind kTup := by rw [ev] <;> rfl
@[simp] theorem evl {es : List E} : ev C (.lst es) ρ st = (evs C es ρ st).bind kLst := by rw [ev] <;> rfl
@[simp] theorem ev1 {o : O1} {e : E} : ev C (.o1 o e) ρ st = (ev C e ρ st).bind (kO1 o) := by rw [ev] <;> rfl
@[simp] theorem ev2 {o : O2} {a b : E} : ev C (.o2 o a b) ρ st = (ev C a ρ st).bind (kO2 C o b ρ) := by rw [ev] <;> rfl
@[simp] theorem evn {e : E} : ev C (.not e) ρ st = (ev C e ρ st).bool kNot := by rw [ev] <;> rfl
@[simp] theorem evi {c a b : E} : ev C (.ife c a b) ρ st = (ev C c ρ st).bool (kIf C a b ρ) := by rw [ev] <;> rfl
@[simp] theorem evcall {f : Nat} {es : List E} : ev C (.call f es) ρ st = (evs C es ρ st).bind (C f) := by rw [ev] <;> rfl
@[simp] theorem evsl {e : E} {lo hi : List E} : ev C (.sl e lo hi) ρ st = (ev C e ρ st).bind (kSl1 C lo hi ρ) := by rw [ev] <;> rfl
@[simp] theorem evand {es : List E} : ev C (.and es) ρ st = evAnd C es ρ st := by rw [ev]
@[simp] theorem evor {es : List E} : ev C (.or es) ρ st = evOr C es ρ st := by rw [ev]
@[simp] theorem evA1 {e : E} : evAnd C [e] ρ st = ev C e ρ st := by rw [evAnd]
@[simp] theorem evA2 {e f : E} {es : List E} : evAnd C (e :: f :: es) ρ st = (ev C e ρ st).bool (kAnd C (f :: es) ρ) := by
  rw [evAnd]
  · rfl
  · intro h; cases h
@[simp] theorem evO1 {e : E} : evOr C [e] ρ st = ev C e ρ st := by rw [evOr]
@[simp] theorem evO2 {e f : E} {es : List E} : evOr C (e :: f :: es) ρ st = (ev C e ρ st).bool (kOr C (f :: es) ρ) := by
  rw [evOr]
  · rfl
  · intro h; cases h
@[simp] theorem evs0 : evs C [] ρ st = .ok [] st := by rw [evs]
@[simp] theorem evs1 {e : E} {es : List E} : evs C (e :: es) ρ st = (ev C e ρ st).bind (kEs C es ρ) := by rw [evs] <;> rfl
@[simp] theorem evA10 : evAnd1 C [] ρ st = .ok (.bl true) st := by rw [evAnd1]
@[simp] theorem evA11 {e : E} {es : List E} : evAnd1 C (e :: es) ρ st = ev C e ρ st := by rw [evAnd1]
@[simp] theorem evsm {o : O2} {a b : E} : ev C (.sm o a b) ρ st = (ev C a ρ st).bind (kSm C o b ρ) := by
  rw [ev] <;> first | rfl | (congr 1; done) | (congr 1; funext x st; cases x <;> rfl)
@[simp] theorem evch {o o' : O2} {a b c : E} : ev C (.chain o o' a b c) ρ st = (ev C a ρ st).bind (kCh1 C o o' b c ρ) := by rw [ev] <;> rfl
@[simp] theorem evlc {elt : E} {tg : T} {ik : IK} {ie cond : List E} {own : List Nat} : ev C (.lc elt tg ik ie cond own) ρ st = (evs C ie ρ st).bind (kLc C elt tg ik cond own ρ) := by
  rw [ev]
  congr 1
  funext ds st
  unfold kLc ropt kLc2 lcE
  split <;> rename_i h <;> first | rfl | (simp only [h]; done) | (simp only [h]; rfl)
@[simp] theorem ex0 : execs C [] ρ st = .nx ρ st := by rw [execs]
@[simp] theorem ex1 {s : S} {ss : List S} : execs C (s :: ss) ρ st = (exec C s ρ st).seq (execs C ss) := by rw [execs]
@[simp] theorem exset {i : Nat} {e : E} : exec C (.set i e) ρ st = Fl.of ρ (ev C e ρ st) (kSet i ρ) := by rw [exec] <;> rfl
@[simp] theorem exown {i : Nat} {es : List E} : exec C (.own i es) ρ st = Fl.ofs ρ (evs C es ρ st) (kOwn i ρ) := by rw [exec] <;> rfl
@[simp] theorem exunp {is : List Nat} {e : E} : exec C (.unpack is e) ρ st = Fl.of ρ (ev C e ρ st) (kUnp is ρ) := by
  rw [exec]
  congr 1
  funext ds st
  unfold kUnp fopt kNx
  split <;> rename_i h <;> first | rfl | (simp only [h]; done) | (simp only [h]; rfl)
@[simp] theorem exifs {c : E} {a b : List S} : exec C (.ifs c a b) ρ st = Fl.of ρ (ev C c ρ st) (kIfs C a b ρ) := by
  rw [exec] <;> first | rfl | (congr 1; done) | (congr 1; funext x st; cases x <;> rfl)
@[simp] theorem exret {e : E} : exec C (.ret e) ρ st = Fl.of ρ (ev C e ρ st) kRet := by rw [exec] <;> rfl
@[simp] theorem exretN : exec C .retN ρ st = .rt .non st := by rw [exec]
@[simp] theorem exexpr {e : E} : exec C (.expr e) ρ st = Fl.of ρ (ev C e ρ st) (kEx ρ) := by rw [exec] <;> rfl
@[simp] theorem exfor {tg : T} {ik : IK} {ie : List E} {body : List S} : exec C (.for tg ik ie body) ρ st = Fl.ofs ρ (evs C ie ρ st) (kFor C tg ik body ρ) := by
  rw [exec]
  congr 1
  funext ds st
  unfold kFor fopt kFor2 forE
  split <;> rename_i h <;> first | rfl | (simp only [h]; done) | (simp only [h]; rfl)
@[simp] theorem exwhile {c : E} {body : List S} : exec C (.while c body) ρ st = whileE C c body FU ρ st := by unfold whileE; rw [exec]
@[simp] theorem exapp {i : Nat} {e : E} : exec C (.app i e) ρ st = kApp C i e ρ st ρ[i]? := by
  rw [exec]
  unfold kApp
  split <;> rename_i h <;> first | rfl | (simp only [h]; done) | (simp only [h]; rfl)
@[simp] theorem exfrz {i : Nat} : exec C (.freeze i) ρ st = kFrz i ρ st ρ[i]? := by
  rw [exec]
  unfold kFrz
  split <;> rename_i h <;> first | rfl | (simp only [h]; done) | (simp only [h]; rfl)
@[simp] theorem evdic {ks : List Str} {es : List E} : ev C (.dic ks es) ρ st = (evs C es ρ st).bind (kDic ks) := by rw [ev] <;> rfl
@[simp] theorem evdget {e k d : E} : ev C (.dget e k d) ρ st = (ev C e ρ st).bind (kDg1 C k d ρ) := by
  rw [ev] <;> first | rfl | (congr 1; done) | (congr 1; funext x st; cases x <;> rfl)
@[simp] theorem k_Dic {ks : List Str} {ds : List TL.D} : kDic ks ds st = .ok (.dic (ks.zip ds)) st := by unfold kDic; rfl
@[simp] theorem k_Dg1 {k d : E} {kvs : List (Str × TL.D)} : kDg1 C k d ρ (.dic kvs) st = (ev C k ρ st).bind (kDg2 C d ρ kvs) := by unfold kDg1; rfl
@[simp] theorem k_Dg2 {d : E} {kvs : List (Str × TL.D)} {y : TL.D} : kDg2 C d ρ kvs y st = (ev C d ρ st).bind (kDg3 kvs y) := by unfold kDg2; rfl
@[simp] theorem k_Dg3 {kvs : List (Str × TL.D)} {y z : TL.D} : kDg3 kvs y z st = R.lift st (dGet kvs y z) := by unfold kDg3; rfl
@[simp] theorem own_dic {kvs : List (Str × TL.D)} : (TL.D.dic kvs).own = false := rfl
@[simp] theorem exext {i : Nat} {e : E} : exec C (.ext i e) ρ st = kExt C i e ρ st ρ[i]? := by
  rw [exec]
  unfold kExt
  split <;> rename_i h <;> first | rfl | (simp only [h]; done) | (simp only [h]; rfl) | (simp only [h]; congr 1; funext d st; cases d <;> rfl)
@[simp] theorem evin {neg : Bool} {e : E} {i : Nat} : ev C (.inOwn neg e i) ρ st = (ev C e ρ st).bind (kIn2 neg ρ[i]?) := by
  rw [ev] <;> first | rfl | (congr 1; done) | (congr 1; funext x st; unfold kIn2; split <;> rename_i h <;> first | rfl | (simp only [h]; done) | (simp only [h]; rfl))
@[simp] theorem k_Ext2 {i : Nat} {ds es : List TL.D} : kExt2 i ρ ds (.lst es) st = if ds.length + es.length ≤ sizeLine then .nx (ρ.set i (some (.mlst (ds ++ es)))) st else .fail := by unfold kExt2; rfl
@[simp] theorem k_Ext {i : Nat} {e : E} {ds : List TL.D} : kExt C i e ρ st (some (some (.mlst ds))) = Fl.of ρ (ev C e ρ st) (kExt2 i ρ ds) := by unfold kExt; rfl
@[simp] theorem k_In2 {neg : Bool} {x : TL.D} {ds : List TL.D} : kIn2 neg (some (some (.mlst ds))) x st = R.lift st ((inD x (.mlst ds)).map fun b => .bl (if neg then !b else b)) := by unfold kIn2; rfl
@[simp] theorem k_Tup {ds : List TL.D} : kTup ds st = .ok (.tup ds) st := rfl
@[simp] theorem k_Lst {ds : List TL.D} : kLst ds st = .ok (.lst ds) st := rfl
@[simp] theorem k_O1 {o : O1} {d : TL.D} : kO1 o d st = R.lift st (o1 o d) := rfl
@[simp] theorem k_O2b {o : O2} {x y : TL.D} : kO2b o x y st = R.lift st (o2 o x y) := rfl
@[simp] theorem k_O2 {o : O2} {b : E} {x : TL.D} : kO2 C o b ρ x st = (ev C b ρ st).bind (kO2b o x) := rfl
@[simp] theorem k_Not {k : Bool} : kNot k st = .ok (.bl (!k)) st := rfl
@[simp] theorem k_If {a b : E} {k : Bool} : kIf C a b ρ k st = if k then ev C a ρ st else ev C b ρ st := rfl
@[simp] theorem k_Sl5 {d : TL.D} {l h : Option Int} : kSl5 d l h st = R.lift st (dCut d l h) := rfl
@[simp] theorem k_Sl4 {d : TL.D} {l : Option Int} {h : List TL.D} : kSl4 d l h st = (R.lift st (optI h)).bind (kSl5 d l) := rfl
@[simp] theorem k_Sl3 {hi : List E} {d : TL.D} {l : Option Int} : kSl3 C hi ρ d l st = (evs C hi ρ st).bind (kSl4 d l) := rfl
@[simp] theorem k_Sl2 {hi : List E} {d : TL.D} {l : List TL.D} : kSl2 C hi ρ d l st = (R.lift st (optI l)).bind (kSl3 C hi ρ d) := rfl
@[simp] theorem k_Sl1 {lo hi : List E} {d : TL.D} : kSl1 C lo hi ρ d st = (evs C lo ρ st).bind (kSl2 C hi ρ d) := rfl
@[simp] theorem k_And {es : List E} {k : Bool} : kAnd C es ρ k st = if k then evAnd C es ρ st else .ok (.bl false) st := rfl
@[simp] theorem k_Or {es : List E} {k : Bool} : kOr C es ρ k st = if k then .ok (.bl true) st else evOr C es ρ st := rfl
@[simp] theorem k_Esb {d : TL.D} {ds : List TL.D} : kEsb d ds st = .ok (d :: ds) st := rfl
@[simp] theorem k_Es {es : List E} {d : TL.D} : kEs C es ρ d st = (evs C es ρ st).bind (kEsb d) := rfl
@[simp] theorem k_Sm {o : O2} {b : E} {x : Str} : kSm C o b ρ (.str x) st = (ev C b ρ st).bind (kO2b o (.str x)) := rfl
@[simp] theorem k_Ch3 {o : O2} {c : E} {y : TL.D} {k : Bool} : kCh3 C o c ρ y k st = if k then (ev C c ρ st).bind (kO2b o y) else .ok (.bl false) st := rfl
@[simp] theorem k_Ch2 {o o' : O2} {c : E} {x y : TL.D} : kCh2 C o o' c ρ x y st = (R.lift st (o2 o x y)).bool (kCh3 C o' c ρ y) := rfl
@[simp] theorem k_Ch1 {o o' : O2} {b c : E} {x : TL.D} : kCh1 C o o' b c ρ x st = (ev C b ρ st).bind (kCh2 C o o' c ρ x) := rfl
@[simp] theorem k_Lc2 {elt : E} {tg : T} {cond : List E} {own : List Nat} {xs : List TL.D} : kLc2 C elt tg cond own ρ st xs = ((lcE C elt tg own cond xs ρ st).quiet).bind kLst := rfl
@[simp] theorem k_Lc {elt : E} {tg : T} {ik : IK} {cond : List E} {own : List Nat} {ds : List TL.D} : kLc C elt tg ik cond own ρ ds st = ropt (items ik ds) (kLc2 C elt tg cond own ρ st) := by rw [kLc]
@[simp] theorem k_Set {i : Nat} {d : TL.D} : kSet i ρ d st = if d.own then .fail else .nx (ρ.set i (some d)) st := rfl
@[simp] theorem k_Own {i : Nat} {ds : List TL.D} : kOwn i ρ ds st = .nx (ρ.set i (some (.mlst ds))) st := rfl
@[simp] theorem k_Nx : kNx st ρ = .nx ρ st := rfl
@[simp] theorem k_Unp {is : List Nat} {d : TL.D} : kUnp is ρ d st = fopt (bindT (.tp is) d ρ) (kNx st) := rfl
@[simp] theorem k_Ifs {a b : List S} {k : Bool} : kIfs C a b ρ (.bl k) st = if k then execs C a ρ st else execs C b ρ st := rfl
@[simp] theorem k_Ret {d : TL.D} : kRet d st = if d.own then .fail else .rt d st := rfl
@[simp] theorem k_Ex {d : TL.D} : kEx ρ d st = .nx ρ st := rfl
@[simp] theorem k_For2 {tg : T} {body : List S} {xs : List TL.D} : kFor2 C tg body ρ st xs = forE C tg body xs ρ st := rfl
@[simp] theorem k_For {tg : T} {ik : IK} {body : List S} {ds : List TL.D} : kFor C tg ik body ρ ds st = fopt (items ik ds) (kFor2 C tg body ρ st) := by rw [kFor]
@[simp] theorem k_App2 {i : Nat} {ds : List TL.D} {d : TL.D} : kApp2 i ρ ds d st = if d.own then .fail else if ds.length < sizeLine then .nx (ρ.set i (some (.mlst (ds ++ [d])))) st else .fail := rfl
@[simp] theorem k_App {i : Nat} {e : E} {ds : List TL.D} : kApp C i e ρ st (some (some (.mlst ds))) = Fl.of ρ (ev C e ρ st) (kApp2 i ρ ds) := rfl
@[simp] theorem k_Frz {i : Nat} {ds : List TL.D} : kFrz i ρ st (some (some (.mlst ds))) = .nx (ρ.set i (some (.lst ds))) st := rfl
@[simp] theorem atI0 {x : α} {xs : List α} : atI (x :: xs) 0 = some x := by
  unfold atI ixN
  simp
@[simp] theorem atI1 {x y : α} {xs : List α} : atI (x :: y :: xs) 1 = some y := by
  unfold atI ixN
  have : ((1 : Int) < ((xs.length : Int) + 1 + 1)) := by omega
  simp [this]
@[simp] theorem atI2 {x y z : α} {xs : List α} : atI (x :: y :: z :: xs) 2 = some z := by
  unfold atI ixN
  have : ((2 : Int) < ((xs.length : Int) + 1 + 1 + 1)) := by omega
  simp [this]
theorem atI_nat {xs : List α} {k : Int} {x : α} (h : 0 ≤ k) (e : xs[k.toNat]? = some x) : atI xs k = some x := by
  have hl : k.toNat < xs.length := (List.getElem?_eq_some_iff.mp e).1
  unfold atI ixN
  rw [if_pos h, if_pos (by omega)]
  exact e
@[simp] theorem oIx {xs : List TL.D} {i : Int} : o2 .ix (.tup xs) (.int i) = atI xs i := rfl
@[simp] theorem oIxl {xs : List TL.D} {i : Int} : o2 .ix (.lst xs) (.int i) = atI xs i := rfl
@[simp] theorem oIxf {xs : List TL.D} {i : Int} : o2 .ix (.fls xs) (.int i) = atI xs i := rfl
@[simp] theorem oAdd {i j : Int} : o2 .add (.int i) (.int j) = some (.int (i + j)) := rfl
@[simp] theorem oSub {i j : Int} : o2 .sub (.int i) (.int j) = some (.int (i - j)) := rfl
@[simp] theorem oLt {i j : Int} : o2 .lt (.int i) (.int j) = some (.bl (decide (i < j))) := rfl
@[simp] theorem oGt {i j : Int} : o2 .gt (.int i) (.int j) = some (.bl (decide (j < i))) := rfl
@[simp] theorem oLe {i j : Int} : o2 .le (.int i) (.int j) = some (.bl (decide (i ≤ j))) := rfl
@[simp] theorem oGe {i j : Int} : o2 .ge (.int i) (.int j) = some (.bl (decide (j ≤ i))) := rfl
@[simp] theorem oEq {a b : TL.D} : o2 .eq a b = dEq a b := rfl
@[simp] theorem oNe {a b : TL.D} : o2 .ne a b = dNe a b := rfl
@[simp] theorem oIn {a b : TL.D} : o2 .isIn a b = dIn a b := rfl
@[simp] theorem oNotIn {a b : TL.D} : o2 .notIn a b = dNotIn a b := rfl
@[simp] theorem dEqi {i j : Int} : dEq (.int i) (.int j) = some (.bl (decide (i = j))) := by
  rw [dEq_ok (okD_int 0 i) (okD_int 0 j) (by decide) (by decide), eqv_int]
@[simp] theorem dNei {i j : Int} : dNe (.int i) (.int j) = some (.bl (!decide (i = j))) := by
  rw [dNe_ok (okD_int 0 i) (okD_int 0 j) (by decide) (by decide), eqv_int]
theorem dEqs {x y : Str} (h : PyData.strOk x = true) (k : PyData.strOk y = true) : dEq (.str x) (.str y) = some (.bl (decide (x = y))) := by
  rw [dEq_ok (okD_str 0 h) (okD_str 0 k) (by decide) (by decide), eqv_str]
theorem dNes {x y : Str} (h : PyData.strOk x = true) (k : PyData.strOk y = true) : dNe (.str x) (.str y) = some (.bl (!decide (x = y))) := by
  rw [dNe_ok (okD_str 0 h) (okD_str 0 k) (by decide) (by decide), eqv_str]
@[simp] theorem strOk_of (x : String) : PyData.strOk (Str.ofString x) = true := by
  rw [Str.ofString_eq_toList]
  unfold PyData.strOk
  rw [← Array.all_toList]
  simp only [List.all_eq_true, List.mem_map]
  rintro _ ⟨c, _, rfl⟩
  have := c.valid
  simp only [decide_eq_true_eq]
  rcases this with h | h
  · exact Nat.lt_trans h (by decide)
  · exact h.2
@[simp] theorem oLent {ds : List TL.D} : o1 .len (.tup ds) = some (.int ds.length) := rfl
@[simp] theorem oLenl {ds : List TL.D} : o1 .len (.lst ds) = some (.int ds.length) := rfl
@[simp] theorem oLenf {ds : List TL.D} : o1 .len (.fls ds) = some (.int ds.length) := rfl
@[simp] theorem oTupl {ds : List TL.D} : o1 .tuple (.lst ds) = some (.tup ds) := rfl
@[simp] theorem oLstt {ds : List TL.D} : o1 .list (.tup ds) = some (.lst ds) := rfl
@[simp] theorem oLstl {ds : List TL.D} : o1 .list (.lst ds) = some (.lst ds) := rfl
@[simp] theorem oInt {b : Bool} : o1 .int (.bl b) = some (.int (if b then 1 else 0)) := rfl
@[simp] theorem oIsS {x : Str} : o1 .isStr (.str x) = some (.bl true) := rfl
@[simp] theorem oIsT {x : List TL.D} : o1 .isStr (.tup x) = some (.bl false) := rfl
@[simp] theorem oNone : o1 .isNone .non = some (.bl true) := rfl
@[simp] theorem oNonei {i : Int} : o1 .isNone (.int i) = some (.bl false) := rfl
@[simp] theorem oNonet {i : List TL.D} : o1 .isNone (.tup i) = some (.bl false) := rfl
@[simp] theorem oNNone : o1 .notNone .non = some (.bl false) := rfl
@[simp] theorem oNNonei {i : Int} : o1 .notNone (.int i) = some (.bl true) := rfl
@[simp] theorem oNNonet {i : List TL.D} : o1 .notNone (.tup i) = some (.bl true) := rfl
theorem oMod {i j : Int} (h : 0 < j) : o2 .mod (.int i) (.int j) = some (.int (i % j)) := by
  show TL.dMod (.int i) (.int j) = _
  unfold TL.dMod
  simp only [h, if_true]
theorem oDiv {i j : Int} (h : 0 < j) (k : j < 1073741824) : o2 .div (.int i) (.int j) = some (.int (i / j)) := by
  show TL.dDiv (.int i) (.int j) = _
  unfold TL.dDiv
  simp only [h, k, and_self, if_true]
theorem oMul {i j : Int} (h : (-(2 ^ 64) < i ∧ i < 2 ^ 64) ∨ (-(2 ^ 64) < j ∧ j < 2 ^ 64)) : o2 .mul (.int i) (.int j) = some (.int (i * j)) := by
  show TL.dMul (.int i) (.int j) = _
  unfold TL.dMul
  simp only [h, if_true]
theorem lcE_ex {elt : E} {tg : T} {own : List Nat} {cond : List E} {P : TL.D → Prop} {xs : List TL.D} (h : ∀ x ∈ xs, ∃ ρ' d, bindT tg x (wipeE ρ own) = some ρ' ∧ evAnd1 C cond ρ' st = .ok (.bl true) st ∧ ev C elt ρ' st = .ok d st ∧ d.own = false ∧ P d) :
    ∃ ds, lcE C elt tg own cond xs ρ st = .ok ds st ∧ ds.length = xs.length ∧ ∀ d ∈ ds, P d := lcGo_ex h
theorem lcE_map {elt : E} {tg : T} {own : List Nat} {cond : List E} {p : TL.D → Bool} {g : TL.D → TL.D} {xs : List TL.D} (h : ∀ x ∈ xs, ∃ ρ', bindT tg x (wipeE ρ own) = some ρ' ∧ evAnd1 C cond ρ' st = .ok (.bl (p x)) st ∧ (p x = true → ev C elt ρ' st = .ok (g x) st ∧ (g x).own = false)) :
    lcE C elt tg own cond xs ρ st = .ok ((xs.filter p).map g) st := lcGo_map h
theorem lcE_all {elt : E} {tg : T} {own : List Nat} {cond : List E} {g : TL.D → TL.D} {xs : List TL.D} (h : ∀ x ∈ xs, ∃ ρ', bindT tg x (wipeE ρ own) = some ρ' ∧ evAnd1 C cond ρ' st = .ok (.bl true) st ∧ ev C elt ρ' st = .ok (g x) st ∧ (g x).own = false) :
    lcE C elt tg own cond xs ρ st = .ok (xs.map g) st := lcGo_all h
theorem forE_nil {tg : T} {body : List S} : forE C tg body [] ρ st = .nx ρ st := rfl
theorem forE_cons {tg : T} {body : List S} {x : TL.D} {xs : List TL.D} {ρ1 : TL.Env} (h : bindT tg x ρ = some ρ1) : forE C tg body (x :: xs) ρ st = (execs C body ρ1 st).seq (forE C tg body xs) := by
  unfold forE
  rw [forGo, h]
/-- a call -/
theorem run_c {P : List Fn} {n f : Nat} {F : Fn} {ds : List TL.D} {st : Sto} (h : P[f]? = some F) (k : ds.length = F.np) : TL.run P (n+1) f ds st = TL.finish (TL.execs (TL.run P n) F.body (enter F ds) st) := by
  simp only [TL.run, h, k, if_true]
theorem cut_from {α : Type} (xs : List α) (k : Nat) : cutD xs (some (k : Int)) none = xs.drop k := by
  have e : HT.sIx xs.length 0 (some (k : Int)) = min k xs.length := by
    show (if (k : Int) < 0 then ((k : Int) + (xs.length : Int)).toNat else min (k : Int).toNat xs.length) = _
    rw [if_neg (by omega), Int.toNat_natCast]
  have e2 : HT.sIx xs.length xs.length none = xs.length := rfl
  unfold cutD
  rw [e, e2]
  by_cases h : k ≤ xs.length
  · rw [Nat.min_eq_left h]
    exact List.take_of_length_le (by simp)
  · rw [Nat.min_eq_right (by omega), List.drop_of_length_le (Nat.le_refl _), List.drop_of_length_le (by omega), List.take_nil]
theorem cut_to {α : Type} (xs : List α) (k : Nat) : cutD xs none (some (k : Int)) = xs.take k := by
  have e : HT.sIx xs.length xs.length (some (k : Int)) = min k xs.length := by
    show (if (k : Int) < 0 then ((k : Int) + (xs.length : Int)).toNat else min (k : Int).toNat xs.length) = _
    rw [if_neg (by omega), Int.toNat_natCast]
  have e2 : HT.sIx xs.length 0 none = 0 := rfl
  unfold cutD
  rw [e, e2, List.drop_zero, Nat.sub_zero]
  by_cases h : k ≤ xs.length
  · rw [Nat.min_eq_left h]
  · rw [Nat.min_eq_right (by omega), List.take_of_length_le (Nat.le_refl _), List.take_of_length_le (by omega)]
@[simp] theorem cutT {ds : List TL.D} {lo hi : Option Int} : dCut (.tup ds) lo hi = some (.tup (cutD ds lo hi)) := rfl
@[simp] theorem cutL {ds : List TL.D} {lo hi : Option Int} : dCut (.lst ds) lo hi = some (.lst (cutD ds lo hi)) := rfl
@[simp] theorem opt0 : optI [] = some none := rfl
@[simp] theorem opt1 {i : Int} : optI [.int i] = some (some i) := rfl
@[simp] theorem cut_from1 {α : Type} (x : α) (xs : List α) : cutD (x :: xs) (some 1) none = xs := cut_from (x :: xs) 1
theorem oAddl {a b : List TL.D} (h : a.length + b.length ≤ 100000) : o2 .add (.lst a) (.lst b) = some (.lst (a ++ b)) := by
  show TL.dAdd (.lst a) (.lst b) = _
  unfold TL.dAdd
  simp only
  rw [if_pos (by unfold sizeLine; omega)]
theorem oAddt {a b : List TL.D} (h : a.length + b.length ≤ 100000) : o2 .add (.tup a) (.tup b) = some (.tup (a ++ b)) := by
  show TL.dAdd (.tup a) (.tup b) = _
  unfold TL.dAdd
  simp only
  rw [if_pos (by unfold sizeLine; omega)]
@[simp] theorem bnm {i : Nat} {d : TL.D} : bindT (.nm i) d ρ = if d.own then none else some (ρ.set i (some d)) := rfl
@[simp] theorem btp {is : List Nat} {ds : List TL.D} : bindT (.tp is) (.tup ds) ρ = if ds.length = is.length then some (setAll is ds ρ) else none := rfl
@[simp] theorem sa0 {ds : List TL.D} : setAll [] ds ρ = ρ := by unfold setAll; rfl
@[simp] theorem sa1 {i : Nat} {is : List Nat} {d : TL.D} {ds : List TL.D} : setAll (i :: is) (d :: ds) ρ = setAll is ds (ρ.set i (some d)) := rfl
@[simp] theorem wi0 : wipeE ρ [] = ρ := rfl
@[simp] theorem wi1 {v : Nat} {vs : List Nat} : wipeE ρ (v :: vs) = (wipeE ρ vs).set v none := rfl
end simps
end TL

namespace TP
open TL
open PySem (Str PyData)
open L2 (atI)
theorem w__law_cell_at {N : Nat} (hN : 1 ≤ N) (s : List Int) (k : Nat) (st : Sto) : TL.run Pg N 7 [.fls (s.map .int), .int k] st = .ok (.int (s.getD k 0)) st := by
  obtain ⟨M, rfl⟩ : ∃ M, N = M + 1 := ⟨N - 1, by omega⟩
  rw [run_c (F := c__law_cell_at) rfl rfl]
  simp [c__law_cell_at, enter]
  split
  · next h =>
    rw [atI_nat (x := .int (s[k]'h)) (by omega) (by simp [h])]
    simp [h]
  · next h =>
    have : s[k]? = none := List.getElem?_eq_none (by omega)
    simp [this]
/-- what _law_mixed gives -/
def mixZ (s : List Int) (k : Nat) : Int := let h := (s.getD k 0 + 7919 * k + 1) * 48271 % 2147483647; (h * h + 7 * h + k) % 2147483629
theorem mixZ_nn (s : List Int) (k : Nat) : 0 ≤ mixZ s k := Int.emod_nonneg _ (by decide)
theorem w__law_mixed {N : Nat} (hN : 2 ≤ N) (s : List Int) (k : Nat) (st : Sto) : TL.run Pg N 8 [.fls (s.map .int), .int k] st = .ok (.int (mixZ s k)) st := by
  obtain ⟨M, rfl⟩ : ∃ M, N = M + 2 := ⟨N - 2, by omega⟩
  rw [run_c (F := c__law_mixed) rfl rfl]
  have a := w__law_cell_at (N := M+1) (by omega) s k
  have m1 := oMul (i := 7919) (j := k) (.inl (by decide))
  have m2 := oMul (i := s.getD k 0 + 7919 * k + 1) (j := 48271) (.inr (by decide))
  have r := oMod (i := (s.getD k 0 + 7919 * k + 1) * 48271) (j := 2147483647) (by decide)
  have hlo := Int.emod_nonneg ((s.getD k 0 + 7919 * k + 1) * 48271) (b := 2147483647) (by decide)
  have hhi := Int.emod_lt_of_pos ((s.getD k 0 + 7919 * k + 1) * 48271) (b := 2147483647) (by decide)
  show _ = R.ok (D.int ((((s.getD k 0 + 7919 * k + 1) * 48271 % 2147483647) * ((s.getD k 0 + 7919 * k + 1) * 48271 % 2147483647) + 7 * ((s.getD k 0 + 7919 * k + 1) * 48271 % 2147483647) + k) % 2147483629)) st
  generalize hz : s.getD k 0 = z at *
  generalize hh : (z + 7919 * (k : Int) + 1) * 48271 % 2147483647 = h at *
  have m3 := oMul (i := h) (j := h) (.inl (by omega))
  have m4 := oMul (i := 7) (j := h) (.inl (by decide))
  have r2 := oMod (i := h * h + 7 * h + k) (j := 2147483629) (by decide)
  simp [c__law_mixed, enter, a, m1, m2, m3, m4, r, r2]
def drawZ (z k : Int) : Int := let h := (z + 104729 * k + 17) * 69621 % 2147483647; (h * h + 3 * h + k) % 2147483629
theorem drawZ_nn (z k : Int) : 0 ≤ drawZ z k := Int.emod_nonneg _ (by decide)
theorem w__law_drawn {N : Nat} (hN : 1 ≤ N) (z k : Int) (st : Sto) : TL.run Pg N 9 [.int z, .int k] st = .ok (.int (drawZ z k)) st := by
  obtain ⟨M, rfl⟩ : ∃ M, N = M + 1 := ⟨N - 1, by omega⟩
  rw [run_c (F := c__law_drawn) rfl rfl]
  have m1 := oMul (i := 104729) (j := k) (.inl (by decide))
  have m2 := oMul (i := z + 104729 * k + 17) (j := 69621) (.inr (by decide))
  have r := oMod (i := (z + 104729 * k + 17) * 69621) (j := 2147483647) (by decide)
  have hlo := Int.emod_nonneg ((z + 104729 * k + 17) * 69621) (b := 2147483647) (by decide)
  have hhi := Int.emod_lt_of_pos ((z + 104729 * k + 17) * 69621) (b := 2147483647) (by decide)
  show _ = R.ok (D.int ((((z + 104729 * k + 17) * 69621 % 2147483647) * ((z + 104729 * k + 17) * 69621 % 2147483647) + 3 * ((z + 104729 * k + 17) * 69621 % 2147483647) + k) % 2147483629)) st
  generalize hh : (z + 104729 * k + 17) * 69621 % 2147483647 = h at *
  have m3 := oMul (i := h) (j := h) (.inl (by omega))
  have m4 := oMul (i := 3) (j := h) (.inl (by decide))
  have r2 := oMod (i := h * h + 3 * h + k) (j := 2147483629) (by decide)
  simp [c__law_drawn, enter, m1, m2, m3, m4, r, r2]
/-- a deed's name, as drawn -/
def nmOk (a : Str) : Prop := PyData.strOk a = true ∧ a ≠ "zz"
theorem letter3 (i : Int) : ∃ a, nmOk a ∧ o2 .ix (.str "abc") (.int (i % 3)) = some (.str a) := by
  have h1 := Int.emod_nonneg i (b := 3) (by decide)
  have h2 := Int.emod_lt_of_pos i (b := 3) (by decide)
  generalize i % 3 = j at *
  have : j = 0 ∨ j = 1 ∨ j = 2 := by omega
  rcases this with rfl | rfl | rfl
  · exact ⟨⟨#[97]⟩, ⟨by decide +kernel, by decide +kernel⟩, rfl⟩
  · exact ⟨⟨#[98]⟩, ⟨by decide +kernel, by decide +kernel⟩, rfl⟩
  · exact ⟨⟨#[99]⟩, ⟨by decide +kernel, by decide +kernel⟩, rfl⟩
theorem letter7 (i : Int) : ∃ a, PyData.strOk a = true ∧ o2 .ix (.str "abcabcd") (.int (i % 7)) = some (.str a) := by
  have h1 := Int.emod_nonneg i (b := 7) (by decide)
  have h2 := Int.emod_lt_of_pos i (b := 7) (by decide)
  generalize i % 7 = j at *
  have : j = 0 ∨ j = 1 ∨ j = 2 ∨ j = 3 ∨ j = 4 ∨ j = 5 ∨ j = 6 := by omega
  rcases this with rfl | rfl | rfl | rfl | rfl | rfl | rfl
  · exact ⟨⟨#[97]⟩, by decide +kernel, rfl⟩
  · exact ⟨⟨#[98]⟩, by decide +kernel, rfl⟩
  · exact ⟨⟨#[99]⟩, by decide +kernel, rfl⟩
  · exact ⟨⟨#[97]⟩, by decide +kernel, rfl⟩
  · exact ⟨⟨#[98]⟩, by decide +kernel, rfl⟩
  · exact ⟨⟨#[99]⟩, by decide +kernel, rfl⟩
  · exact ⟨⟨#[100]⟩, by decide +kernel, rfl⟩
theorem w__law_deeds {N : Nat} (hN : 2 ≤ N) (z : Int) (m : Nat) (hm : m ≤ 1000) (st : Sto) : ∃ as : List Str, (∀ a ∈ as, PyData.strOk a = true) ∧ as.length ≤ m ∧ TL.run Pg N 11 [.int z, .int m] st = .ok (.tup (as.map .str)) st := by
  obtain ⟨M, rfl⟩ : ∃ M, N = M + 2 := ⟨N - 2, by omega⟩
  rw [run_c (F := c__law_deeds) rfl rfl]
  have r := oMod (i := z) (j := (m : Int) + 1) (by omega)
  have h1 := Int.emod_nonneg z (b := (m : Int) + 1) (by omega)
  have h2 := Int.emod_lt_of_pos z (b := (m : Int) + 1) (by omega)
  generalize hk : z % ((m : Int) + 1) = k at *
  have it := itRng (k := k) h1 (by omega)
  obtain ⟨ds, e, hl, hp⟩ := lcE_ex (P := fun d => ∃ a, PyData.strOk a = true ∧ d = TL.D.str a) (C := TL.run Pg (M+1)) (st := st) (ρ := [some (.int z), some (.int m), none]) (tg := .nm 2) (own := [2]) (cond := [])
    (elt := .o2 .ix (.con (.str "abcabcd")) (.o2 .mod (.o2 .div (.call 9 [.var 0, .o2 .add (.con (.int 20)) (.var 2)]) (.con (.int 4))) (.con (.int 7))))
    (xs := (List.range k.toNat).map fun (i : Nat) => .int (i : Int)) (fun x hx => by
      obtain ⟨i, _, rfl⟩ := List.mem_map.mp hx
      obtain ⟨a, ha, ea⟩ := letter7 (drawZ z (20 + i) / 4)
      have w := w__law_drawn (N := M+1) (by omega) z (20 + i) st
      have d := oDiv (i := drawZ z (20 + i)) (j := 4) (by decide) (by decide)
      have r := oMod (i := drawZ z (20 + i) / 4) (j := 7) (by decide)
      exact ⟨_, .str a, by simp [bindT, wipeE]; rfl, by simp, by simp [w, d, r, ea], rfl, a, ha, rfl⟩)
  have : ∃ as : List Str, (∀ a ∈ as, PyData.strOk a = true) ∧ ds = as.map .str := by
    clear e hl
    induction ds with
    | nil => exact ⟨[], fun _ h => (nomatch h), rfl⟩
    | cons d ds ih =>
      obtain ⟨as, h1, rfl⟩ := ih fun d hd => hp d (List.mem_cons_of_mem _ hd)
      obtain ⟨a, ha, rfl⟩ := hp d (List.mem_cons_self ..)
      exact ⟨a :: as, fun x hx => by rcases List.mem_cons.mp hx with rfl | hx; exact ha; exact h1 x hx, rfl⟩
  obtain ⟨as, ha, rfl⟩ := this
  refine ⟨as, ha, ?_, ?_⟩
  · simp at hl
    omega
  · simp [c__law_deeds, enter, r, hk, it, e]

end TP

namespace TP
open TL
open PySem (Str PyData)
open L2 (atI)
/-- a task of depth at most n -/
def Good : Nat → TL.D → Prop
  | 0, _ => False
  | n + 1, d => (∃ a k, nmOk a ∧ 1 ≤ k ∧ d = .tup [.str "do", .str a, .int k]) ∨
      (∃ (w : String) (ts : List TL.D), (w = "all" ∨ w = "any" ∨ w = "then") ∧ ts ≠ [] ∧ ts.length ≤ 1000 ∧ (w = "then" → 2 ≤ ts.length) ∧ (∀ t ∈ ts, Good n t) ∧ d = .tup [.str w, .tup ts]) ∨
      (∃ a t, nmOk a ∧ Good n t ∧ d = .tup [.str "without", .str a, t]) ∨
      (∃ k t, (1 : Int) ≤ k ∧ Good n t ∧ d = .tup [.str "within", .int k, t])
theorem Good.succ : ∀ {n : Nat} {d : TL.D}, Good n d → Good (n + 1) d
  | 0, _, h => h.elim
  | n + 1, d, h => by
    rcases h with h | ⟨w, ts, a, b, b2, c, e, f⟩ | ⟨a, t, b, c, e⟩ | ⟨k, t, b, c, e⟩
    · exact .inl h
    · exact .inr (.inl ⟨w, ts, a, b, b2, c, fun t ht => (e t ht).succ, f⟩)
    · exact .inr (.inr (.inl ⟨a, t, b, c.succ, e⟩))
    · exact .inr (.inr (.inr ⟨k, t, b, c.succ, e⟩))
theorem Good.mono {n m : Nat} {d : TL.D} (h : Good n d) (k : n ≤ m) : Good m d := by
  induction k with
  | refl => exact h
  | step _ ih => exact ih.succ
theorem Good.ok : ∀ {n : Nat} {d : TL.D}, Good n d → okD (2 * n) d
  | 0, _, h => h.elim
  | n + 1, d, h => by
    rcases h with ⟨a, k, b, _, rfl⟩ | ⟨w, ts, a, b, b2, c, e, rfl⟩ | ⟨a, t, b, c, rfl⟩ | ⟨k, t, b, c, rfl⟩
    · refine okD_tup (n := 2 * n + 1) fun x hx => ?_
      simp at hx
      rcases hx with rfl | rfl | rfl
      · exact okD_str _ (strOk_of _)
      · exact okD_str _ b.1
      · exact okD_int _ _
    · refine okD_tup (n := 2 * n + 1) fun x hx => ?_
      simp at hx
      rcases hx with rfl | rfl
      · exact okD_str _ (strOk_of _)
      · exact okD_tup fun t ht => (e t ht).ok
    · refine okD_tup (n := 2 * n + 1) fun x hx => ?_
      simp at hx
      rcases hx with rfl | rfl | rfl
      · exact okD_str _ (strOk_of _)
      · exact okD_str _ b.1
      · exact c.ok.mono (by omega)
    · refine okD_tup (n := 2 * n + 1) fun x hx => ?_
      simp at hx
      rcases hx with rfl | rfl | rfl
      · exact okD_str _ (strOk_of _)
      · exact okD_int _ _
      · exact c.ok.mono (by omega)
theorem Good.isT {n : Nat} {d : TL.D} (h : Good n d) : ∃ ds, d = .tup ds := by
  cases n with
  | zero => exact h.elim
  | succ n => rcases h with ⟨a, k, b, _, rfl⟩ | ⟨w, ts, a, b, b2, c, e, rfl⟩ | ⟨a, t, b, c, rfl⟩ | ⟨k, t, b, c, rfl⟩ <;> exact ⟨_, rfl⟩
theorem w__law_task : ∀ (n N : Nat) (z : Int) (m : Nat) (st : Sto), 1 ≤ m → m ≤ 1000 → n + 2 ≤ N → ∃ d, Good (n + 1) d ∧ TL.run Pg N 10 [.int z, .int ((n : Int) + 1), .int m] st = .ok d st := by
  intro n
  induction n with
  | zero =>
    intro N z m st h1 h2 hN
    obtain ⟨N, rfl⟩ : ∃ M, N = M + 1 := ⟨N - 1, by omega⟩
    obtain ⟨a, ha, ea⟩ := letter3 (z / 8)
    have d8 := oDiv (i := z) (j := 8) (by decide) (by decide)
    have r3 := oMod (i := z / 8) (j := 3) (by decide)
    have r8 := oMod (i := z) (j := 8) (by decide)
    have d64 := oDiv (i := z) (j := 64) (by decide) (by decide)
    have rm := oMod (i := z / 64) (j := m) (by omega)
    have hm := Int.emod_nonneg (z / 64) (b := (m : Int)) (by omega)
    refine ⟨.tup [.str "do", .str a, .int (1 + z / 64 % m)], .inl ⟨a, _, ha, by omega, rfl⟩, ?_⟩
    rw [run_c (F := c__law_task) rfl rfl]
    simp [c__law_task, enter, d8, r3, r8, ea, d64, rm]
  | succ n ih =>
    intro N z m st h1 h2 hN
    obtain ⟨N, rfl⟩ : ∃ M, N = M + 1 := ⟨N - 1, by omega⟩
    obtain ⟨a, ha, ea⟩ := letter3 (z / 8)
    have d8 := oDiv (i := z) (j := 8) (by decide) (by decide)
    have r3 := oMod (i := z / 8) (j := 3) (by decide)
    have r8 := oMod (i := z) (j := 8) (by decide)
    have d64 := oDiv (i := z) (j := 64) (by decide) (by decide)
    have rm := oMod (i := z / 64) (j := m) (by omega)
    have hm := Int.emod_nonneg (z / 64) (b := (m : Int)) (by omega)
    have k0 := Int.emod_nonneg z (b := 8) (by decide)
    have k8 := Int.emod_lt_of_pos z (b := 8) (by decide)
    have sn : (((n + 1 : Nat) : Int) + 1 - 1) = (n : Int) + 1 := by omega
    have ne : ¬ (((n + 1 : Nat) : Int) + 1 = 1) := by omega
    rw [run_c (F := c__law_task) rfl rfl]
    generalize ((n + 1 : Nat) : Int) + 1 = nn at *
    generalize hk : z % 8 = k at *
    by_cases lt2 : k < 2
    · refine ⟨.tup [.str "do", .str a, .int (1 + z / 64 % m)], .inl ⟨a, _, ha, by omega, rfl⟩, ?_⟩
      simp [c__law_task, enter, d8, r3, r8, ea, d64, rm, ne, lt2]
    by_cases e6 : k = 6
    · subst e6
      have w := w__law_drawn (N := N) (by omega) z 1 st
      obtain ⟨t, gt, wt⟩ := ih N (drawZ z 1 / 4) m st h1 h2 (by omega)
      have gt0 := gt.ok.own
      have d4 := oDiv (i := drawZ z 1) (j := 4) (by decide) (by decide)
      refine ⟨.tup [.str "without", .str a, t], .inr (.inr (.inl ⟨a, t, ha, gt, rfl⟩)), ?_⟩
      simp [c__law_task, enter, d8, r3, r8, ea, d64, rm, ne, sn, w, d4, wt, gt0]
    by_cases e7 : k = 7
    · subst e7
      have w := w__law_drawn (N := N) (by omega) z 2 st
      obtain ⟨t, gt, wt⟩ := ih N (drawZ z 2 / 4) m st h1 h2 (by omega)
      have gt0 := gt.ok.own
      have d4 := oDiv (i := drawZ z 2) (j := 4) (by decide) (by decide)
      have d10 := oDiv (i := z) (j := 1024) (by decide) (by decide)
      have r2 := oMod (i := z / 1024) (j := 2) (by decide)
      have q0 := Int.emod_nonneg (z / 1024) (b := 2) (by decide)
      have q1 := Int.emod_lt_of_pos (z / 1024) (b := 2) (by decide)
      obtain ⟨y, hy, ey⟩ : ∃ y : Int, 1 ≤ y ∧ o2 .ix (.tup [.int 9, .int 4]) (.int (z / 1024 % 2)) = some (.int y) := by
        generalize z / 1024 % 2 = j at *
        have : j = 0 ∨ j = 1 := by omega
        rcases this with rfl | rfl
        · exact ⟨9, by decide, by simp⟩
        · exact ⟨4, by decide, by simp⟩
      rw [oIx] at ey
      have ry := oMod (i := z / 64) (j := y) (by omega)
      have hy0 := Int.emod_nonneg (z / 64) (b := y) (by omega)
      refine ⟨.tup [.str "within", .int (1 + z / 64 % y), t], .inr (.inr (.inr ⟨_, t, by omega, gt, rfl⟩)), ?_⟩
      simp [c__law_task, enter, d8, r3, r8, ea, d64, rm, ne, sn, w, d4, wt, gt0, d10, r2, ey, ry]
    have r3' := oMod (i := z / 64) (j := 3) (by decide)
    have p0 := Int.emod_nonneg (z / 64) (b := 3) (by decide)
    have p1 := Int.emod_lt_of_pos (z / 64) (b := 3) (by decide)
    obtain ⟨wd, hw, ew⟩ : ∃ w : String, (w = "all" ∨ w = "any" ∨ w = "then") ∧ atI [TL.D.str "all", .str "any", .str "then", .str "all"] (k - 2) = some (.str w) := by
      have : k = 2 ∨ k = 3 ∨ k = 4 ∨ k = 5 := by omega
      rcases this with rfl | rfl | rfl | rfl
      · exact ⟨"all", .inl rfl, rfl⟩
      · exact ⟨"any", .inr (.inl rfl), rfl⟩
      · exact ⟨"then", .inr (.inr rfl), rfl⟩
      · exact ⟨"all", .inl rfl, rfl⟩
    generalize hq : 1 + z / 64 % 3 = q at *
    have lc : ∀ (q : Int), 0 ≤ q → q ≤ 100 → ∃ ds, lcE (TL.run Pg N) (.call 10 [.o2 .div (.call 9 [.var 0, .o2 .add (.con (.int 3)) (.var 7)]) (.con (.int 4)), .o2 .sub (.var 1) (.con (.int 1)), .var 2]) (.nm 7) [7] [] ((List.range q.toNat).map fun (i : Nat) => .int (i : Int)) [some (.int z), some (.int nn), some (.int m), some (.str a), some (.int k), some (.int q), some (.str wd), none] st = .ok ds st ∧ ds.length = q.toNat ∧ ∀ d ∈ ds, Good (n + 1) d := by
      intro q h0 h100
      have z := lcE_ex (C := TL.run Pg N) (P := Good (n + 1)) (st := st) (ρ := [some (.int z), some (.int nn), some (.int m), some (.str a), some (.int k), some (.int q), some (.str wd), none]) (tg := .nm 7) (own := [7]) (cond := [])
        (elt := .call 10 [.o2 .div (.call 9 [.var 0, .o2 .add (.con (.int 3)) (.var 7)]) (.con (.int 4)), .o2 .sub (.var 1) (.con (.int 1)), .var 2])
        (xs := (List.range q.toNat).map fun (i : Nat) => .int (i : Int)) (fun x hx => by
          obtain ⟨i, _, rfl⟩ := List.mem_map.mp hx
          obtain ⟨t, gt, wt⟩ := ih N (drawZ z (3 + i) / 4) m st h1 h2 (by omega)
          have w := w__law_drawn (N := N) (by omega) z (3 + i) st
          have d4 := oDiv (i := drawZ z (3 + i)) (j := 4) (by decide) (by decide)
          exact ⟨_, t, by simp [bindT, wipeE]; rfl, by simp, by simp [w, d4, sn, wt], gt.ok.own, gt⟩)
      rw [List.length_map, List.length_range] at z
      exact z
    by_cases ht : wd = "then"
    · subst ht
      obtain ⟨ds, e, hl, hg⟩ := lc (max 2 q) (by omega) (by omega)
      have rg := itRng (k := max 2 q) (by omega) (by omega)
      have mx : o2 .max (.int 2) (.int q) = some (.int (max 2 q)) := by
        show some (TL.D.int _) = _
        congr 2
        split <;> omega
      refine ⟨.tup [.str "then", .tup ds], .inr (.inl ⟨"then", ds, hw, by rintro rfl; simp at hl; omega, by omega, fun _ => by omega, hg, rfl⟩), ?_⟩
      simp [c__law_task, enter, d8, r3, r8, ea, d64, rm, ne, sn, lt2, e6, e7, r3', hq, ew, mx, dEqs, rg, e]
    · obtain ⟨ds, e, hl, hg⟩ := lc q (by omega) (by omega)
      have rg := itRng (k := q) (by omega) (by omega)
      refine ⟨.tup [.str wd, .tup ds], .inr (.inl ⟨wd, ds, hw, by rintro rfl; simp at hl; omega, by omega, fun h => (ht h).elim, hg, rfl⟩), ?_⟩
      simp [c__law_task, enter, d8, r3, r8, ea, d64, rm, ne, sn, lt2, e6, e7, r3', hq, ew, ht, dEqs, rg, e, str_inj]

end TP

namespace TP
open TL
open PySem (Str PyData)
open L2 (atI)
theorem inL {n : Nat} {x : Str} {ds : List TL.D} (hx : PyData.strOk x = true) (hn : n + 1 ≤ 64) (h : ∀ d ∈ ds, okD n d) : dIn (.str x) (.lst ds) = some (.bl (ds.any fun d => d.eqv (.str x))) := by
  have a := (okD_str 0 hx).shp (by decide)
  have b := (okD_lst h).shp hn
  simp [dIn, inD, a, b]
theorem inT {x : Str} (ys : List String) (hx : PyData.strOk x = true) : dIn (.str x) (.tup (ys.map fun y => TL.D.str (Str.ofString y))) = some (.bl (ys.any fun y => decide (Str.ofString y = x))) := by
  have a := (okD_str 0 hx).shp (by decide)
  have b := (okD_tup (n := 0) (ds := ys.map fun y => TL.D.str (Str.ofString y)) (fun d hd => by
    obtain ⟨y, _, rfl⟩ := List.mem_map.mp hd
    exact okD_str 0 (strOk_of y))).shp (by decide)
  simp [dIn, inD, a, b, Function.comp_def, eqv_str]
theorem inG {x : String} : dIn (.str x) (.tup [.str "all", .str "any", .str "then"]) = some (.bl (decide (x = "all") || (decide (x = "any") || decide (x = "then")))) := by
  have z := inT (x := x) ["all", "any", "then"] (strOk_of _)
  simp at z
  rw [z]
  congr 2
  simp only [eq_comm]

end TP

namespace TP
open TL
open PySem (Str PyData)
open L2 (atI)
def grp (w : Str) (ds : List TL.D) : TL.D := match ds with
  | [d] => d
  | ds => .tup [.str w, .tup ds]
def beh : Nat → TL.D → Str → TL.D
  | 0, _, _ => .non
  | n + 1, .tup [.str w, .tup ts], a =>
    if w = "then" then match ts with
      | [] => .non
      | t :: r => if (beh n t a).eqv (.str "failed") then .str "failed" else if (beh n t a).eqv (.str "done") then grp w r else grp w (beh n t a :: r)
    else
      let ss := ts.map fun t => beh n t a
      let gone : TL.D := if w = "any" then .str "failed" else .str "done"
      let whole : TL.D := if w = "any" then .str "done" else .str "failed"
      if ss.any fun s => s.eqv whole then whole
      else if (ss.filter fun s => !s.eqv gone) = [] then gone
      else grp w (ss.filter fun s => !s.eqv gone)
  | n + 1, .tup [.str w, .str b, .int k], a => if a = b then (if k = 1 then .str "done" else .tup [.str w, .str b, .int (k - 1)]) else .tup [.str w, .str b, .int k]
  | n + 1, .tup [.str w, .str b, t], a => if a = b then .str "failed" else if (beh n t a).isS then beh n t a else .tup [.str w, .str b, beh n t a]
  | n + 1, .tup [.str w, .int k, t], a => if (beh n t a).isS then beh n t a else if k = 1 then .str "failed" else .tup [.str w, .int (k - 1), beh n t a]
  | _, _, _ => .non
/-- done, failed, or a task -/
def Res (n : Nat) (d : TL.D) : Prop := d = .str "done" ∨ d = .str "failed" ∨ Good n d
theorem Res.mono {n m : Nat} {d : TL.D} (h : Res n d) (k : n ≤ m) : Res m d := h.imp id (.imp id fun g => g.mono k)
theorem Res.ok {n : Nat} {d : TL.D} (h : Res n d) : okD (2 * n) d := by
  rcases h with rfl | rfl | h
  · exact okD_str _ (strOk_of _)
  · exact okD_str _ (strOk_of _)
  · exact h.ok
theorem Res.good {n : Nat} {d : TL.D} (h : Res n d) (k : d.isS = false) : Good n d := by
  rcases h with rfl | rfl | h
  · cases k
  · cases k
  · exact h
theorem Good.isS {n : Nat} {d : TL.D} (h : Good n d) : d.isS = false := by
  obtain ⟨ds, rfl⟩ := h.isT
  rfl
theorem Good.eqvS {n : Nat} {d : TL.D} (h : Good n d) (x : Str) : d.eqv (.str x) = false := by
  obtain ⟨ds, rfl⟩ := h.isT
  exact eqv_tup_str _ _
theorem grp_good {n : Nat} {w : String} {ds : List TL.D} (hw : w = "all" ∨ w = "any" ∨ w = "then") (h : ds ≠ []) (l : ds.length ≤ 1000) (g : ∀ d ∈ ds, Good n d) : Good (n + 1) (grp w ds) := by
  match ds, h with
  | [d], _ => exact (g d (List.mem_singleton.mpr rfl)).succ
  | a :: b :: r, _ => exact .inr (.inl ⟨w, a :: b :: r, hw, by simp, l, fun _ => by simp, g, rfl⟩)
theorem beh_res : ∀ {n : Nat} {d : TL.D} {a : Str}, PyData.strOk a = true → Good n d → Res n (beh n d a)
  | 0, _, _, _, h => h.elim
  | n + 1, d, a, ha, h => by
    rcases h with ⟨b, k, hb, hk, rfl⟩ | ⟨w, ts, hw, h0, hl, h2, hg, rfl⟩ | ⟨b, t, hb, hg, rfl⟩ | ⟨k, t, hk, hg, rfl⟩
    · simp only [beh]
      split
      · split
        · exact .inl rfl
        · exact .inr (.inr (.inl ⟨b, k - 1, hb, by omega, rfl⟩))
      · exact .inr (.inr (.inl ⟨b, k, hb, hk, rfl⟩))
    · simp only [beh, str_inj]
      by_cases ht : w = "then"
      · rw [if_pos ht]
        match ts, h0 with
        | t :: r, _ =>
          have h2 := h2 ht
          simp at h2
          have hr : r ≠ [] := by rintro rfl; simp at h2
          have ih := beh_res ha (hg t (List.mem_cons_self ..))
          rcases ih with e | e | e
          · simp only [e, eqv_str, str_inj]
            simp
            refine .inr (.inr (grp_good hw hr (by simp at hl; omega) fun d hd => hg d (List.mem_cons_of_mem _ hd)))
          · simp only [e, eqv_str, str_inj]
            exact .inr (.inl rfl)
          · simp only [e.eqvS, Bool.false_eq_true, if_false]
            refine .inr (.inr (grp_good hw (by simp) (by simpa using hl) fun d hd => ?_))
            rcases List.mem_cons.mp hd with rfl | hd
            · exact e
            · exact hg d (List.mem_cons_of_mem _ hd)
      · rw [if_neg ht]
        have rs : ∀ s ∈ ts.map fun t => beh n t a, Res n s := by
          intro s hs
          obtain ⟨t, ht, rfl⟩ := List.mem_map.mp hs
          exact beh_res ha (hg t ht)
        have hll : (ts.map fun t => beh n t a).length ≤ 1000 := by simpa using hl
        generalize (ts.map fun t => beh n t a) = ss at *
        by_cases h : w = "any"
        · simp only [h, if_true]
          split
          · exact .inl rfl
          · next hn =>
            split
            · exact .inr (.inl rfl)
            · next he =>
              refine .inr (.inr (grp_good (.inr (.inl rfl)) he (Nat.le_trans (List.length_filter_le _ _) hll) fun d hd => ?_))
              have ⟨hd, hp⟩ := List.mem_filter.mp hd
              have hn : d.eqv (TL.D.str "done") = false := by
                cases e : d.eqv (TL.D.str "done") with
                | false => rfl
                | true => exact (hn (List.any_eq_true.mpr ⟨d, hd, e⟩)).elim
              rcases rs d hd with rfl | rfl | g
              · simp [eqv_str] at hn hp
              · simp [eqv_str] at hn hp
              · exact g
        · simp only [h, if_false]
          split
          · exact .inr (.inl rfl)
          · next hn =>
            split
            · exact .inl rfl
            · next he =>
              refine .inr (.inr (grp_good hw he (Nat.le_trans (List.length_filter_le _ _) hll) fun d hd => ?_))
              have ⟨hd, hp⟩ := List.mem_filter.mp hd
              have hn : d.eqv (TL.D.str "failed") = false := by
                cases e : d.eqv (TL.D.str "failed") with
                | false => rfl
                | true => exact (hn (List.any_eq_true.mpr ⟨d, hd, e⟩)).elim
              rcases rs d hd with rfl | rfl | g
              · simp [eqv_str] at hn hp
              · simp [eqv_str] at hn hp
              · exact g
    · have ih := beh_res ha hg
      obtain ⟨ds, rfl⟩ := hg.isT
      simp only [beh]
      split
      · exact .inr (.inl rfl)
      · split
        · exact ih.mono (Nat.le_succ n)
        · next h => exact .inr (.inr (.inr (.inr (.inl ⟨b, _, hb, ih.good (by simpa using h), rfl⟩))))
    · have ih := beh_res ha hg
      simp only [beh]
      split
      · exact ih.mono (Nat.le_succ n)
      · next h =>
        split
        · exact .inr (.inl rfl)
        · exact .inr (.inr (.inr (.inr (.inr ⟨k - 1, _, by omega, ih.good (by simpa using h), rfl⟩))))

end TP

namespace TP
open TL
open PySem (Str PyData)
open L2 (atI)
mutual
def pl : TL.D → Bool
  | .str _ => true
  | .int _ => true
  | .tup ds => pls ds
  | _ => false
def pls : List TL.D → Bool
  | [] => true
  | d :: ds => pl d && pls ds
end
theorem eqv_cons (a b : TL.D) (as bs : List TL.D) : (TL.D.tup (a :: as)).eqv (.tup (b :: bs)) = (a.eqv b && (TL.D.tup as).eqv (.tup bs)) := by
  unfold TL.D.eqv
  simp only [TL.D.py, pys, PyData.eqv, PyData.eqvAll]
theorem eqv_nc (b : TL.D) (bs : List TL.D) : (TL.D.tup []).eqv (.tup (b :: bs)) = false := by
  unfold TL.D.eqv
  simp only [TL.D.py, pys, PyData.eqv, PyData.eqvAll]
theorem eqv_cn (b : TL.D) (bs : List TL.D) : (TL.D.tup (b :: bs)).eqv (.tup []) = false := by
  unfold TL.D.eqv
  simp only [TL.D.py, pys, PyData.eqv, PyData.eqvAll]
theorem eqv_ti (ds : List TL.D) (i : Int) : (TL.D.tup ds).eqv (.int i) = false := by
  unfold TL.D.eqv
  simp only [TL.D.py, PyData.eqv]
theorem eqv_it (ds : List TL.D) (i : Int) : (TL.D.int i).eqv (.tup ds) = false := by
  unfold TL.D.eqv
  simp only [TL.D.py, PyData.eqv]
theorem eqv_si (s : Str) (i : Int) : (TL.D.str s).eqv (.int i) = false := by
  unfold TL.D.eqv
  simp only [TL.D.py, PyData.eqv]
theorem eqv_is (s : Str) (i : Int) : (TL.D.int i).eqv (.str s) = false := by
  unfold TL.D.eqv
  simp only [TL.D.py, PyData.eqv]
mutual
theorem eqv_pl : ∀ (d e : TL.D), pl d = true → pl e = true → d.eqv e = true → d = e
  | .str s, .str t, _, _, h => by rw [eqv_str] at h; rw [of_decide_eq_true h]
  | .int s, .int t, _, _, h => by rw [eqv_int] at h; rw [of_decide_eq_true h]
  | .str s, .int t, _, _, h => by rw [eqv_si] at h; cases h
  | .int s, .str t, _, _, h => by rw [eqv_is] at h; cases h
  | .str s, .tup t, _, _, h => by rw [eqv_str_tup] at h; cases h
  | .int s, .tup t, _, _, h => by rw [eqv_it] at h; cases h
  | .tup ds, .str t, _, _, h => by rw [eqv_tup_str] at h; cases h
  | .tup ds, .int t, _, _, h => by rw [eqv_ti] at h; cases h
  | .tup ds, .tup es, hd, he, h => by rw [eqvs_pl ds es hd he h]
theorem eqvs_pl : ∀ (ds es : List TL.D), pls ds = true → pls es = true → (TL.D.tup ds).eqv (.tup es) = true → ds = es
  | [], [], _, _, _ => rfl
  | [], b :: bs, _, _, h => by rw [eqv_nc] at h; cases h
  | b :: bs, [], _, _, h => by rw [eqv_cn] at h; cases h
  | a :: as, b :: bs, hd, he, h => by
    rw [eqv_cons, Bool.and_eq_true] at h
    unfold pls at hd he
    rw [Bool.and_eq_true] at hd he
    rw [eqv_pl a b hd.1 he.1 h.1, eqvs_pl as bs hd.2 he.2 h.2]
end
theorem pls_of : ∀ {ds : List TL.D}, (∀ d ∈ ds, pl d = true) → pls ds = true
  | [], _ => rfl
  | d :: ds, h => by
    unfold pls
    rw [h d (List.mem_cons_self ..), pls_of fun x hx => h x (List.mem_cons_of_mem _ hx)]
    rfl
/-- a task, however many parts -/
def Tk : Nat → TL.D → Prop
  | 0, _ => False
  | n + 1, d => (∃ a k, PyData.strOk a = true ∧ d = .tup [.str "do", .str a, .int k]) ∨
      (∃ (w : String) (ts : List TL.D), (w = "all" ∨ w = "any" ∨ w = "then") ∧ ts ≠ [] ∧ (∀ t ∈ ts, Tk n t) ∧ d = .tup [.str w, .tup ts]) ∨
      (∃ a t, PyData.strOk a = true ∧ Tk n t ∧ d = .tup [.str "without", .str a, t]) ∨
      (∃ k t, Tk n t ∧ d = .tup [.str "within", .int k, t])
theorem Tk.succ : ∀ {n : Nat} {d : TL.D}, Tk n d → Tk (n + 1) d
  | 0, _, h => h.elim
  | n + 1, d, h => by
    rcases h with h | ⟨w, ts, a, b, e, f⟩ | ⟨a, t, b, c, e⟩ | ⟨k, t, c, e⟩
    · exact .inl h
    · exact .inr (.inl ⟨w, ts, a, b, fun t ht => (e t ht).succ, f⟩)
    · exact .inr (.inr (.inl ⟨a, t, b, c.succ, e⟩))
    · exact .inr (.inr (.inr ⟨k, t, c.succ, e⟩))
theorem Tk.mono {n m : Nat} {d : TL.D} (h : Tk n d) (k : n ≤ m) : Tk m d := by
  induction k with
  | refl => exact h
  | step _ ih => exact ih.succ
theorem Tk.pl : ∀ {n : Nat} {d : TL.D}, Tk n d → pl d = true
  | 0, _, h => h.elim
  | n + 1, d, h => by
    rcases h with ⟨a, k, _, rfl⟩ | ⟨w, ts, a, b, e, rfl⟩ | ⟨a, t, b, c, rfl⟩ | ⟨k, t, c, rfl⟩
    · rfl
    · have := pls_of fun t ht => (e t ht).pl
      simp [TP.pl, pls, this]
    · simp [TP.pl, pls, c.pl]
    · simp [TP.pl, pls, c.pl]
theorem Tk.eq {n m : Nat} {d e : TL.D} (h : Tk n d) (k : Tk m e) (x : d.eqv e = true) : d = e := eqv_pl d e h.pl k.pl x
theorem Tk.isT {n : Nat} {d : TL.D} (h : Tk n d) : ∃ ds, d = .tup ds := by
  cases n with
  | zero => exact h.elim
  | succ n => rcases h with ⟨a, k, b, rfl⟩ | ⟨w, ts, a, b, e, rfl⟩ | ⟨a, t, b, c, rfl⟩ | ⟨k, t, c, rfl⟩ <;> exact ⟨_, rfl⟩
theorem Tk.ok : ∀ {n : Nat} {d : TL.D}, Tk n d → okD (2 * n) d
  | 0, _, h => h.elim
  | n + 1, d, h => by
    rcases h with ⟨a, k, b, rfl⟩ | ⟨w, ts, a, b, e, rfl⟩ | ⟨a, t, b, c, rfl⟩ | ⟨k, t, c, rfl⟩
    · refine okD_tup (n := 2 * n + 1) fun x hx => ?_
      simp at hx
      rcases hx with rfl | rfl | rfl
      · exact okD_str _ (strOk_of _)
      · exact okD_str _ b
      · exact okD_int _ _
    · refine okD_tup (n := 2 * n + 1) fun x hx => ?_
      simp at hx
      rcases hx with rfl | rfl
      · exact okD_str _ (strOk_of _)
      · exact okD_tup fun t ht => (e t ht).ok
    · refine okD_tup (n := 2 * n + 1) fun x hx => ?_
      simp at hx
      rcases hx with rfl | rfl | rfl
      · exact okD_str _ (strOk_of _)
      · exact okD_str _ b
      · exact c.ok.mono (by omega)
    · refine okD_tup (n := 2 * n + 1) fun x hx => ?_
      simp at hx
      rcases hx with rfl | rfl | rfl
      · exact okD_str _ (strOk_of _)
      · exact okD_int _ _
      · exact c.ok.mono (by omega)
theorem Tk.refl {n : Nat} {d : TL.D} (h : Tk n d) : d.eqv d = true := h.ok.eqv_refl
/-- is it there already -/
def isInD (acc : List TL.D) (p : TL.D) : Bool := acc.any fun y => y.eqv p
theorem isIn_mem {n : Nat} {acc : List TL.D} {p : TL.D} (ha : ∀ a ∈ acc, Tk n a) (hp : Tk n p) : isInD acc p = true ↔ p ∈ acc := by
  constructor
  · intro h
    obtain ⟨y, hy, e⟩ := List.any_eq_true.mp h
    rw [← (ha y hy).eq hp e]
    exact hy
  · intro h
    exact List.any_eq_true.mpr ⟨p, h, hp.refl⟩
/-- each but once: the first of those that are the same -/
def dedGo : List TL.D → List TL.D → List TL.D
  | acc, [] => acc
  | acc, p :: ps => if isInD acc p then dedGo acc ps else dedGo (acc ++ [p]) ps
theorem ded_app : ∀ (as bs acc : List TL.D), dedGo acc (as ++ bs) = dedGo (dedGo acc as) bs
  | [], _, _ => rfl
  | a :: as, bs, acc => by
    show (if isInD acc a then dedGo acc (as ++ bs) else dedGo (acc ++ [a]) (as ++ bs)) = dedGo (if isInD acc a then dedGo acc as else dedGo (acc ++ [a]) as) bs
    split
    · exact ded_app as bs acc
    · exact ded_app as bs (acc ++ [a])
theorem ded_mem : ∀ {ps acc : List TL.D} {x : TL.D}, x ∈ dedGo acc ps → x ∈ acc ∨ x ∈ ps
  | [], _, _, h => .inl h
  | p :: ps, acc, x, h => by
    unfold dedGo at h
    split at h
    · exact (ded_mem h).imp id (List.mem_cons_of_mem _)
    · rcases ded_mem h with h | h
      · rcases List.mem_append.mp h with h | h
        · exact .inl h
        · rw [List.mem_singleton.mp h]; exact .inr (List.mem_cons_self ..)
      · exact .inr (List.mem_cons_of_mem _ h)
theorem ded_acc : ∀ {ps acc : List TL.D} {x : TL.D}, x ∈ acc → x ∈ dedGo acc ps
  | [], _, _, h => h
  | p :: ps, acc, x, h => by
    unfold dedGo
    split
    · exact ded_acc h
    · exact ded_acc (List.mem_append_left _ h)
theorem ded_all {n : Nat} : ∀ {ps acc : List TL.D}, (∀ a ∈ acc, Tk n a) → (∀ p ∈ ps, Tk n p) → ∀ x ∈ ps, x ∈ dedGo acc ps
  | p :: ps, acc, ha, hp, x, h => by
    have hp0 := hp p (List.mem_cons_self ..)
    have hp' : ∀ q ∈ ps, Tk n q := fun q hq => hp q (List.mem_cons_of_mem _ hq)
    have ha' : ∀ a ∈ acc ++ [p], Tk n a := fun a h => by
      rcases List.mem_append.mp h with h | h
      · exact ha a h
      · rw [List.mem_singleton.mp h]; exact hp0
    unfold dedGo
    rcases List.mem_cons.mp h with rfl | h
    · split
      · next hi => exact ded_acc ((isIn_mem ha hp0).mp hi)
      · exact ded_acc (List.mem_append_right _ (List.mem_singleton.mpr rfl))
    · split
      · exact ded_all ha hp' x h
      · exact ded_all ha' hp' x h
theorem ded_sub {n : Nat} : ∀ {ps acc : List TL.D}, (∀ a ∈ acc, Tk n a) → (∀ p ∈ ps, p ∈ acc) → dedGo acc ps = acc
  | [], _, _, _ => rfl
  | p :: ps, acc, ha, h => by
    have hm := h p (List.mem_cons_self ..)
    unfold dedGo
    rw [if_pos ((isIn_mem ha (ha p hm)).mpr hm)]
    exact ded_sub ha fun q hq => h q (List.mem_cons_of_mem _ hq)
theorem ded_ded {n : Nat} : ∀ {ps b acc : List TL.D}, (∀ a ∈ acc, Tk n a) → (∀ a ∈ b, Tk n a) → (∀ p ∈ ps, Tk n p) → dedGo acc (dedGo b ps) = dedGo (dedGo acc b) ps
  | [], _, _, _, _, _ => rfl
  | p :: ps, b, acc, ha, hb, hp => by
    have hp0 := hp p (List.mem_cons_self ..)
    have hp' : ∀ q ∈ ps, Tk n q := fun q hq => hp q (List.mem_cons_of_mem _ hq)
    have hb' : ∀ a ∈ b ++ [p], Tk n a := fun a h => by
      rcases List.mem_append.mp h with h | h
      · exact hb a h
      · rw [List.mem_singleton.mp h]; exact hp0
    have hab : ∀ a ∈ dedGo acc b, Tk n a := fun a h => by
      rcases ded_mem h with h | h
      · exact ha a h
      · exact hb a h
    have e : dedGo b (p :: ps) = if isInD b p then dedGo b ps else dedGo (b ++ [p]) ps := rfl
    have e2 : dedGo (dedGo acc b) (p :: ps) = if isInD (dedGo acc b) p then dedGo (dedGo acc b) ps else dedGo (dedGo acc b ++ [p]) ps := rfl
    rw [e, e2]
    by_cases hi : isInD b p = true
    · rw [if_pos hi, if_pos ((isIn_mem hab hp0).mpr (ded_all ha hb p ((isIn_mem hb hp0).mp hi)))]
      exact ded_ded ha hb hp'
    · rw [if_neg hi, ded_ded ha hb' hp', ded_app]
      show dedGo (if isInD (dedGo acc b) p then dedGo (dedGo acc b) [] else dedGo (dedGo acc b ++ [p]) []) ps = _
      split <;> rfl

end TP

namespace TP
open TL
open PySem (Str PyData)
open L2 (atI)
/-- parts of a group: those of the same word are opened -/
def flat1 (w : Str) (p : TL.D) : List TL.D := match p with
  | .tup [.str w', .tup qs] => if w' = w then qs else [p]
  | _ => [p]
def flatD (w : Str) (ps : List TL.D) : List TL.D := ps.flatMap (flat1 w)
def un (w : Str) (ps : List TL.D) : List TL.D := if w = "then" then ps else dedGo [] ps
/-- what once computes -/
def onc : Nat → TL.D → TL.D
  | 0, d => d
  | n + 1, .tup [.str w, .tup ts] => grp w (un w (flatD w (ts.map (onc n))))
  | _ + 1, .tup [.str w, .str b, .int k] => .tup [.str w, .str b, .int k]
  | n + 1, .tup [.str w, .str b, t] => match onc n t with
    | .tup [.str w', .str b', u] => if w' = "without" ∧ b' = b then .tup [.str w', .str b', u] else .tup [.str w, .str b, .tup [.str w', .str b', u]]
    | u => .tup [.str w, .str b, u]
  | n + 1, .tup [.str w, .int k, t] => match onc n t with
    | .tup [.str w', .int j, u] => if w' = "within" then .tup [.str w, .int (min k j), u] else .tup [.str w, .int k, .tup [.str w', .int j, u]]
    | u => .tup [.str w, .int k, u]
  | _ + 1, d => d
/-- a task that is short: what once gives -/
def Nf : Nat → TL.D → Prop
  | 0, _ => False
  | n + 1, d => (∃ a k, PyData.strOk a = true ∧ d = .tup [.str "do", .str a, .int k]) ∨
      (∃ (w : String) (ts : List TL.D), (w = "all" ∨ w = "any" ∨ w = "then") ∧ 2 ≤ ts.length ∧ (∀ t ∈ ts, Nf n t) ∧ (∀ t ∈ ts, flat1 w t = [t]) ∧ un w ts = ts ∧ d = .tup [.str w, .tup ts]) ∨
      (∃ a t, PyData.strOk a = true ∧ Nf n t ∧ (∀ u, t ≠ .tup [.str "without", .str a, u]) ∧ d = .tup [.str "without", .str a, t]) ∨
      (∃ k t, Nf n t ∧ (∀ j u, t ≠ .tup [.str "within", .int j, u]) ∧ d = .tup [.str "within", .int k, t])
theorem Nf.succ : ∀ {n : Nat} {d : TL.D}, Nf n d → Nf (n + 1) d
  | 0, _, h => h.elim
  | n + 1, d, h => by
    rcases h with h | ⟨w, ts, a, b, c, e, f, g⟩ | ⟨a, t, b, c, f, e⟩ | ⟨k, t, c, f, e⟩
    · exact .inl h
    · exact .inr (.inl ⟨w, ts, a, b, fun t ht => (c t ht).succ, e, f, g⟩)
    · exact .inr (.inr (.inl ⟨a, t, b, c.succ, f, e⟩))
    · exact .inr (.inr (.inr ⟨k, t, c.succ, f, e⟩))
theorem Nf.tk : ∀ {n : Nat} {d : TL.D}, Nf n d → Tk n d
  | 0, _, h => h.elim
  | n + 1, d, h => by
    rcases h with h | ⟨w, ts, a, b, c, e, f, g⟩ | ⟨a, t, b, c, f, e⟩ | ⟨k, t, c, f, e⟩
    · exact .inl h
    · exact .inr (.inl ⟨w, ts, a, by rintro rfl; simp at b, fun t ht => (c t ht).tk, g⟩)
    · exact .inr (.inr (.inl ⟨a, t, b, c.tk, e⟩))
    · exact .inr (.inr (.inr ⟨k, t, c.tk, e⟩))
theorem flat1_mem {n : Nat} {w : String} {p x : TL.D} (h : Nf n p) (hx : x ∈ flat1 w p) : Nf n x ∧ flat1 w x = [x] := by
  cases n with
  | zero => exact h.elim
  | succ n =>
    rcases h with ⟨a, k, b, rfl⟩ | ⟨w', ts, a, b, c, e, f, rfl⟩ | ⟨a, t, b, c, f, rfl⟩ | ⟨k, t, c, f, rfl⟩
    · rw [show x = .tup [.str "do", .str a, .int k] from List.mem_singleton.mp hx]
      exact ⟨.inl ⟨a, k, b, rfl⟩, rfl⟩
    · by_cases hw : w' = w
      · subst hw
        have hx : x ∈ ts := by simpa [flat1] using hx
        exact ⟨(c x hx).succ, e x hx⟩
      · have hx : x = .tup [.str w', .tup ts] := by simpa [flat1, hw] using hx
        rw [hx]
        exact ⟨.inr (.inl ⟨w', ts, a, b, c, e, f, rfl⟩), by simp [flat1, hw]⟩
    · have hx : x = .tup [.str "without", .str a, t] := by
        simpa [flat1] using hx
      rw [hx]
      exact ⟨.inr (.inr (.inl ⟨a, t, b, c, f, rfl⟩)), by simp [flat1]⟩
    · have hx : x = .tup [.str "within", .int k, t] := by
        simpa [flat1] using hx
      rw [hx]
      exact ⟨.inr (.inr (.inr ⟨k, t, c, f, rfl⟩)), by simp [flat1]⟩
theorem flat1_ne {n : Nat} {w : String} {p : TL.D} (h : Nf n p) : flat1 w p ≠ [] := by
  cases n with
  | zero => exact h.elim
  | succ n =>
    rcases h with ⟨a, k, b, rfl⟩ | ⟨w', ts, a, b, c, e, f, rfl⟩ | ⟨a, t, b, c, f, rfl⟩ | ⟨k, t, c, f, rfl⟩
    · simp [flat1]
    · by_cases hw : w' = w
      · subst hw
        simp [flat1]
        rintro rfl
        simp at b
      · simp [flat1, hw]
    · simp [flat1]
    · simp [flat1]
theorem flatD_mem {n : Nat} {w : String} {ps : List TL.D} (h : ∀ p ∈ ps, Nf n p) {x : TL.D} (hx : x ∈ flatD w ps) : Nf n x ∧ flat1 w x = [x] := by
  obtain ⟨p, hp, hx⟩ := List.mem_flatMap.mp hx
  exact flat1_mem (h p hp) hx
theorem flatD_id {w : String} : ∀ {xs : List TL.D}, (∀ x ∈ xs, flat1 w x = [x]) → flatD w xs = xs
  | [], _ => rfl
  | x :: xs, h => by
    unfold flatD
    rw [List.flatMap_cons, h x (List.mem_cons_self ..)]
    have := flatD_id (w := w) fun y hy => h y (List.mem_cons_of_mem _ hy)
    unfold flatD at this
    rw [this]
    rfl
theorem un_mem {w : String} {ps : List TL.D} {x : TL.D} (h : x ∈ un w ps) : x ∈ ps := by
  unfold un at h
  split at h
  · exact h
  · rcases ded_mem h with z | z
    · cases z
    · exact z
theorem un_un {n : Nat} {w : String} {ps : List TL.D} (h : ∀ p ∈ ps, Tk n p) : un w (un w ps) = un w ps := by
  unfold un
  split
  · rfl
  · exact ded_ded (acc := []) (b := []) (by simp) (by simp) h
theorem un_ne {n : Nat} {w : String} {ps : List TL.D} (h : ∀ p ∈ ps, Tk n p) (h0 : ps ≠ []) : un w ps ≠ [] := by
  unfold un
  split
  · exact h0
  · match ps, h0 with
    | p :: r, _ => exact List.ne_nil_of_mem (ded_all (acc := []) (by simp) h p (List.mem_cons_self ..))
/-- a group made of short parts is short -/
theorem comb_nf {n : Nat} {w : String} (hw : w = "all" ∨ w = "any" ∨ w = "then") {ps : List TL.D} (h0 : ps ≠ []) (h : ∀ p ∈ ps, Nf n p) : Nf (n + 1) (grp w (un w (flatD w ps))) := by
  have hf : ∀ x ∈ flatD w ps, Nf n x ∧ flat1 w x = [x] := fun x hx => flatD_mem h hx
  have ht : ∀ x ∈ flatD w ps, Tk n x := fun x hx => (hf x hx).1.tk
  have fne : flatD w ps ≠ [] := by
    match ps, h0 with
    | p :: r, _ =>
      obtain ⟨y, hy⟩ := List.exists_mem_of_ne_nil _ (flat1_ne (w := w) (h p (List.mem_cons_self ..)))
      exact List.ne_nil_of_mem (List.mem_flatMap.mpr ⟨p, List.mem_cons_self .., hy⟩)
  have une := un_ne (w := w) ht fne
  have uu := un_un (w := w) ht
  have um : ∀ x ∈ un w (flatD w ps), Nf n x ∧ flat1 w x = [x] := fun x hx => hf x (un_mem hx)
  generalize un w (flatD w ps) = us at *
  match us, une with
  | [x], _ => exact (um x (List.mem_singleton.mpr rfl)).1.succ
  | x :: y :: r, _ => exact .inr (.inl ⟨w, x :: y :: r, hw, by simp, fun t ht => (um t ht).1, fun t ht => (um t ht).2, uu, rfl⟩)
theorem onc_nf : ∀ {n : Nat} {d : TL.D}, Tk n d → Nf n (onc n d)
  | 0, _, h => h.elim
  | n + 1, d, h => by
    rcases h with ⟨a, k, b, rfl⟩ | ⟨w, ts, a, b, e, rfl⟩ | ⟨a, t, b, c, rfl⟩ | ⟨k, t, c, rfl⟩
    · exact .inl ⟨a, k, b, rfl⟩
    · exact comb_nf a (by simpa using b) fun p hp => by
        obtain ⟨t, ht, rfl⟩ := List.mem_map.mp hp
        exact onc_nf (e t ht)
    · have ih := onc_nf c
      obtain ⟨ds, rfl⟩ := c.isT
      simp only [onc]
      split
      · next w' b' u e =>
        split
        · next hc => rw [e] at ih; exact ih.succ
        · next hc =>
          rw [e] at ih
          refine .inr (.inr (.inl ⟨a, _, b, ih, fun u' z => hc ?_, rfl⟩))
          cases z
          exact ⟨rfl, rfl⟩
      · next hc => exact .inr (.inr (.inl ⟨a, _, b, ih, fun u' z => hc _ _ _ z, rfl⟩))
    · have ih := onc_nf c
      simp only [onc]
      split
      · next w' j u e =>
        split
        · next hc =>
          subst hc
          rw [e] at ih
          cases n with
          | zero => exact ih.elim
          | succ n =>
            rcases ih with ⟨_, _, _, z⟩ | ⟨_, _, _, _, _, _, _, z⟩ | ⟨_, _, _, _, _, z⟩ | ⟨k', t', c', f', z⟩
            · simp at z
            · simp at z
            · simp at z
            · simp at z
              obtain ⟨rfl, rfl⟩ := z
              exact .inr (.inr (.inr ⟨_, _, c'.succ, f', rfl⟩))
        · next hc =>
          rw [e] at ih
          refine .inr (.inr (.inr ⟨k, _, ih, fun j' u' z => hc ?_, rfl⟩))
          cases z
          rfl
      · next hc => exact .inr (.inr (.inr ⟨k, _, ih, fun j' u' z => hc _ _ _ z, rfl⟩))

end TP

namespace TP
open TL
open PySem (Str PyData)
open L2 (atI)
/-- one step, from outside -/
inductive Stp : TL.D → TL.D → Prop
  | one (w : String) (x : TL.D) : w = "all" ∨ w = "any" ∨ w = "then" → Stp (.tup [.str w, .tup [x]]) x
  | spl (w : String) (A us C : List TL.D) : w = "all" ∨ w = "any" ∨ w = "then" → Stp (.tup [.str w, .tup (A ++ .tup [.str w, .tup us] :: C)]) (.tup [.str w, .tup (A ++ us ++ C)])
  | dup (w : String) (p : TL.D) (A C : List TL.D) : w = "all" ∨ w = "any" → p ∈ A → Stp (.tup [.str w, .tup (A ++ p :: C)]) (.tup [.str w, .tup (A ++ C)])
  | inn (w : String) (p q : TL.D) (A C : List TL.D) : w = "all" ∨ w = "any" ∨ w = "then" → Stp p q → Stp (.tup [.str w, .tup (A ++ p :: C)]) (.tup [.str w, .tup (A ++ q :: C)])
  | wow (b : Str) (v : TL.D) : Stp (.tup [.str "without", .str b, .tup [.str "without", .str b, v]]) (.tup [.str "without", .str b, v])
  | wiw (k j : Int) (v : TL.D) : Stp (.tup [.str "within", .int k, .tup [.str "within", .int j, v]]) (.tup [.str "within", .int (min k j), v])
  | woi (b : Str) (t u : TL.D) : Stp t u → Stp (.tup [.str "without", .str b, t]) (.tup [.str "without", .str b, u])
  | wii (k : Int) (t u : TL.D) : Stp t u → Stp (.tup [.str "within", .int k, t]) (.tup [.str "within", .int k, u])
theorem Tk.grpI {n : Nat} {w : String} {ts : List TL.D} (h : Tk (n + 1) (.tup [.str w, .tup ts])) : (w = "all" ∨ w = "any" ∨ w = "then") ∧ ts ≠ [] ∧ ∀ t ∈ ts, Tk n t := by
  rcases h with ⟨a, k, _, e⟩ | ⟨w', ts', a, b, c, e⟩ | ⟨a, t, b, c, e⟩ | ⟨k, t, c, e⟩
  · simp at e
  · simp at e
    obtain ⟨rfl, rfl⟩ := e
    exact ⟨a, b, c⟩
  · simp at e
  · simp at e
theorem Tk.woI {n : Nat} {b : Str} {t : TL.D} (h : Tk (n + 1) (.tup [.str "without", .str b, t])) : PyData.strOk b = true ∧ Tk n t := by
  rcases h with ⟨a, k, _, e⟩ | ⟨w', ts', a, b, c, e⟩ | ⟨a, t, b, c, e⟩ | ⟨k, t, c, e⟩
  · simp at e
  · simp at e
  · simp at e
    obtain ⟨rfl, rfl⟩ := e
    exact ⟨b, c⟩
  · simp at e
theorem Tk.wiI {n : Nat} {k : Int} {t : TL.D} (h : Tk (n + 1) (.tup [.str "within", .int k, t])) : Tk n t := by
  rcases h with ⟨a, k, _, e⟩ | ⟨w', ts', a, b, c, e⟩ | ⟨a, t, b, c, e⟩ | ⟨k, t, c, e⟩
  · simp at e
  · simp at e
  · simp at e
  · simp at e
    obtain ⟨rfl, rfl⟩ := e
    exact c
theorem Stp.tk {t u : TL.D} (s : Stp t u) : ∀ {n : Nat}, Tk n t → Tk n u := by
  induction s with
  | one w x hw =>
    intro n h
    cases n with
    | zero => exact h.elim
    | succ n => exact (h.grpI.2.2 x (List.mem_singleton.mpr rfl)).succ
  | spl w A us C hw =>
    intro n h
    cases n with
    | zero => exact h.elim
    | succ n =>
      obtain ⟨_, h0, hg⟩ := h.grpI
      have hp := hg (.tup [.str w, .tup us]) (by simp)
      cases n with
      | zero => exact hp.elim
      | succ n =>
        obtain ⟨_, u0, ug⟩ := hp.grpI
        refine .inr (.inl ⟨w, _, hw, by simp [u0], fun t ht => ?_, rfl⟩)
        rcases List.mem_append.mp ht with ht | ht
        · rcases List.mem_append.mp ht with ht | ht
          · exact hg t (List.mem_append_left _ ht)
          · exact (ug t ht).succ
        · exact hg t (List.mem_append_right _ (List.mem_cons_of_mem _ ht))
  | dup w p A C hw hp =>
    intro n h
    cases n with
    | zero => exact h.elim
    | succ n =>
      obtain ⟨_, h0, hg⟩ := h.grpI
      refine .inr (.inl ⟨w, _, hw.imp id .inl, ?_, fun t ht => ?_, rfl⟩)
      · exact List.ne_nil_of_mem (List.mem_append_left _ hp)
      · rcases List.mem_append.mp ht with ht | ht
        · exact hg t (List.mem_append_left _ ht)
        · exact hg t (List.mem_append_right _ (List.mem_cons_of_mem _ ht))
  | inn w p q A C hw s ih =>
    intro n h
    cases n with
    | zero => exact h.elim
    | succ n =>
      obtain ⟨_, h0, hg⟩ := h.grpI
      refine .inr (.inl ⟨w, _, hw, by simp, fun t ht => ?_, rfl⟩)
      rcases List.mem_append.mp ht with ht | ht
      · exact hg t (List.mem_append_left _ ht)
      · rcases List.mem_cons.mp ht with rfl | ht
        · exact ih (hg p (by simp))
        · exact hg t (List.mem_append_right _ (List.mem_cons_of_mem _ ht))
  | wow b v =>
    intro n h
    cases n with
    | zero => exact h.elim
    | succ n => exact h.woI.2.succ
  | wiw k j v =>
    intro n h
    cases n with
    | zero => exact h.elim
    | succ n =>
      have := h.wiI
      cases n with
      | zero => exact this.elim
      | succ n => exact .inr (.inr (.inr ⟨_, v, this.wiI.succ, rfl⟩))
  | woi b t u s ih =>
    intro n h
    cases n with
    | zero => exact h.elim
    | succ n => exact .inr (.inr (.inl ⟨b, u, h.woI.1, ih h.woI.2, rfl⟩))
  | wii k t u s ih =>
    intro n h
    cases n with
    | zero => exact h.elim
    | succ n => exact .inr (.inr (.inr ⟨k, u, ih h.wiI, rfl⟩))
theorem onc_succ : ∀ {n : Nat} {d : TL.D}, Tk n d → onc (n + 1) d = onc n d
  | 0, _, h => h.elim
  | n + 1, d, h => by
    rcases h with ⟨a, k, b, rfl⟩ | ⟨w, ts, a, b, e, rfl⟩ | ⟨a, t, b, c, rfl⟩ | ⟨k, t, c, rfl⟩
    · simp only [onc]
    · have em : ts.map (onc (n + 1)) = ts.map (onc n) := List.map_congr_left fun t ht => onc_succ (e t ht)
      simp only [onc, em]
    · have ec := onc_succ c
      obtain ⟨ds, rfl⟩ := c.isT
      simp only [onc, ec]
    · have ec := onc_succ c
      simp only [onc, ec]

end TP

namespace TP
open TL
open PySem (Str PyData)
open L2 (atI)
theorem self_comb {n : Nat} {w : String} {p : TL.D} (h : Nf n p) : grp w (un w (flat1 w p)) = p := by
  have one : un (Str.ofString w) [p] = [p] := by
    unfold un
    split
    · rfl
    · rfl
  cases n with
  | zero => exact h.elim
  | succ n =>
    rcases h with ⟨a, k, b, rfl⟩ | ⟨w', ts, a, b, c, e, f, rfl⟩ | ⟨a, t, b, c, f, rfl⟩ | ⟨k, t, c, f, rfl⟩
    · rw [show flat1 (Str.ofString w) (.tup [.str "do", .str a, .int k]) = [.tup [.str "do", .str a, .int k]] from rfl, one]
      rfl
    · by_cases hw : w' = w
      · subst hw
        rw [show flat1 (Str.ofString w') (.tup [.str w', .tup ts]) = ts from by simp [flat1], f]
        match ts, b with
        | _ :: _ :: _, _ => rfl
      · rw [show flat1 (Str.ofString w) (.tup [.str w', .tup ts]) = [.tup [.str w', .tup ts]] from by simp [flat1, hw], one]
        rfl
    · rw [show flat1 (Str.ofString w) (.tup [.str "without", .str a, t]) = [.tup [.str "without", .str a, t]] from by simp [flat1], one]
      rfl
    · rw [show flat1 (Str.ofString w) (.tup [.str "within", .int k, t]) = [.tup [.str "within", .int k, t]] from by simp [flat1], one]
      rfl
theorem flatD_app (w : Str) (as bs : List TL.D) : flatD w (as ++ bs) = flatD w as ++ flatD w bs := by
  unfold flatD
  rw [List.flatMap_append]
theorem flatD_cons (w : Str) (a : TL.D) (bs : List TL.D) : flatD w (a :: bs) = flat1 w a ++ flatD w bs := by
  unfold flatD
  rw [List.flatMap_cons]
theorem onc_wo {n : Nat} {b : Str} {t : TL.D} (h : Tk n t) : ∃ z, onc (n + 1) (.tup [.str "without", .str b, t]) = .tup [.str "without", .str b, z] := by
  obtain ⟨ds, rfl⟩ := h.isT
  simp only [onc]
  split
  · split
    · next hc => exact ⟨_, by rw [hc.1, hc.2]⟩
    · exact ⟨_, rfl⟩
  · exact ⟨_, rfl⟩
theorem Stp.onc {t u : TL.D} (s : Stp t u) : ∀ {n : Nat}, Tk n t → onc n u = onc n t := by
  induction s with
  | one w x hw =>
    intro n h
    cases n with
    | zero => exact h.elim
    | succ n =>
      have hx := h.grpI.2.2 x (List.mem_singleton.mpr rfl)
      rw [onc_succ hx]
      simp only [TP.onc, List.map_cons, List.map_nil, flatD_cons]
      rw [show flatD (Str.ofString w) [] = [] from rfl, List.append_nil]
      exact (self_comb (onc_nf hx)).symm
  | spl w A us C hw =>
    intro n h
    cases n with
    | zero => exact h.elim
    | succ n =>
      obtain ⟨_, h0, hg⟩ := h.grpI
      have hp := hg (.tup [.str w, .tup us]) (by simp)
      cases n with
      | zero => exact hp.elim
      | succ n =>
        obtain ⟨_, u0, ug⟩ := hp.grpI
        have em : us.map (TP.onc (n + 1)) = us.map (TP.onc n) := List.map_congr_left fun t ht => onc_succ (ug t ht)
        have nf : ∀ p ∈ us.map (TP.onc n), Nf n p := fun p hp => by
          obtain ⟨t, ht, rfl⟩ := List.mem_map.mp hp
          exact onc_nf (ug t ht)
        have ft : ∀ x ∈ flatD w (us.map (TP.onc n)), Nf n x ∧ flat1 w x = [x] := fun x hx => flatD_mem nf hx
        have ea : ∀ x ∈ flatD w (A.map (TP.onc (n + 1))), Tk (n + 1) x := fun x hx => (flatD_mem (n := n + 1) (fun p hp => by
          obtain ⟨t, ht, rfl⟩ := List.mem_map.mp hp
          exact onc_nf (hg t (List.mem_append_left _ ht))) hx).1.tk
        have f1 : flat1 w (TP.onc (n + 1) (.tup [.str w, .tup us])) = un w (flatD w (us.map (TP.onc n))) := by
          have un1 : ∀ x ∈ un w (flatD w (us.map (TP.onc n))), flat1 w x = [x] := fun x hx => (ft x (un_mem hx)).2
          have une := un_ne (w := w) (fun x hx => (ft x hx).1.tk) (by
            match us, u0 with
            | t :: r, _ =>
              obtain ⟨y, hy⟩ := List.exists_mem_of_ne_nil _ (flat1_ne (w := w) (onc_nf (ug t (List.mem_cons_self ..))))
              exact List.ne_nil_of_mem (List.mem_flatMap.mpr ⟨_, List.mem_map.mpr ⟨t, List.mem_cons_self .., rfl⟩, hy⟩))
          simp only [TP.onc]
          generalize un w (flatD w (us.map (TP.onc n))) = U at *
          match U, une with
          | [x], _ => exact un1 x (List.mem_singleton.mpr rfl)
          | x :: y :: r, _ => simp [grp, flat1]
        have key : un w (flatD w ((A ++ us ++ C).map (TP.onc (n + 1)))) = un w (flatD w ((A ++ .tup [.str w, .tup us] :: C).map (TP.onc (n + 1)))) := by
          rw [List.map_append, List.map_append, List.map_append, List.map_cons, flatD_app, flatD_app, flatD_app, flatD_cons, f1, em]
          have tf : ∀ x ∈ flatD w (us.map (TP.onc n)), Tk (n + 1) x := fun x hx => (ft x hx).1.tk.succ
          generalize flatD w (us.map (TP.onc n)) = F at *
          generalize flatD w (A.map (TP.onc (n + 1))) = FA at *
          unfold un
          by_cases ht : w = "then"
          · simp [ht]
          · simp only [str_inj, ht, if_false]
            rw [ded_app, ded_app, ded_app, ded_app]
            rw [ded_ded (n := n + 1) (acc := dedGo [] FA) (b := []) (ps := F) (fun a ha => (ded_mem ha).elim (fun z => by cases z) (ea a)) (by simp) tf]
            rfl
        simp only [TP.onc, key]
  | dup w p A C hw hp =>
    intro n h
    cases n with
    | zero => exact h.elim
    | succ n =>
      obtain ⟨_, h0, hg⟩ := h.grpI
      have wt : w ≠ "then" := by rcases hw with rfl | rfl <;> decide
      have ea : ∀ x ∈ flatD w (A.map (TP.onc n)), Tk n x := fun x hx => (flatD_mem (n := n) (fun p hp => by
        obtain ⟨t, ht, rfl⟩ := List.mem_map.mp hp
        exact onc_nf (hg t (List.mem_append_left _ ht))) hx).1.tk
      have key : un w (flatD w ((A ++ C).map (TP.onc n))) = un w (flatD w ((A ++ p :: C).map (TP.onc n))) := by
        have sub : ∀ x ∈ flat1 w (TP.onc n p), x ∈ flatD w (A.map (TP.onc n)) := fun x hx => List.mem_flatMap.mpr ⟨_, List.mem_map.mpr ⟨p, hp, rfl⟩, hx⟩
        rw [List.map_append, List.map_append, List.map_cons, flatD_app, flatD_app, flatD_cons]
        generalize flatD w (A.map (TP.onc n)) = FA at *
        generalize flat1 w (TP.onc n p) = X at *
        unfold un
        simp only [str_inj, wt, if_false]
        rw [ded_app, ded_app, ded_app]
        rw [ded_sub (n := n) (acc := dedGo [] FA) (ps := X) (fun a ha => (ded_mem ha).elim (fun z => by cases z) (ea a)) fun q hq => ded_all (n := n) (acc := []) (by simp) ea q (sub q hq)]
      simp only [TP.onc, key]
  | inn w p q A C hw s ih =>
    intro n h
    cases n with
    | zero => exact h.elim
    | succ n =>
      have e := ih (h.grpI.2.2 p (by simp))
      simp only [TP.onc, List.map_append, List.map_cons, e]
  | wow b v =>
    intro n h
    cases n with
    | zero => exact h.elim
    | succ n =>
      have h1 := h.woI.2
      cases n with
      | zero => exact h1.elim
      | succ n =>
        obtain ⟨z, ez⟩ := onc_wo (b := b) h1.woI.2
        rw [onc_succ h1]
        have e : TP.onc (n + 1 + 1) (.tup [.str "without", .str b, .tup [.str "without", .str b, v]]) = match TP.onc (n + 1) (.tup [.str "without", .str b, v]) with
          | .tup [.str w', .str b', u] => if w' = "without" ∧ b' = b then .tup [.str w', .str b', u] else .tup [.str "without", .str b, .tup [.str w', .str b', u]]
          | u => .tup [.str "without", .str b, u] := by rw [TP.onc] <;> first | rfl | (intro k hk; cases hk)
        rw [e, ez]
        simp
  | wiw k j v =>
    intro n h
    cases n with
    | zero => exact h.elim
    | succ n =>
      have h1 := h.wiI
      cases n with
      | zero => exact h1.elim
      | succ n =>
        have hv := h1.wiI
        have ev := onc_succ hv
        simp only [TP.onc, ev]
        split
        · next w' i u e =>
          split
          · next hc =>
            first | (simp; done) | (simp; omega)
          · next hc => simp
        · simp
  | woi b t u s ih =>
    intro n h
    cases n with
    | zero => exact h.elim
    | succ n =>
      have e := ih h.woI.2
      obtain ⟨ds, rfl⟩ := h.woI.2.isT
      obtain ⟨es, rfl⟩ := (s.tk h.woI.2).isT
      simp only [TP.onc, e]
  | wii k t u s ih =>
    intro n h
    cases n with
    | zero => exact h.elim
    | succ n =>
      have e := ih h.wiI
      simp only [TP.onc, e]

end TP

namespace TP
open TL
open PySem (Str PyData)
open L2 (atI)
/-- how many tasks -/
def szD : Nat → TL.D → Nat
  | 0, _ => 0
  | n + 1, .tup [.str _, .tup ts] => 1 + (ts.map (szD n)).sum
  | _ + 1, .tup [.str _, .str _, .int _] => 1
  | n + 1, .tup [.str _, _, t] => 1 + szD n t
  | _ + 1, _ => 0
theorem szD_wo {n : Nat} {b : Str} {t : TL.D} (h : Tk n t) : szD (n + 1) (.tup [.str "without", .str b, t]) = 1 + szD n t := by
  obtain ⟨ds, rfl⟩ := h.isT
  simp only [szD]
theorem szD_wi {n : Nat} {k : Int} {t : TL.D} : szD (n + 1) (.tup [.str "within", .int k, t]) = 1 + szD n t := by
  simp only [szD]
theorem szD_grp {n : Nat} {w : Str} {ts : List TL.D} : szD (n + 1) (.tup [.str w, .tup ts]) = 1 + (ts.map (szD n)).sum := by
  simp only [szD]
theorem szD_succ : ∀ {n : Nat} {d : TL.D}, Tk n d → szD (n + 1) d = szD n d
  | 0, _, h => h.elim
  | n + 1, d, h => by
    rcases h with ⟨a, k, b, rfl⟩ | ⟨w, ts, a, b, e, rfl⟩ | ⟨a, t, b, c, rfl⟩ | ⟨k, t, c, rfl⟩
    · simp only [szD]
    · rw [szD_grp, szD_grp, List.map_congr_left fun t ht => szD_succ (e t ht)]
    · rw [szD_wo c.succ, szD_wo c, szD_succ c]
    · rw [szD_wi, szD_wi, szD_succ c]
theorem szD_pos : ∀ {n : Nat} {d : TL.D}, Tk n d → 1 ≤ szD n d
  | 0, _, h => h.elim
  | n + 1, d, h => by
    rcases h with ⟨a, k, b, rfl⟩ | ⟨w, ts, a, b, e, rfl⟩ | ⟨a, t, b, c, rfl⟩ | ⟨k, t, c, rfl⟩
    · simp only [szD]; omega
    · rw [szD_grp]; omega
    · rw [szD_wo c]; omega
    · rw [szD_wi]; omega
theorem szD_len {n : Nat} : ∀ {ts : List TL.D}, (∀ t ∈ ts, Tk n t) → ts.length ≤ (ts.map (szD n)).sum
  | [], _ => Nat.zero_le _
  | t :: ts, h => by
    have := szD_len (n := n) fun s hs => h s (List.mem_cons_of_mem _ hs)
    have := szD_pos (h t (List.mem_cons_self ..))
    simp only [List.length_cons, List.map_cons, List.sum_cons]
    omega
theorem Stp.sz {t u : TL.D} (s : Stp t u) : ∀ {n : Nat}, Tk n t → szD n u < szD n t := by
  induction s with
  | one w x hw =>
    intro n h
    cases n with
    | zero => exact h.elim
    | succ n =>
      have hx := h.grpI.2.2 x (List.mem_singleton.mpr rfl)
      rw [szD_succ hx, szD_grp]
      simp
  | spl w A us C hw =>
    intro n h
    cases n with
    | zero => exact h.elim
    | succ n =>
      have hp := h.grpI.2.2 (.tup [.str w, .tup us]) (by simp)
      cases n with
      | zero => exact hp.elim
      | succ n =>
        have em : us.map (szD (n + 1)) = us.map (szD n) := List.map_congr_left fun t ht => szD_succ (hp.grpI.2.2 t ht)
        rw [szD_grp, szD_grp]
        simp only [List.map_append, List.map_cons, List.sum_append, List.sum_cons, szD_grp, em]
        omega
  | dup w p A C hw hp =>
    intro n h
    cases n with
    | zero => exact h.elim
    | succ n =>
      have := szD_pos (h.grpI.2.2 p (by simp))
      rw [szD_grp, szD_grp]
      simp only [List.map_append, List.map_cons, List.sum_append, List.sum_cons]
      omega
  | inn w p q A C hw s ih =>
    intro n h
    cases n with
    | zero => exact h.elim
    | succ n =>
      have := ih (h.grpI.2.2 p (by simp))
      rw [szD_grp, szD_grp]
      simp only [List.map_append, List.map_cons, List.sum_append, List.sum_cons]
      omega
  | wow b v =>
    intro n h
    cases n with
    | zero => exact h.elim
    | succ n =>
      rw [szD_succ h.woI.2, szD_wo h.woI.2]
      omega
  | wiw k j v =>
    intro n h
    cases n with
    | zero => exact h.elim
    | succ n =>
      have h1 := h.wiI
      cases n with
      | zero => exact h1.elim
      | succ n =>
        rw [szD_wi, szD_wi, szD_wi, szD_succ h1.wiI]
        omega
  | woi b t u s ih =>
    intro n h
    cases n with
    | zero => exact h.elim
    | succ n =>
      have := ih h.woI.2
      rw [szD_wo h.woI.2, szD_wo (s.tk h.woI.2)]
      omega
  | wii k t u s ih =>
    intro n h
    cases n with
    | zero => exact h.elim
    | succ n =>
      have := ih h.wiI
      rw [szD_wi, szD_wi]
      omega
/-- where no step is left -/
def Fx : Nat → TL.D → Prop
  | 0, _ => False
  | n + 1, d => (∃ a k, d = .tup [.str "do", .str a, .int k]) ∨
      (∃ (w : String) (ts : List TL.D), 2 ≤ ts.length ∧ (∀ t ∈ ts, Fx n t) ∧ (∀ t ∈ ts, flat1 w t = [t]) ∧ (w ≠ "then" → ∀ A p C, ts = A ++ p :: C → ¬ p ∈ A) ∧ d = .tup [.str w, .tup ts]) ∨
      (∃ a t, Fx n t ∧ (∀ u, t ≠ .tup [.str "without", .str a, u]) ∧ d = .tup [.str "without", .str a, t]) ∨
      (∃ k t, Fx n t ∧ (∀ j u, t ≠ .tup [.str "within", .int j, u]) ∧ d = .tup [.str "within", .int k, t])
theorem ded_id {n : Nat} : ∀ {ps acc : List TL.D}, (∀ p ∈ acc ++ ps, Tk n p) → (∀ A p C, acc ++ ps = A ++ p :: C → ¬ p ∈ A) → dedGo acc ps = acc ++ ps
  | [], acc, _, _ => by rw [List.append_nil]; rfl
  | p :: ps, acc, ht, h => by
    have np := h acc p ps rfl
    unfold dedGo
    rw [if_neg fun z => np ((isIn_mem (n := n) (fun a ha => ht a (List.mem_append_left _ ha)) (ht p (by simp))).mp z)]
    rw [ded_id (n := n) (ps := ps) (acc := acc ++ [p]) (by simpa using ht) (by simpa using h)]
    simp
theorem onc_fix : ∀ {n : Nat} {d : TL.D}, Tk n d → Fx n d → onc n d = d
  | 0, _, h, _ => h.elim
  | n + 1, d, h, f => by
    rcases f with ⟨a, k, rfl⟩ | ⟨w, ts, h2, ft, fl, nd, rfl⟩ | ⟨a, t, ft, nw, rfl⟩ | ⟨k, t, ft, nw, rfl⟩
    · simp only [onc]
    · obtain ⟨hw, h0, hg⟩ := h.grpI
      have em : ts.map (onc n) = ts := by
        have : ts.map (onc n) = ts.map id := List.map_congr_left fun t ht => onc_fix (hg t ht) (ft t ht)
        rw [this, List.map_id]
      have eu : un w ts = ts := by
        unfold un
        split
        · rfl
        · next hn => exact ded_id (n := n) (acc := []) (by simpa using hg) (by simpa using nd (by simpa using hn))
      simp only [onc, em, flatD_id fl, eu]
      match ts, h2 with
      | _ :: _ :: _, _ => rfl
    · have e := onc_fix h.woI.2 ft
      obtain ⟨ds, rfl⟩ := h.woI.2.isT
      simp only [onc, e]
      split
      · next w' b' u eq =>
        split
        · next hc =>
          obtain ⟨rfl, rfl⟩ := hc
          exact (nw _ eq).elim
        · rw [eq]
      · rfl
    · have e := onc_fix h.wiI ft
      simp only [onc, e]
      split
      · next w' j u =>
        split
        · next hc => subst hc; exact (nw _ _ rfl).elim
        · rfl
      · rfl

end TP

namespace TP
open TL
open PySem (Str PyData)
open L2 (atI)
theorem flat_go {N n : Nat} (hn : n ≤ 30) {w : String} (hw : w = "all" ∨ w = "any" ∨ w = "then") {st : Sto} {P : TL.D} (body : List S)
    (hb : body = [.ifs (.o2 .eq (.o2 .ix (.var 3) (.con (.int 0))) (.var 0)) [.ext 2 (.o1 .list (.o2 .ix (.var 3) (.con (.int 1))))] [.app 2 (.var 3)]]) :
    ∀ (ps acc : List TL.D) (x : Option TL.D), (∀ p ∈ ps, Tk n p) → acc.length + (flatD w ps).length ≤ 100000 → ∃ y, forE (TL.run Pg N) (.nm 3) body ps [some (.str w), some P, some (.mlst acc), x] st = .nx [some (.str w), some P, some (.mlst (acc ++ flatD w ps)), y] st := by
  intro ps
  induction ps with
  | nil => intro acc x _ _; exact ⟨x, by rw [forE_nil, show flatD (Str.ofString w) [] = [] from rfl, List.append_nil]⟩
  | cons p ps ih =>
    intro acc x hp hl
    have hp0 := hp p (List.mem_cons_self ..)
    have po := hp0.ok.own
    rw [flatD_cons] at hl
    rw [List.length_append] at hl
    obtain ⟨y, hy⟩ := ih (acc ++ flat1 w p) (some p) (fun q hq => hp q (List.mem_cons_of_mem _ hq)) (by rw [List.length_append]; omega)
    refine ⟨y, ?_⟩
    rw [forE_cons (ρ1 := [some (.str w), some P, some (.mlst acc), some p]) (by simp [po]), flatD_cons, ← List.append_assoc, ← hy]
    have step : execs (TL.run Pg N) body [some (.str w), some P, some (.mlst acc), some p] st = .nx [some (.str w), some P, some (.mlst (acc ++ flat1 w p)), some p] st := by
      subst hb
      have sl : (100000 : Nat) < PySem.sizeLine := by decide
      cases n with
      | zero => exact hp0.elim
      | succ n =>
        rcases hp0 with ⟨a, k, b, rfl⟩ | ⟨w', ts, a, b, e, rfl⟩ | ⟨a, t, b, c, rfl⟩ | ⟨k, t, c, rfl⟩
        · have l1 : acc.length < PySem.sizeLine := by simp [flat1] at hl; omega
          rcases hw with rfl | rfl | rfl <;> simp [dEqs, l1, flat1]
        · by_cases e : w' = w
          · subst e
            have l1 : acc.length + ts.length ≤ PySem.sizeLine := by simp [flat1] at hl; omega
            simp [dEqs, l1, flat1]
          · have l1 : acc.length < PySem.sizeLine := by simp [flat1, e] at hl; omega
            simp [dEqs, l1, flat1, e]
        · have l1 : acc.length < PySem.sizeLine := by
            have : flat1 (Str.ofString w) (.tup [.str "without", .str a, t]) = [.tup [.str "without", .str a, t]] := by simp [flat1]
            rw [this] at hl; simp at hl; omega
          rcases hw with rfl | rfl | rfl <;> simp [dEqs, l1, flat1]
        · have l1 : acc.length < PySem.sizeLine := by
            have : flat1 (Str.ofString w) (.tup [.str "within", .int k, t]) = [.tup [.str "within", .int k, t]] := by simp [flat1]
            rw [this] at hl; simp at hl; omega
          rcases hw with rfl | rfl | rfl <;> simp [dEqs, l1, flat1]
    rw [step]
    rfl
theorem w_flat {N n : Nat} (hN : 1 ≤ N) (hn : n ≤ 30) {w : String} (hw : w = "all" ∨ w = "any" ∨ w = "then") {st : Sto} {ps : List TL.D} (hp : ∀ p ∈ ps, Tk n p) (hl : (flatD w ps).length ≤ 100000) : TL.run Pg N 2 [.str w, .lst ps] st = .ok (.lst (flatD w ps)) st := by
  obtain ⟨N, rfl⟩ : ∃ M, N = M + 1 := ⟨N - 1, by omega⟩
  rw [run_c (F := c_flat) rfl rfl]
  obtain ⟨y, hy⟩ := flat_go (N := N) hn hw (st := st) (P := .lst ps) _ rfl ps [] none hp (by simpa using hl)
  simp [c_flat, enter, hy]
theorem unl_go {N n : Nat} (hn : n ≤ 30) {st : Sto} {P : TL.D} (body : List S) (hb : body = [.ifs (.inOwn true (.var 2) 1) [.app 1 (.var 2)] []]) :
    ∀ (ps acc : List TL.D) (x : Option TL.D), (∀ p ∈ ps, Tk n p) → (∀ p ∈ acc, Tk n p) → acc.length + ps.length ≤ 100000 → ∃ y, forE (TL.run Pg N) (.nm 2) body ps [some P, some (.mlst acc), x] st = .nx [some P, some (.mlst (dedGo acc ps)), y] st := by
  intro ps
  induction ps with
  | nil => intro acc x _ _ _; exact ⟨x, rfl⟩
  | cons p ps ih =>
    intro acc x hp ha hl
    have hp0 := hp p (List.mem_cons_self ..)
    have hp' : ∀ q ∈ ps, Tk n q := fun q hq => hp q (List.mem_cons_of_mem _ hq)
    have po := hp0.ok.own
    have sl : (100000 : Nat) < PySem.sizeLine := by decide
    simp only [List.length_cons] at hl
    have l1 : acc.length < PySem.sizeLine := by omega
    have i : inD p (.mlst acc) = some (isInD acc p) := by
      have a := hp0.ok.shp (by omega)
      have b := (okD_lst (ds := acc) fun d hd => (ha d hd).ok).shp (by omega)
      simp [inD, a, b, isInD]
    subst hb
    show ∃ y, _ = Fl.nx [_, some (.mlst (if isInD acc p then dedGo acc ps else dedGo (acc ++ [p]) ps)), y] st
    rw [forE_cons (ρ1 := [some P, some (.mlst acc), some p]) (by simp [po])]
    cases hi : isInD acc p with
    | true =>
      obtain ⟨y, hy⟩ := ih acc (some p) hp' ha (by omega)
      refine ⟨y, ?_⟩
      simp [po, i, hi, hy]
    | false =>
      obtain ⟨y, hy⟩ := ih (acc ++ [p]) (some p) hp' (fun q hq => by
        rcases List.mem_append.mp hq with hq | hq
        · exact ha q hq
        · rw [List.mem_singleton.mp hq]; exact hp0) (by rw [List.length_append, List.length_singleton]; omega)
      refine ⟨y, ?_⟩
      simp [po, i, hi, hy, l1]
theorem w_unlike_ones {N n : Nat} (hN : 1 ≤ N) (hn : n ≤ 30) {st : Sto} {ps : List TL.D} (hp : ∀ p ∈ ps, Tk n p) (hl : ps.length ≤ 100000) : TL.run Pg N 3 [.lst ps] st = .ok (.lst (dedGo [] ps)) st := by
  obtain ⟨N, rfl⟩ : ∃ M, N = M + 1 := ⟨N - 1, by omega⟩
  rw [run_c (F := c_unlike_ones) rfl rfl]
  obtain ⟨y, hy⟩ := unl_go (N := N) hn (st := st) (P := .lst ps) _ rfl ps [] none hp (by simp) (by simpa using hl)
  simp [c_unlike_ones, enter, hy]

end TP

namespace TP
open TL
open PySem (Str PyData)
open L2 (atI)
theorem sum_ded {f : TL.D → Nat} : ∀ (ps acc : List TL.D), ((dedGo acc ps).map f).sum ≤ (acc.map f).sum + (ps.map f).sum
  | [], acc => by simp [dedGo]
  | p :: ps, acc => by
    unfold dedGo
    split
    · have := sum_ded (f := f) ps acc
      simp only [List.map_cons, List.sum_cons]
      omega
    · have := sum_ded (f := f) ps (acc ++ [p])
      simp only [List.map_append, List.map_cons, List.map_nil, List.sum_append, List.sum_cons, List.sum_nil] at this ⊢
      omega
theorem sum_un {f : TL.D → Nat} (w : Str) (ps : List TL.D) : ((un w ps).map f).sum ≤ (ps.map f).sum := by
  unfold un
  split
  · exact Nat.le_refl _
  · have := sum_ded (f := f) ps []
    simpa using this
theorem sum_flat1 {n : Nat} {w : String} {p : TL.D} (h : Nf n p) : ((flat1 w p).map (szD n)).sum ≤ szD n p := by
  cases n with
  | zero => exact h.elim
  | succ n =>
    have key : flat1 (Str.ofString w) p = [p] ∨ ∃ ts, p = .tup [.str w, .tup ts] ∧ flat1 (Str.ofString w) p = ts ∧ ∀ t ∈ ts, Nf n t := by
      rcases h with ⟨a, k, b, rfl⟩ | ⟨w', ts, a, b, c, e, f, rfl⟩ | ⟨a, t, b, c, f, rfl⟩ | ⟨k, t, c, f, rfl⟩
      · exact .inl rfl
      · by_cases hw : w' = w
        · subst hw
          exact .inr ⟨ts, rfl, by simp [flat1], c⟩
        · exact .inl (by simp [flat1, hw])
      · exact .inl (by simp [flat1])
      · exact .inl (by simp [flat1])
    rcases key with e | ⟨ts, rfl, e, c⟩
    · rw [e]; simp
    · have em : ts.map (szD (n + 1)) = ts.map (szD n) := List.map_congr_left fun t ht => szD_succ (c t ht).tk
      rw [e, szD_grp, em]
      omega
theorem sum_flatD {n : Nat} {w : String} : ∀ {ps : List TL.D}, (∀ p ∈ ps, Nf n p) → ((flatD w ps).map (szD n)).sum ≤ (ps.map (szD n)).sum
  | [], _ => Nat.le_refl _
  | p :: ps, h => by
    have a := sum_flat1 (w := w) (h p (List.mem_cons_self ..))
    have b := sum_flatD (n := n) (w := w) fun q hq => h q (List.mem_cons_of_mem _ hq)
    rw [flatD_cons, List.map_append, List.sum_append, List.map_cons, List.sum_cons]
    omega
theorem sum_le {f g : TL.D → Nat} : ∀ {ts : List TL.D}, (∀ t ∈ ts, f t ≤ g t) → (ts.map f).sum ≤ (ts.map g).sum
  | [], _ => Nat.le_refl _
  | t :: ts, h => by
    have a := h t (List.mem_cons_self ..)
    have b := sum_le fun q hq => h q (List.mem_cons_of_mem _ hq)
    simp only [List.map_cons, List.sum_cons]
    omega
theorem szD_onc : ∀ {n : Nat} {d : TL.D}, Tk n d → szD n (onc n d) ≤ szD n d
  | 0, _, h => h.elim
  | n + 1, d, h => by
    rcases h with ⟨a, k, b, rfl⟩ | ⟨w, ts, a, b, e, rfl⟩ | ⟨a, t, b, c, rfl⟩ | ⟨k, t, c, rfl⟩
    · simp only [onc]; exact Nat.le_refl _
    · have nf : ∀ p ∈ ts.map (onc n), Nf n p := fun p hp => by
        obtain ⟨t, ht, rfl⟩ := List.mem_map.mp hp
        exact onc_nf (e t ht)
      have s1 := sum_flatD (w := w) nf
      have s2 := sum_un (f := szD n) w (flatD w (ts.map (onc n)))
      have s3 := sum_le (f := fun t => szD n (onc n t)) (g := szD n) fun t ht => szD_onc (e t ht)
      rw [List.map_map] at s1
      have s1 : ((flatD (Str.ofString w) (ts.map (onc n))).map (szD n)).sum ≤ (ts.map fun t => szD n (onc n t)).sum := s1
      have um : ∀ x ∈ un w (flatD w (ts.map (onc n))), Tk n x := fun x hx => (flatD_mem nf (un_mem hx)).1.tk
      rw [szD_grp]
      simp only [onc]
      generalize un w (flatD w (ts.map (onc n))) = U at *
      match U with
      | [] => simp [grp, szD_grp]
      | [x] =>
        show szD (n + 1) x ≤ _
        rw [szD_succ (um x (List.mem_singleton.mpr rfl))]
        simp only [List.map_cons, List.map_nil, List.sum_cons, List.sum_nil] at s2
        omega
      | x :: y :: r =>
        show szD (n + 1) (.tup [.str w, .tup (x :: y :: r)]) ≤ _
        rw [szD_grp]
        omega
    · have ih := szD_onc c
      have nf := onc_nf c
      have s := szD_succ nf.tk
      obtain ⟨z, ez⟩ := onc_wo (b := a) c
      rw [szD_wo c]
      obtain ⟨ds, rfl⟩ := c.isT
      simp only [onc]
      split
      · next w' b' u e =>
        rw [e] at ih s nf
        split
        · omega
        · rw [szD_wo nf.tk]; omega
      · rw [szD_wo nf.tk]; omega
    · have ih := szD_onc c
      have nf := onc_nf c
      rw [szD_wi]
      simp only [onc]
      split
      · next w' j u e =>
        rw [e] at ih nf
        split
        · next hc =>
          subst hc
          cases n with
          | zero => exact nf.elim
          | succ n =>
            rw [szD_wi] at ih
            rw [szD_wi, szD_succ nf.tk.wiI]
            omega
        · rw [szD_wi]; omega
      · rw [szD_wi]; omega
theorem flat_len {n : Nat} {w : String} {ts : List TL.D} (h : ∀ t ∈ ts, Tk n t) : (flatD w (ts.map (onc n))).length ≤ (ts.map (szD n)).sum := by
  have nf : ∀ p ∈ ts.map (onc n), Nf n p := fun p hp => by
    obtain ⟨t, ht, rfl⟩ := List.mem_map.mp hp
    exact onc_nf (h t ht)
  have s0 := szD_len (n := n) (ts := flatD w (ts.map (onc n))) fun x hx => (flatD_mem nf hx).1.tk
  have s1 := sum_flatD (w := w) nf
  have s3 := sum_le (f := fun t => szD n (onc n t)) (g := szD n) fun t ht => szD_onc (h t ht)
  rw [List.map_map] at s1
  have s1 : ((flatD (Str.ofString w) (ts.map (onc n))).map (szD n)).sum ≤ (ts.map fun t => szD n (onc n t)).sum := s1
  omega
theorem ti_do {N : Nat} (hN : 1 ≤ N) {a : Str} {k : Int} (st : Sto) : TL.run Pg N 0 [.tup [.str "do", .str a, .int k]] st = .ok (.tup []) st := by
  obtain ⟨N, rfl⟩ : ∃ M, N = M + 1 := ⟨N - 1, by omega⟩
  rw [run_c (F := c_tasks_in) rfl rfl]
  simp [c_tasks_in, enter, dEqs, inG]
theorem ti_grp {N : Nat} (hN : 1 ≤ N) {w : String} (hw : w = "all" ∨ w = "any" ∨ w = "then") {ts : List TL.D} (st : Sto) : TL.run Pg N 0 [.tup [.str w, .tup ts]] st = .ok (.tup ts) st := by
  obtain ⟨N, rfl⟩ : ∃ M, N = M + 1 := ⟨N - 1, by omega⟩
  rw [run_c (F := c_tasks_in) rfl rfl]
  rcases hw with rfl | rfl | rfl <;> simp [c_tasks_in, enter, dEqs, inG]
theorem ti_one {N : Nat} (hN : 1 ≤ N) {w : String} (hw : w = "without" ∨ w = "within") {x t : TL.D} (st : Sto) : TL.run Pg N 0 [.tup [.str w, x, t]] st = .ok (.tup [t]) st := by
  obtain ⟨N, rfl⟩ : ∃ M, N = M + 1 := ⟨N - 1, by omega⟩
  have cf := fun (x y z : TL.D) => cut_from [x, y, z] 2
  simp at cf
  rw [run_c (F := c_tasks_in) rfl rfl]
  rcases hw with rfl | rfl <;> simp [c_tasks_in, enter, dEqs, inG, cf]

end TP

namespace TP
open TL
open PySem (Str PyData)
open L2 (atI)
theorem inL' {n : Nat} {x : TL.D} {ds : List TL.D} (hx : okD n x) (hn : n + 1 ≤ 64) (h : ∀ d ∈ ds, okD n d) : dIn x (.lst ds) = some (.bl (isInD ds x)) := by
  have a := hx.shp (by omega)
  have b := (okD_lst h).shp hn
  simp [dIn, inD, a, b, isInD]
theorem w_with_do {N : Nat} (hN : 1 ≤ N) {a : Str} {k : Int} {x : List TL.D} (st : Sto) : TL.run Pg N 1 [.tup [.str "do", .str a, .int k], .lst x] st = .ok (.tup [.str "do", .str a, .int k]) st := by
  obtain ⟨N, rfl⟩ : ∃ M, N = M + 1 := ⟨N - 1, by omega⟩
  rw [run_c (F := c_with_tasks) rfl rfl]
  simp [c_with_tasks, enter, dEqs, inG]
theorem w_with_one {N : Nat} (hN : 1 ≤ N) {w : String} (hw : w = "without" ∨ w = "within") {x t u : TL.D} (st : Sto) : TL.run Pg N 1 [.tup [.str w, x, t], .lst [u]] st = .ok (.tup [.str w, x, u]) st := by
  obtain ⟨N, rfl⟩ : ∃ M, N = M + 1 := ⟨N - 1, by omega⟩
  have ct := fun (x y z : TL.D) => cut_to [x, y, z] 2
  simp at ct
  have ad := fun (a b c : TL.D) => oAddt (a := [a, b]) (b := [c]) (by simp)
  simp at ad
  rw [run_c (F := c_with_tasks) rfl rfl]
  rcases hw with rfl | rfl <;> simp [c_with_tasks, enter, dEqs, inG, ct, ad]
theorem once_grp {N n : Nat} (hn : 2 * n + 2 ≤ 60) (hN : 1 ≤ N) {w : String} (hw : w = "all" ∨ w = "any" ∨ w = "then") {ts : List TL.D} (h0 : ts ≠ []) (hg : ∀ t ∈ ts, Tk n t) (hs : (ts.map (szD n)).sum ≤ 50000) {st : Sto}
    (IH : ∀ t ∈ ts, TL.run Pg N 4 [t] st = .ok (onc n t) st) : TL.run Pg (N + 1) 4 [.tup [.str w, .tup ts]] st = .ok (onc (n + 1) (.tup [.str w, .tup ts])) st := by
  have nf : ∀ p ∈ ts.map (onc n), Nf n p := fun p hp => by
    obtain ⟨t, ht, rfl⟩ := List.mem_map.mp hp
    exact onc_nf (hg t ht)
  have fl := flat_len (w := w) hg
  have fm : ∀ x ∈ flatD w (ts.map (onc n)), Tk n x := fun x hx => (flatD_mem nf hx).1.tk
  have wf := w_flat (N := N) hN (n := n) (by omega) hw (st := st) (ps := ts.map (onc n)) (fun p hp => (nf p hp).tk) (by omega)
  have wu := w_unlike_ones (N := N) hN (n := n) (by omega) (st := st) (ps := flatD w (ts.map (onc n))) fm (by omega)
  have ne : ts.map (onc n) ≠ [] := by simpa using h0
  have gt := ti_grp (N := N) hN hw (ts := ts) st
  have go : (onc (n + 1) (.tup [.str w, .tup ts])).own = false := (onc_nf (n := n + 1) (.inr (.inl ⟨w, ts, hw, h0, hg, rfl⟩))).tk.ok.own
  have ug : ∀ us : List TL.D, (∀ x ∈ us, x.own = false) → us ≠ [] → (if ((us.length : Int) = 1) then atI us 0 else some (.tup [.str w, .tup us])) = some (grp w us) := by
    intro us _ h
    match us, h with
    | [x], _ => rfl
    | x :: y :: r, _ =>
      rw [if_neg (by simp only [List.length_cons]; omega)]
      rfl
  have une := un_ne (w := w) fm (by
    match ts, h0 with
    | t :: r, _ =>
      obtain ⟨y, hy⟩ := List.exists_mem_of_ne_nil _ (flat1_ne (w := w) (onc_nf (hg t (List.mem_cons_self ..))))
      exact List.ne_nil_of_mem (List.mem_flatMap.mpr ⟨_, List.mem_map.mpr ⟨t, List.mem_cons_self .., rfl⟩, hy⟩))
  have uo : ∀ x ∈ un w (flatD w (ts.map (onc n))), x.own = false := fun x hx => (fm x (un_mem hx)).ok.own
  rw [run_c (F := c_once) rfl rfl]
  simp only [onc]
  have lc : ∀ ρ : TL.Env, 3 < ρ.length → lcE (TL.run Pg N) (.call 4 [.var 3]) (.nm 3) [3] [] ts ρ st = .ok (ts.map (onc n)) st := by
    intro ρ h3
    have g3 : ∀ y, (ρ.set 3 y)[3]? = some y := fun y => by rw [List.getElem?_set_self h3]
    exact lcE_all fun t ht => ⟨ρ.set 3 (some t), by simp [(hg t ht).ok.own], by simp, by simp [(hg t ht).ok.own, g3, IH t ht], (onc_nf (hg t ht)).tk.ok.own⟩
  by_cases ht : w = "then"
  · subst ht
    have uu : un (Str.ofString "then") (flatD "then" (ts.map (onc n))) = flatD "then" (ts.map (onc n)) := by simp [un]
    rw [uu] at une uo ⊢
    have wf := wf
    generalize flatD (Str.ofString "then") (ts.map (onc n)) = us at *
    match us, une with
    | [x], _ =>
      have := uo x (List.mem_singleton.mpr rfl)
      simp [c_once, enter, gt, lc, dEqs, dNes, inG, wf, grp, this]
    | x :: y :: r, _ =>
      have l2 : ¬ ((r.length : Int) + 1 + 1 = 1) := by omega
      simp [c_once, enter, gt, lc, dEqs, dNes, inG, wf, grp, l2]
  · have uu : un (Str.ofString w) (flatD w (ts.map (onc n))) = dedGo [] (flatD w (ts.map (onc n))) := by simp [un, ht]
    rw [uu] at une uo ⊢
    generalize flatD (Str.ofString w) (ts.map (onc n)) = FF at *
    generalize dedGo [] FF = us at *
    match us, une with
    | [x], _ =>
      have := uo x (List.mem_singleton.mpr rfl)
      rcases hw with rfl | rfl | rfl
      · simp [c_once, enter, gt, lc, dEqs, dNes, inG, wf, wu, grp, this]
      · simp [c_once, enter, gt, lc, dEqs, dNes, inG, wf, wu, grp, this]
      · exact (ht rfl).elim
    | x :: y :: r, _ =>
      have l2 : ¬ ((r.length : Int) + 1 + 1 = 1) := by omega
      rcases hw with rfl | rfl | rfl
      · simp [c_once, enter, gt, lc, dEqs, dNes, inG, wf, wu, grp, l2]
      · simp [c_once, enter, gt, lc, dEqs, dNes, inG, wf, wu, grp, l2]
      · exact (ht rfl).elim
theorem once_wo {N n : Nat} (hn : 2 * n + 2 ≤ 60) (hN : 1 ≤ N) {b : Str} {t : TL.D} (hb : PyData.strOk b = true) (h : Tk n t) {st : Sto} (IH : TL.run Pg N 4 [t] st = .ok (onc n t) st) :
    TL.run Pg (N + 1) 4 [.tup [.str "without", .str b, t]] st = .ok (onc (n + 1) (.tup [.str "without", .str b, t])) st := by
  have nf := onc_nf h
  have gt := ti_one (N := N) hN (w := "without") (.inl rfl) (x := .str b) (t := t) st
  have ct3 := fun (x y z : TL.D) => cut_to [x, y, z] 2
  have ct2 := fun (x y : TL.D) => cut_to [x, y] 2
  simp at ct3 ct2
  have wo := w_with_one (N := N) hN (w := "without") (.inl rfl) (x := .str b) (t := t) (u := onc n t) st
  have lc : ∀ ρ : TL.Env, 3 < ρ.length → lcE (TL.run Pg N) (.call 4 [.var 3]) (.nm 3) [3] [] [t] ρ st = .ok [onc n t] st := by
    intro ρ h3
    have g3 : ∀ y, (ρ.set 3 y)[3]? = some y := fun y => by rw [List.getElem?_set_self h3]
    have := lcE_all (C := TL.run Pg N) (st := st) (ρ := ρ) (tg := .nm 3) (own := [3]) (elt := .call 4 [.var 3]) (cond := []) (g := onc n) (xs := [t]) fun s hs => by
      rw [List.mem_singleton.mp hs]
      exact ⟨ρ.set 3 (some t), by simp [h.ok.own], by simp, by simp [h.ok.own, g3, IH], nf.tk.ok.own⟩
    simpa using this
  have po : ∀ (x : String) (y : TL.D), okD 0 y → okD 1 (.tup [.str x, y]) := fun x y hy => okD_tup fun d hd => by
    simp at hd
    rcases hd with rfl | rfl
    · exact okD_str _ (strOk_of _)
    · exact hy
  rw [run_c (F := c_once) rfl rfl]
  obtain ⟨ds, rfl⟩ := h.isT
  cases n with
  | zero => exact h.elim
  | succ n =>
    have pb := po "without" (.str b) (okD_str 0 hb)
    simp only [onc]
    rcases nf with ⟨a, k, ha, e⟩ | ⟨w, ts, hw, h2, c, f1, f2, e⟩ | ⟨a, t, ha, c, f1, e⟩ | ⟨k, t, c, f1, e⟩
    · have ro : (TL.D.tup [.str "do", .str a, .int k]).own = false := rfl
      have de := dEq_ok (po "do" (.str a) (okD_str 0 ha)) pb (by decide) (by decide)
      simp only [eqv_cons, eqv_str, str_inj] at de
      simp at de
      rw [e] at lc wo
      rw [e]
      simp [c_once, enter, gt, lc, dEqs, dNes, inG, ct3, de, wo]
    · have de := dEq_ok (okD_tup (n := 2 * n + 1) (ds := [.str w, .tup ts]) fun d hd => by
        simp at hd
        rcases hd with rfl | rfl
        · exact okD_str _ (strOk_of _)
        · exact okD_tup fun t ht => (c t ht).tk.ok) pb (by omega) (by decide)
      have ww : w ≠ "without" := by rcases hw with rfl | rfl | rfl <;> decide
      simp only [eqv_cons, eqv_tup_str, eqv_str, str_inj] at de
      simp [ww] at de
      rw [e] at lc wo
      rw [e]
      simp [c_once, enter, gt, lc, dEqs, dNes, inG, ct3, ct2, de, wo]
    · have de := dEq_ok (po "without" (.str a) (okD_str 0 ha)) pb (by decide) (by decide)
      simp only [eqv_cons, eqv_str, str_inj] at de
      have n0 : (TL.D.tup []).eqv (.tup []) = true := rfl
      simp [n0] at de
      rw [e] at lc wo
      rw [e]
      by_cases hab : a = b
      · subst hab
        simp at de
        simp [c_once, enter, gt, lc, dEqs, dNes, inG, ct3, de, wo]
      · simp [hab] at de
        simp [c_once, enter, gt, lc, dEqs, dNes, inG, ct3, de, wo, hab]
    · have de := dEq_ok (po "within" (.int k) (okD_int 0 k)) pb (by decide) (by decide)
      simp only [eqv_cons, eqv_str, str_inj] at de
      simp at de
      rw [e] at lc wo
      rw [e]
      simp [c_once, enter, gt, lc, dEqs, dNes, inG, ct3, de, wo]

end TP

namespace TP
open TL
open PySem (Str PyData)
open L2 (atI)
theorem oMin (k j : Int) : o2 .min (.int k) (.int j) = some (.int (min k j)) := by
  show some (TL.D.int _) = _
  congr 2
  split <;> omega
theorem once_wi {N n : Nat} (hN : 1 ≤ N) {k : Int} {t : TL.D} (h : Tk n t) {st : Sto} (IH : TL.run Pg N 4 [t] st = .ok (onc n t) st) :
    TL.run Pg (N + 1) 4 [.tup [.str "within", .int k, t]] st = .ok (onc (n + 1) (.tup [.str "within", .int k, t])) st := by
  have nf := onc_nf h
  have gt := ti_one (N := N) hN (w := "within") (.inr rfl) (x := .int k) (t := t) st
  have wo := w_with_one (N := N) hN (w := "within") (.inr rfl) (x := .int k) (t := t) (u := onc n t) st
  have lc : ∀ ρ : TL.Env, 3 < ρ.length → lcE (TL.run Pg N) (.call 4 [.var 3]) (.nm 3) [3] [] [t] ρ st = .ok [onc n t] st := by
    intro ρ h3
    have g3 : ∀ y, (ρ.set 3 y)[3]? = some y := fun y => by rw [List.getElem?_set_self h3]
    have := lcE_all (C := TL.run Pg N) (st := st) (ρ := ρ) (tg := .nm 3) (own := [3]) (elt := .call 4 [.var 3]) (cond := []) (g := onc n) (xs := [t]) fun s hs => by
      rw [List.mem_singleton.mp hs]
      exact ⟨ρ.set 3 (some t), by simp [h.ok.own], by simp, by simp [h.ok.own, g3, IH], nf.tk.ok.own⟩
    simpa using this
  rw [run_c (F := c_once) rfl rfl]
  cases n with
  | zero => exact h.elim
  | succ n =>
    simp only [onc]
    rcases nf with ⟨a, i, ha, e⟩ | ⟨w, ts, hw, h2, c, f1, f2, e⟩ | ⟨a, v, ha, c, f1, e⟩ | ⟨j, v, c, f1, e⟩
    · rw [e] at lc wo
      rw [e]
      simp [c_once, enter, gt, lc, dEqs, dNes, inG, wo]
    · have ww : w ≠ "within" := by rcases hw with rfl | rfl | rfl <;> decide
      rw [e] at lc wo
      rw [e]
      simp [c_once, enter, gt, lc, dEqs, dNes, inG, wo, ww]
    · obtain ⟨vs, rfl⟩ := c.tk.isT
      rw [e] at lc wo
      rw [e]
      simp [c_once, enter, gt, lc, dEqs, dNes, inG, wo]
    · have vo := c.tk.ok.own
      rw [e] at lc wo
      rw [e]
      simp [c_once, enter, gt, lc, dEqs, dNes, inG, oMin, vo]
theorem mem_le_sum : ∀ {l : List Nat} {x : Nat}, x ∈ l → x ≤ l.sum
  | y :: l, x, h => by
    rw [List.sum_cons]
    rcases List.mem_cons.mp h with rfl | h
    · omega
    · have := mem_le_sum h; omega
theorem w_once : ∀ (n N : Nat) {t : TL.D} (st : Sto), 2 * n ≤ 50 → n + 1 ≤ N → Tk n t → szD n t ≤ 50000 → TL.run Pg N 4 [t] st = .ok (onc n t) st := by
  intro n
  induction n with
  | zero => intro N t st _ _ h; exact h.elim
  | succ n IH =>
    intro N t st hn hN h hs
    obtain ⟨N, rfl⟩ : ∃ M, N = M + 1 := ⟨N - 1, by omega⟩
    rcases h with ⟨a, k, b, rfl⟩ | ⟨w, ts, a, b, e, rfl⟩ | ⟨a, t, b, c, rfl⟩ | ⟨k, t, c, rfl⟩
    · have gt := ti_do (N := N) (by omega) (a := a) (k := k) st
      have wd := w_with_do (N := N) (by omega) (a := a) (k := k) (x := []) st
      have lc : ∀ ρ : TL.Env, lcE (TL.run Pg N) (.call 4 [.var 3]) (.nm 3) [3] [] [] ρ st = .ok [] st := fun ρ => rfl
      rw [run_c (F := c_once) rfl rfl]
      simp [c_once, enter, gt, lc, dEqs, dNes, inG, wd, onc]
    · rw [szD_grp] at hs
      refine once_grp (by omega) (by omega) a b e (by omega) fun t ht => IH N st (by omega) (by omega) (e t ht) ?_
      have := mem_le_sum (l := ts.map (szD n)) (List.mem_map.mpr ⟨t, ht, rfl⟩)
      omega
    · rw [szD_wo c] at hs
      exact once_wo (by omega) (by omega) b c (IH N st (by omega) (by omega) c (by omega))
    · rw [szD_wi] at hs
      exact once_wi (by omega) c (IH N st (by omega) (by omega) c (by omega))
theorem w_is_short {N n : Nat} (hn : 2 * n ≤ 50) (hN : n + 2 ≤ N) {t : TL.D} (st : Sto) (h : Tk n t) (hs : szD n t ≤ 50000) : TL.run Pg N 6 [t] st = .ok (.bl ((onc n t).eqv t)) st := by
  obtain ⟨N, rfl⟩ : ∃ M, N = M + 1 := ⟨N - 1, by omega⟩
  have w := w_once n N st hn (by omega) h hs
  have go := h.ok.own
  have de := dEq_ok (onc_nf h).tk.ok h.ok (by omega) (by omega)
  rw [run_c (F := c_is_short) rfl rfl]
  simp [c_is_short, enter, w, go, de]
theorem w_short {N n : Nat} (hn : 2 * n ≤ 50) (hN : n + 2 ≤ N) {t : TL.D} (st : Sto) (h : Tk n t) (hs : szD n t ≤ 50000) (ii : onc n (onc n t) = onc n t) : TL.run Pg N 5 [t] st = .ok (onc n t) st := by
  obtain ⟨N, rfl⟩ : ∃ M, N = M + 1 := ⟨N - 1, by omega⟩
  have w := w_once n N st hn (by omega) h hs
  have ho := (onc_nf h).tk
  have w2 := w_once n N st hn (by omega) ho (Nat.le_trans (szD_onc h) hs)
  rw [ii] at w2
  have go := h.ok.own
  have oo := ho.ok.own
  have dn := dNe_ok ho.ok h.ok (by omega) (by omega)
  have dn2 := dNe_ok ho.ok ho.ok (by omega) (by omega)
  rw [ho.refl] at dn2
  have wl : ∃ y, whileE (TL.run Pg N) (.o2 .ne (.var 1) (.var 0)) [.set 0 (.var 1), .set 1 (.call 4 [.var 0])] FU [some t, some (onc n t)] st = .nx [some (onc n t), y] st := by
    show ∃ y, whileGo _ _ FU _ _ = _
    unfold FU
    unfold whileGo
    cases he : (onc n t).eqv t with
    | true =>
      have e := ho.eq h he
      rw [he] at dn
      refine ⟨some (onc n t), ?_⟩
      simp [go, oo, dn]
      exact e.symm
    | false =>
      rw [he] at dn
      refine ⟨some (onc n t), ?_⟩
      simp [go, oo, dn, w2]
      unfold whileGo
      simp [oo, dn2]
  obtain ⟨y, wl⟩ := wl
  rw [run_c (F := c_short) rfl rfl]
  simp [c_short, enter, w, go, oo, wl]

end TP

namespace TP
open TL
open PySem (Str PyData)
open L2 (atI)
theorem mul0 (a : List TL.D) : o2 .mul (.lst a) (.int 0) = some (.lst []) := by
  show TL.dMul (.lst a) (.int 0) = _
  unfold TL.dMul
  simp
theorem mul1 {a : List TL.D} (h : a.length ≤ 100000) : o2 .mul (.lst a) (.int 1) = some (.lst a) := by
  show TL.dMul (.lst a) (.int 1) = _
  unfold TL.dMul
  have sl : (100000 : Nat) < PySem.sizeLine := by decide
  simp
  omega
theorem iG {x : String} : dIn (.str x) (.tup [.str "all", .str "any", .str "then"]) = some (.bl (decide (x = "all") || (decide (x = "any") || decide (x = "then")))) := inG
theorem p_do {N : Nat} (hN : 1 ≤ N) {a : Str} {k : Int} (st : Sto) : TL.run Pg N 14 [.tup [.str "do", .str a, .int k]] st = .ok (.lst []) st := by
  obtain ⟨N, rfl⟩ : ∃ M, N = M + 1 := ⟨N - 1, by omega⟩
  have cf := fun (x y z : TL.D) => cut_from [x, y, z] 2
  simp at cf
  rw [run_c (F := c__law_parts) rfl rfl]
  simp [c__law_parts, enter, dEqs, dNes, inG, cf, mul0]
theorem p_grp {N : Nat} (hN : 1 ≤ N) {w : String} (hw : w = "all" ∨ w = "any" ∨ w = "then") {ts : List TL.D} (st : Sto) : TL.run Pg N 14 [.tup [.str w, .tup ts]] st = .ok (.lst ts) st := by
  obtain ⟨N, rfl⟩ : ∃ M, N = M + 1 := ⟨N - 1, by omega⟩
  rw [run_c (F := c__law_parts) rfl rfl]
  rcases hw with rfl | rfl | rfl <;> simp [c__law_parts, enter, dEqs, inG]
theorem p_one {N : Nat} (hN : 1 ≤ N) {w : String} (hw : w = "without" ∨ w = "within") {x t : TL.D} (st : Sto) : TL.run Pg N 14 [.tup [.str w, x, t]] st = .ok (.lst [t]) st := by
  obtain ⟨N, rfl⟩ : ∃ M, N = M + 1 := ⟨N - 1, by omega⟩
  have cf := fun (x y z : TL.D) => cut_from [x, y, z] 2
  simp at cf
  have m1 := mul1 (a := [t]) (by simp)
  rw [run_c (F := c__law_parts) rfl rfl]
  rcases hw with rfl | rfl <;> simp [c__law_parts, enter, dEqs, dNes, inG, cf, m1]
theorem head_of {n : Nat} {p : TL.D} (h : Tk n p) {w : String} (hw : w = "all" ∨ w = "any" ∨ w = "then") : ∃ (w' : String) (rest : List TL.D), p = .tup (.str w' :: rest) ∧ ((w' = w ∧ ∃ us, rest = [.tup us]) ∨ (w' ≠ w ∧ flat1 w p = [p])) := by
  cases n with
  | zero => exact h.elim
  | succ n =>
    rcases h with ⟨a, k, b, rfl⟩ | ⟨w', ts, a, b, e, rfl⟩ | ⟨a, t, b, c, rfl⟩ | ⟨k, t, c, rfl⟩
    · exact ⟨"do", _, rfl, .inr ⟨by rcases hw with rfl | rfl | rfl <;> decide, rfl⟩⟩
    · by_cases e : w' = w
      · exact ⟨w', _, rfl, .inl ⟨e, ts, rfl⟩⟩
      · exact ⟨w', _, rfl, .inr ⟨e, by simp [flat1, e]⟩⟩
    · exact ⟨"without", _, rfl, .inr ⟨by rcases hw with rfl | rfl | rfl <;> decide, by simp [flat1]⟩⟩
    · exact ⟨"within", _, rfl, .inr ⟨by rcases hw with rfl | rfl | rfl <;> decide, by simp [flat1]⟩⟩
def enl (ts : List TL.D) (i : Nat) : List TL.D := (ts.zipIdx i).map fun p => .tup [.int (p.2 : Nat), p.1]
theorem enl_nil (i : Nat) : enl [] i = [] := rfl
theorem enl_cons (t : TL.D) (ts : List TL.D) (i : Nat) : enl (t :: ts) i = .tup [.int i, t] :: enl ts (i + 1) := rfl
theorem cut_pre {A C : List TL.D} {p : TL.D} : cutD (A ++ p :: C) none (some (A.length : Int)) = A ∧ cutD (A ++ p :: C) (some ((A.length : Int) + 1)) none = C := by
  refine ⟨?_, ?_⟩
  · rw [cut_to]
    simp
  · have := cut_from (A ++ p :: C) (A.length + 1)
    have e : (((A.length + 1 : Nat)) : Int) = (A.length : Int) + 1 := by omega
    rw [e] at this
    rw [this]
    simp [List.drop_append]
theorem step1 {N n : Nat} (hn : 2 * n ≤ 50) {w : String} (hw : w = "all" ∨ w = "any" ∨ w = "then") {ts : List TL.D} (hg : ∀ t ∈ ts, Tk n t) (hs : (ts.map (szD n)).sum ≤ 50000) {st : Sto} (body : List S)
    (hb : body = [.ifs (.o2 .eq (.o2 .ix (.var 4) (.con (.int 0))) (.var 1)) [.ret (.tup [.var 1, .o2 .add (.o2 .add (.o1 .tuple (.sl (.var 2) [] [.var 3])) (.o2 .ix (.var 4) (.con (.int 1)))) (.o1 .tuple (.sl (.var 2) [.o2 .add (.var 3) (.con (.int 1))] []))])] [], .ifs (.and [.o2 .ne (.var 1) (.con (.str "then")), .o2 .isIn (.var 4) (.sl (.var 2) [] [.var 3])]) [.ret (.tup [.var 1, .o1 .tuple (.o2 .add (.sl (.var 2) [] [.var 3]) (.sl (.var 2) [.o2 .add (.var 3) (.con (.int 1))] []))])] []]) :
    ∀ (C A : List TL.D) (x3 x4 x5 : Option TL.D), ts = A ++ C → (∃ u, forE (TL.run Pg N) (.tp [3, 4]) body (enl C A.length) [some (.tup [.str w, .tup ts]), some (.str w), some (.lst ts), x3, x4, x5] st = .rt u st ∧ Stp (.tup [.str w, .tup ts]) u ∧ u.own = false) ∨
      (∃ y3 y4, forE (TL.run Pg N) (.tp [3, 4]) body (enl C A.length) [some (.tup [.str w, .tup ts]), some (.str w), some (.lst ts), x3, x4, x5] st = .nx [some (.tup [.str w, .tup ts]), some (.str w), some (.lst ts), y3, y4, x5] st ∧ (∀ c ∈ C, flat1 w c = [c]) ∧ (w ≠ "then" → ∀ A' p C', C = A' ++ p :: C' → ¬ p ∈ A ++ A')) := by
  intro C
  induction C with
  | nil =>
    intro A x3 x4 x5 _
    exact .inr ⟨x3, x4, by rw [enl_nil, forE_nil], by simp, fun _ A' p C' e => by simp at e⟩
  | cons p C ih =>
    intro A x3 x4 x5 e
    have hp := hg p (by rw [e]; simp)
    have po := hp.ok.own
    have hA : ∀ a ∈ A, Tk n a := fun a ha => hg a (by rw [e]; exact List.mem_append_left _ ha)
    have len := szD_len hg
    have lenE : A.length + C.length + 1 ≤ 50000 := by
      rw [e] at len hs
      simp at len hs
      omega
    have c1 := (cut_pre (A := A) (p := p) (C := C)).1
    have c2 := (cut_pre (A := A) (p := p) (C := C)).2
    rw [← e] at c1 c2
    obtain ⟨w', rest, ep, hh⟩ := head_of hp hw
    rw [enl_cons]
    rcases hh with ⟨ew, us, eu⟩ | ⟨ew, ef⟩
    · subst ew eu
      have lu : us.length ≤ 50000 := by
        have := mem_le_sum (l := ts.map (szD n)) (List.mem_map.mpr ⟨p, by rw [e]; simp, rfl⟩)
        cases n with
        | zero => exact hp.elim
        | succ n =>
          rw [ep] at this hp
          rw [szD_grp] at this
          have := szD_len hp.grpI.2.2
          omega
      have a1 := oAddt (a := A) (b := us) (by omega)
      have a2 := oAddt (a := A ++ us) (b := C) (by rw [List.length_append]; omega)
      refine .inl ⟨.tup [.str w', .tup (A ++ us ++ C)], ?_, ?_, rfl⟩
      · subst hb
        rw [forE_cons (ρ1 := [some (.tup [.str w', .tup ts]), some (.str w'), some (.lst ts), some (.int A.length), some p, x5]) (by simp)]
        rw [ep]
        simp at a2
        simp [dEqs, c1, c2, a1, a2]
      · have := Stp.spl w' A us C hw
        rw [← ep, ← e] at this
        exact this
    · have ca : ((A.length : Int) + 1) = ((A ++ [p]).length : Int) := by simp
      have nxt := ih (A ++ [p]) (some (.int A.length)) (some p) x5 (by rw [e]; simp)
      have el : (A ++ [p]).length = A.length + 1 := by simp
      rw [el] at nxt
      have im := inL' (x := p) (ds := A) hp.ok (by omega) fun d hd => (hA d hd).ok
      cases hi : (decide (w ≠ "then") && isInD A p) with
      | true =>
        simp at hi
        have hw' : w = "all" ∨ w = "any" := by rcases hw with h | h | h; exact .inl h; exact .inr h; exact (hi.1 h).elim
        have pa := (isIn_mem hA hp).mp hi.2
        have a1 := oAddl (a := A) (b := C) (by omega)
        refine .inl ⟨.tup [.str w, .tup (A ++ C)], ?_, ?_, rfl⟩
        · subst hb
          rw [hi.2] at im
          rw [forE_cons (ρ1 := [some (.tup [.str w, .tup ts]), some (.str w), some (.lst ts), some (.int A.length), some p, x5]) (by simp)]
          rw [ep] at im ⊢
          simp [dEqs, dNes, c1, c2, im, a1, ew, hi.1]
        · have := Stp.dup w p A C hw' pa
          rw [← e] at this
          exact this
      | false =>
        have stp : execs (TL.run Pg N) body [some (.tup [.str w, .tup ts]), some (.str w), some (.lst ts), some (.int A.length), some p, x5] st = .nx [some (.tup [.str w, .tup ts]), some (.str w), some (.lst ts), some (.int A.length), some p, x5] st := by
          subst hb
          rw [ep] at im ⊢
          by_cases ht : w = "then"
          · subst ht
            simp [dEqs, dNes, ew]
          · have hi : isInD A (.tup (.str w' :: rest)) = false := by
              rw [← ep]
              simpa [ht] using hi
            rw [hi] at im
            simp [dEqs, dNes, c1, c2, im, ew, ht]
        rw [forE_cons (ρ1 := [some (.tup [.str w, .tup ts]), some (.str w), some (.lst ts), some (.int A.length), some p, x5]) (by simp), stp, seq_nx]
        rcases nxt with h | ⟨y3, y4, h1, h2, h3⟩
        · exact .inl h
        · refine .inr ⟨y3, y4, h1, fun c hc => ?_, fun wt A' q C' ec => ?_⟩
          · rcases List.mem_cons.mp hc with rfl | hc
            · exact ef
            · exact h2 c hc
          · match A', ec with
            | [], ec =>
              simp at ec
              obtain ⟨rfl, _⟩ := ec
              rw [List.append_nil]
              intro hm
              rw [(isIn_mem hA hp).mpr hm] at hi
              simp [wt] at hi
            | a :: A', ec =>
              simp at ec
              obtain ⟨rfl, ec⟩ := ec
              have := h3 wt A' q C' ec
              simpa using this

end TP

namespace TP
open TL
open PySem (Str PyData)
open L2 (atI)
theorem step_ne {n : Nat} {p u : TL.D} (h : Tk n p) (s : Stp p u) : u.eqv p = false := by
  cases e : u.eqv p with
  | false => rfl
  | true =>
    have := s.sz h
    rw [(s.tk h).eq h e] at this
    omega
theorem step2 {N n : Nat} (hn : 2 * n ≤ 50) {w : String} (hw : w = "all" ∨ w = "any" ∨ w = "then") {ts : List TL.D} (hg : ∀ t ∈ ts, Tk n t) (hs : (ts.map (szD n)).sum ≤ 50000) {st : Sto}
    (IH : ∀ p ∈ ts, ∃ u, TL.run Pg N 15 [p] st = .ok u st ∧ (Stp p u ∨ (u = p ∧ Fx n p))) (body : List S)
    (hb : body = [.set 5 (.call 15 [.var 4]), .ifs (.o2 .ne (.var 5) (.var 4)) [.ifs (.o2 .isIn (.var 1) (.tup [.con (.str "all"), .con (.str "any"), .con (.str "then")])) [.ret (.tup [.var 1, .o1 .tuple (.o2 .add (.o2 .add (.sl (.var 2) [] [.var 3]) (.lst [.var 5])) (.sl (.var 2) [.o2 .add (.var 3) (.con (.int 1))] []))])] [], .ret (.o2 .add (.sl (.var 0) [] [.con (.int 2)]) (.tup [.var 5]))] []]) :
    ∀ (C A : List TL.D) (x3 x4 x5 : Option TL.D), ts = A ++ C → (∃ u, forE (TL.run Pg N) (.tp [3, 4]) body (enl C A.length) [some (.tup [.str w, .tup ts]), some (.str w), some (.lst ts), x3, x4, x5] st = .rt u st ∧ Stp (.tup [.str w, .tup ts]) u) ∨
      (∃ y3 y4 y5, forE (TL.run Pg N) (.tp [3, 4]) body (enl C A.length) [some (.tup [.str w, .tup ts]), some (.str w), some (.lst ts), x3, x4, x5] st = .nx [some (.tup [.str w, .tup ts]), some (.str w), some (.lst ts), y3, y4, y5] st ∧ ∀ c ∈ C, Fx n c) := by
  intro C
  induction C with
  | nil =>
    intro A x3 x4 x5 _
    exact .inr ⟨x3, x4, x5, by rw [enl_nil, forE_nil], by simp⟩
  | cons p C ih =>
    intro A x3 x4 x5 e
    have hp := hg p (by rw [e]; simp)
    have po := hp.ok.own
    have len := szD_len hg
    have lenE : A.length + C.length + 1 ≤ 50000 := by
      rw [e] at len hs
      simp at len hs
      omega
    have c1 := (cut_pre (A := A) (p := p) (C := C)).1
    have c2 := (cut_pre (A := A) (p := p) (C := C)).2
    rw [← e] at c1 c2
    obtain ⟨u, hu, hc⟩ := IH p (by rw [e]; simp)
    have tu : Tk n u := by
      rcases hc with s | ⟨rfl, _⟩
      · exact s.tk hp
      · exact hp
    have uo := tu.ok.own
    have dn := dNe_ok tu.ok hp.ok (by omega) (by omega)
    have iw : (decide (w = "all") || (decide (w = "any") || decide (w = "then"))) = true := by rcases hw with rfl | rfl | rfl <;> decide
    have ig := inG (x := w)
    rw [iw] at ig
    rw [enl_cons]
    rcases hc with s | ⟨rfl, fx⟩
    · rw [step_ne hp s] at dn
      have a1 := oAddl (a := A) (b := [u]) (by simp; omega)
      have a2 := oAddl (a := A ++ [u]) (b := C) (by simp; omega)
      simp at a2
      refine .inl ⟨.tup [.str w, .tup (A ++ u :: C)], ?_, ?_⟩
      · subst hb
        rw [forE_cons (ρ1 := [some (.tup [.str w, .tup ts]), some (.str w), some (.lst ts), some (.int A.length), some p, x5]) (by simp [po])]
        simp [po, uo, hu, dn, ig, c1, c2, a1, a2]
      · have := Stp.inn w p u A C hw s
        rw [← e] at this
        exact this
    · rw [hp.refl] at dn
      have nxt := ih (A ++ [u]) (some (.int A.length)) (some u) (some u) (by rw [e]; simp)
      have el : (A ++ [u]).length = A.length + 1 := by simp
      rw [el] at nxt
      have stp : execs (TL.run Pg N) body [some (.tup [.str w, .tup ts]), some (.str w), some (.lst ts), some (.int A.length), some u, x5] st = .nx [some (.tup [.str w, .tup ts]), some (.str w), some (.lst ts), some (.int A.length), some u, some u] st := by
        subst hb
        simp [po, hu, dn]
      rw [forE_cons (ρ1 := [some (.tup [.str w, .tup ts]), some (.str w), some (.lst ts), some (.int A.length), some u, x5]) (by simp [po]), stp, seq_nx]
      rcases nxt with h | ⟨y3, y4, y5, h1, h2⟩
      · exact .inl h
      · refine .inr ⟨y3, y4, y5, h1, fun c hc => ?_⟩
        rcases List.mem_cons.mp hc with rfl | hc
        · exact fx
        · exact h2 c hc
theorem step2one {N n : Nat} (hn : 2 * n ≤ 50) {w : String} (hw : w = "without" ∨ w = "within") {x t : TL.D} (xo : x.own = false) (h : Tk n t) {u : TL.D} {st : Sto} (hu : TL.run Pg N 15 [t] st = .ok u st) (hc : Stp t u ∨ (u = t ∧ Fx n t)) (body : List S)
    (hb : body = [.set 5 (.call 15 [.var 4]), .ifs (.o2 .ne (.var 5) (.var 4)) [.ifs (.o2 .isIn (.var 1) (.tup [.con (.str "all"), .con (.str "any"), .con (.str "then")])) [.ret (.tup [.var 1, .o1 .tuple (.o2 .add (.o2 .add (.sl (.var 2) [] [.var 3]) (.lst [.var 5])) (.sl (.var 2) [.o2 .add (.var 3) (.con (.int 1))] []))])] [], .ret (.o2 .add (.sl (.var 0) [] [.con (.int 2)]) (.tup [.var 5]))] []])
    (x3 x4 x5 : Option TL.D) : (forE (TL.run Pg N) (.tp [3, 4]) body (enl [t] 0) [some (.tup [.str w, x, t]), some (.str w), some (.lst [t]), x3, x4, x5] st).seq (TL.execs (TL.run Pg N) [.ret (.var 0)]) = .rt (.tup [.str w, x, u]) st := by
  have ho := h.ok.own
  have tu : Tk n u := by
    rcases hc with s | ⟨rfl, _⟩
    · exact s.tk h
    · exact h
  have uo := tu.ok.own
  have dn := dNe_ok tu.ok h.ok (by omega) (by omega)
  have iw : (decide (w = "all") || (decide (w = "any") || decide (w = "then"))) = false := by rcases hw with rfl | rfl <;> decide
  have ig := inG (x := w)
  rw [iw] at ig
  have ct := fun (x y z : TL.D) => cut_to [x, y, z] 2
  simp at ct
  have ad := fun (a b c : TL.D) => oAddt (a := [a, b]) (b := [c]) (by simp)
  simp at ad
  subst hb
  rw [enl_cons, enl_nil, forE_cons (ρ1 := [some (.tup [.str w, x, t]), some (.str w), some (.lst [t]), some (.int (0 : Nat)), some t, x5]) (by simp [ho])]
  rcases hc with s | ⟨rfl, _⟩
  · rw [step_ne h s] at dn
    simp [ho, uo, hu, dn, ig, ct, ad]
  · rw [h.refl] at dn
    simp [ho, hu, dn, forE_nil]
theorem enl_fold (ts : List TL.D) : (ts.zipIdx.map fun p => TL.D.tup [.int (p.2 : Nat), p.1]) = enl ts 0 := rfl
theorem w__law_step : ∀ (n N : Nat) {t : TL.D} (st : Sto), 2 * n ≤ 50 → n + 1 ≤ N → Tk n t → szD n t ≤ 50000 → ∃ u, TL.run Pg N 15 [t] st = .ok u st ∧ (Stp t u ∨ (u = t ∧ Fx n t)) := by
  intro n
  induction n with
  | zero => intro N t st _ _ h; exact h.elim
  | succ n IH =>
    intro N t st hn hN h hs
    obtain ⟨N, rfl⟩ : ∃ M, N = M + 1 := ⟨N - 1, by omega⟩
    rw [run_c (F := c__law_step) rfl rfl]
    rcases h with ⟨a, k, b, rfl⟩ | ⟨w, ts, hw, h0, hg, rfl⟩ | ⟨b, t, hb, c, rfl⟩ | ⟨k, t, c, rfl⟩
    · have pp := p_do (N := N) (by omega) (a := a) (k := k) st
      have dn := dNe_ok (okD_lst (n := 0) (ds := []) (fun _ h => nomatch h)) (okD_lst (n := 0) (ds := []) (fun _ h => nomatch h)) (by decide) (by decide)
      rw [eqv_lst_nil] at dn
      simp at dn
      exact ⟨_, by simp [c__law_step, enter, pp, dEqs, inG, dn, forE_nil], .inr ⟨rfl, .inl ⟨a, k, rfl⟩⟩⟩
    · have pp := p_grp (N := N) (by omega) hw (ts := ts) st
      rw [szD_grp] at hs
      have iw : (decide (w = "all") || (decide (w = "any") || decide (w = "then"))) = true := by rcases hw with rfl | rfl | rfl <;> decide
      have ig := inG (x := w)
      rw [iw] at ig
      by_cases h1 : ts.length = 1
      · match ts, h1 with
        | [x], _ =>
          have xo := (hg x (List.mem_singleton.mpr rfl)).ok.own
          exact ⟨x, by simp [c__law_step, enter, pp, ig, xo], .inl (.one w x hw)⟩
      · have l1 : ¬ ((ts.length : Int) = 1) := by omega
        have s1 := step1 (N := N) (by omega) hw hg (by omega) (st := st) _ rfl ts [] none none none rfl
        rcases s1 with ⟨u, f1, s, uo⟩ | ⟨y3, y4, f1, nf, nd⟩
        · refine ⟨u, ?_, .inl s⟩
          simp at f1
          simp [-List.map_map, c__law_step, enter, pp, ig, l1, enl_fold, f1]
        · have s2 := step2 (N := N) (by omega) hw hg (by omega) (st := st) (fun p hp => IH N st (by omega) (by omega) (hg p hp) (by
            have := mem_le_sum (l := ts.map (szD n)) (List.mem_map.mpr ⟨p, hp, rfl⟩)
            omega)) _ rfl ts [] y3 y4 none rfl
          rcases s2 with ⟨u, f2, s⟩ | ⟨z3, z4, z5, f2, fx⟩
          · refine ⟨u, ?_, .inl s⟩
            simp at f1 f2
            simp [-List.map_map, c__law_step, enter, pp, ig, l1, enl_fold, f1, f2]
          · refine ⟨_, ?_, .inr ⟨rfl, .inr (.inl ⟨w, ts, ?_, fx, nf, ?_, rfl⟩)⟩⟩
            · simp at f1 f2
              simp [-List.map_map, c__law_step, enter, pp, ig, l1, enl_fold, f1, f2]
            · have : ts.length ≠ 0 := fun e => h0 (List.length_eq_zero_iff.mp e)
              omega
            · simpa using nd
    · have pp := p_one (N := N) (by omega) (w := "without") (.inl rfl) (x := .str b) (t := t) st
      rw [szD_wo c] at hs
      obtain ⟨u, hu, hc⟩ := IH N st (by omega) (by omega) c (by omega)
      have lp := step2one (N := N) (n := n) (by omega) (w := "without") (.inl rfl) (x := .str b) rfl c hu hc _ rfl none none none
      rw [show enl [t] 0 = [TL.D.tup [.int 0, t]] from rfl] at lp
      have dl := dNe_ok (okD_lst (n := 2 * n) (ds := [t]) fun d hd => by rw [List.mem_singleton.mp hd]; exact c.ok) (okD_lst (n := 0) (ds := []) (fun _ h => nomatch h)) (by omega) (by decide)
      rw [eqv_lst_nil] at dl
      simp at dl
      have to := c.ok.own
      have res : (Stp (.tup [.str "without", .str b, t]) (.tup [.str "without", .str b, u]) ∨ (TL.D.tup [.str "without", .str b, u] = .tup [.str "without", .str b, t] ∧ (Fx n t ∧ u = t))) := by
        rcases hc with s | ⟨rfl, fx⟩
        · exact .inl (.woi b t u s)
        · exact .inr ⟨rfl, fx, rfl⟩
      have fin : (∀ v, t ≠ .tup [.str "without", .str b, v]) → (Stp (.tup [.str "without", .str b, t]) (.tup [.str "without", .str b, u]) ∨ (TL.D.tup [.str "without", .str b, u] = .tup [.str "without", .str b, t] ∧ Fx (n + 1) (.tup [.str "without", .str b, t]))) := fun nv => res.imp id fun ⟨e, fx, _⟩ => ⟨e, .inr (.inr (.inl ⟨b, t, fx, nv, rfl⟩))⟩
      cases n with
      | zero => exact c.elim
      | succ n =>
        rcases c with ⟨a, k, ha, rfl⟩ | ⟨w, ts, hw, h0, hg, rfl⟩ | ⟨a, v, ha, c, rfl⟩ | ⟨k, v, c, rfl⟩
        · refine ⟨_, ?_, fin (by simp)⟩
          simp [-List.map_map, c__law_step, enter, pp, dEqs, inG, dl, enl_fold, lp]
        · have ww : w ≠ "without" := by rcases hw with rfl | rfl | rfl <;> decide
          refine ⟨_, ?_, fin (by simp)⟩
          simp [-List.map_map, c__law_step, enter, pp, dEqs, inG, dl, enl_fold, lp, ww]
        · by_cases hab : b = a
          · subst hab
            exact ⟨.tup [.str "without", .str b, v], by simp [-List.map_map, c__law_step, enter, pp, dEqs, inG, dl, ha], .inl (.wow b v)⟩
          · refine ⟨_, ?_, fin (fun z e => by simp at e; exact hab e.1.symm)⟩
            simp [-List.map_map, c__law_step, enter, pp, dEqs, inG, dl, enl_fold, lp, ha, hb, hab]
        · refine ⟨_, ?_, fin (by simp)⟩
          simp [-List.map_map, c__law_step, enter, pp, dEqs, inG, dl, enl_fold, lp]
    · have pp := p_one (N := N) (by omega) (w := "within") (.inr rfl) (x := .int k) (t := t) st
      rw [szD_wi] at hs
      obtain ⟨u, hu, hc⟩ := IH N st (by omega) (by omega) c (by omega)
      have lp := step2one (N := N) (n := n) (by omega) (w := "within") (.inr rfl) (x := .int k) rfl c hu hc _ rfl none none none
      rw [show enl [t] 0 = [TL.D.tup [.int 0, t]] from rfl] at lp
      have dl := dNe_ok (okD_lst (n := 2 * n) (ds := [t]) fun d hd => by rw [List.mem_singleton.mp hd]; exact c.ok) (okD_lst (n := 0) (ds := []) (fun _ h => nomatch h)) (by omega) (by decide)
      rw [eqv_lst_nil] at dl
      simp at dl
      have to := c.ok.own
      have res : (Stp (.tup [.str "within", .int k, t]) (.tup [.str "within", .int k, u]) ∨ (TL.D.tup [.str "within", .int k, u] = .tup [.str "within", .int k, t] ∧ (Fx n t ∧ u = t))) := by
        rcases hc with s | ⟨rfl, fx⟩
        · exact .inl (.wii k t u s)
        · exact .inr ⟨rfl, fx, rfl⟩
      have fin : (∀ j v, t ≠ .tup [.str "within", .int j, v]) → (Stp (.tup [.str "within", .int k, t]) (.tup [.str "within", .int k, u]) ∨ (TL.D.tup [.str "within", .int k, u] = .tup [.str "within", .int k, t] ∧ Fx (n + 1) (.tup [.str "within", .int k, t]))) := fun nv => res.imp id fun ⟨e, fx, _⟩ => ⟨e, .inr (.inr (.inr ⟨k, t, fx, nv, rfl⟩))⟩
      cases n with
      | zero => exact c.elim
      | succ n =>
        rcases c with ⟨a, i, ha, rfl⟩ | ⟨w, ts, hw, h0, hg, rfl⟩ | ⟨a, v, ha, c, rfl⟩ | ⟨j, v, c, rfl⟩
        · refine ⟨_, ?_, fin (by simp)⟩
          simp [-List.map_map, c__law_step, enter, pp, dEqs, inG, dl, enl_fold, lp]
        · have ww : w ≠ "within" := by rcases hw with rfl | rfl | rfl <;> decide
          refine ⟨_, ?_, fin (by simp)⟩
          simp [-List.map_map, c__law_step, enter, pp, dEqs, inG, dl, enl_fold, lp, ww]
        · refine ⟨_, ?_, fin (by simp)⟩
          simp [-List.map_map, c__law_step, enter, pp, dEqs, inG, dl, enl_fold, lp]
        · have vo := c.ok.own
          exact ⟨.tup [.str "within", .int (min k j), v], by simp [-List.map_map, c__law_step, enter, pp, dEqs, inG, dl, oMin, vo], .inl (.wiw k j v)⟩

end TP

namespace TP
open TL
open PySem (Str PyData)
open L2 (atI)
theorem Good.tk : ∀ {n : Nat} {d : TL.D}, Good n d → Tk n d
  | 0, _, h => h.elim
  | n + 1, d, h => by
    rcases h with ⟨a, k, b, _, e⟩ | ⟨w, ts, a, b, b2, c, e, f⟩ | ⟨a, t, b, c, e⟩ | ⟨k, t, b, c, e⟩
    · exact .inl ⟨a, k, b.1, e⟩
    · exact .inr (.inl ⟨w, ts, a, b, fun t ht => (e t ht).tk, f⟩)
    · exact .inr (.inr (.inl ⟨a, t, b.1, c.tk, e⟩))
    · exact .inr (.inr (.inr ⟨k, t, c.tk, e⟩))
theorem sum_bd {f : TL.D → Nat} {B : Nat} : ∀ {ds : List TL.D}, (∀ d ∈ ds, f d ≤ B) → (ds.map f).sum ≤ ds.length * B
  | [], _ => by simp
  | d :: ds, h => by
    have a := h d (List.mem_cons_self ..)
    have b := sum_bd (f := f) (B := B) fun x hx => h x (List.mem_cons_of_mem _ hx)
    rw [List.map_cons, List.sum_cons, List.length_cons, Nat.succ_mul]
    omega
theorem grp_sz {n : Nat} {w : Str} {ds : List TL.D} (hl : ds.length ≤ 3) (h : ∀ d ∈ ds, szD (n + 1) d ≤ 4 ^ (n + 1)) : szD (n + 1 + 1) (.tup [.str w, .tup ds]) ≤ 4 ^ (n + 1 + 1) := by
  have p4 : 4 ^ (n + 1 + 1) = 4 * 4 ^ (n + 1) := by rw [Nat.pow_succ, Nat.mul_comm]
  have p1 : 1 ≤ 4 ^ (n + 1) := Nat.one_le_pow _ _ (by decide)
  have b := sum_bd (f := szD (n + 1)) h
  have c : ds.length * 4 ^ (n + 1) ≤ 3 * 4 ^ (n + 1) := Nat.mul_le_mul_right _ hl
  rw [szD_grp]
  omega
theorem w__law_task2 : ∀ (n N : Nat) (z : Int) (m : Nat) (st : Sto), 1 ≤ m → m ≤ 1000 → n + 2 ≤ N → ∃ d, (Good (n + 1) d ∧ szD (n + 1) d ≤ 4 ^ (n + 1)) ∧ TL.run Pg N 10 [.int z, .int ((n : Int) + 1), .int m] st = .ok d st := by
  intro n
  induction n with
  | zero =>
    intro N z m st h1 h2 hN
    obtain ⟨N, rfl⟩ : ∃ M, N = M + 1 := ⟨N - 1, by omega⟩
    obtain ⟨a, ha, ea⟩ := letter3 (z / 8)
    have d8 := oDiv (i := z) (j := 8) (by decide) (by decide)
    have r3 := oMod (i := z / 8) (j := 3) (by decide)
    have r8 := oMod (i := z) (j := 8) (by decide)
    have d64 := oDiv (i := z) (j := 64) (by decide) (by decide)
    have rm := oMod (i := z / 64) (j := m) (by omega)
    have hm := Int.emod_nonneg (z / 64) (b := (m : Int)) (by omega)
    refine ⟨.tup [.str "do", .str a, .int (1 + z / 64 % m)], ⟨.inl ⟨a, _, ha, by omega, rfl⟩, by simp only [szD]; exact Nat.one_le_pow _ _ (by decide)⟩, ?_⟩
    rw [run_c (F := c__law_task) rfl rfl]
    simp [c__law_task, enter, d8, r3, r8, ea, d64, rm]
  | succ n ih =>
    intro N z m st h1 h2 hN
    obtain ⟨N, rfl⟩ : ∃ M, N = M + 1 := ⟨N - 1, by omega⟩
    obtain ⟨a, ha, ea⟩ := letter3 (z / 8)
    have d8 := oDiv (i := z) (j := 8) (by decide) (by decide)
    have r3 := oMod (i := z / 8) (j := 3) (by decide)
    have r8 := oMod (i := z) (j := 8) (by decide)
    have d64 := oDiv (i := z) (j := 64) (by decide) (by decide)
    have rm := oMod (i := z / 64) (j := m) (by omega)
    have hm := Int.emod_nonneg (z / 64) (b := (m : Int)) (by omega)
    have k0 := Int.emod_nonneg z (b := 8) (by decide)
    have k8 := Int.emod_lt_of_pos z (b := 8) (by decide)
    have sn : (((n + 1 : Nat) : Int) + 1 - 1) = (n : Int) + 1 := by omega
    have ne : ¬ (((n + 1 : Nat) : Int) + 1 = 1) := by omega
    rw [run_c (F := c__law_task) rfl rfl]
    generalize ((n + 1 : Nat) : Int) + 1 = nn at *
    generalize hk : z % 8 = k at *
    have p4 : 4 ^ (n + 1 + 1) = 4 * 4 ^ (n + 1) := by rw [Nat.pow_succ, Nat.mul_comm]
    have p1 : 1 ≤ 4 ^ (n + 1) := Nat.one_le_pow _ _ (by decide)
    by_cases lt2 : k < 2
    · refine ⟨.tup [.str "do", .str a, .int (1 + z / 64 % m)], ⟨.inl ⟨a, _, ha, by omega, rfl⟩, by simp only [szD]; exact Nat.one_le_pow _ _ (by decide)⟩, ?_⟩
      simp [c__law_task, enter, d8, r3, r8, ea, d64, rm, ne, lt2]
    by_cases e6 : k = 6
    · subst e6
      have w := w__law_drawn (N := N) (by omega) z 1 st
      obtain ⟨t, ⟨gt, sz⟩, wt⟩ := ih N (drawZ z 1 / 4) m st h1 h2 (by omega)
      have gt0 := gt.ok.own
      have d4 := oDiv (i := drawZ z 1) (j := 4) (by decide) (by decide)
      refine ⟨.tup [.str "without", .str a, t], ⟨.inr (.inr (.inl ⟨a, t, ha, gt, rfl⟩)), by rw [szD_wo gt.tk]; omega⟩, ?_⟩
      simp [c__law_task, enter, d8, r3, r8, ea, d64, rm, ne, sn, w, d4, wt, gt0]
    by_cases e7 : k = 7
    · subst e7
      have w := w__law_drawn (N := N) (by omega) z 2 st
      obtain ⟨t, ⟨gt, sz⟩, wt⟩ := ih N (drawZ z 2 / 4) m st h1 h2 (by omega)
      have gt0 := gt.ok.own
      have d4 := oDiv (i := drawZ z 2) (j := 4) (by decide) (by decide)
      have d10 := oDiv (i := z) (j := 1024) (by decide) (by decide)
      have r2 := oMod (i := z / 1024) (j := 2) (by decide)
      have q0 := Int.emod_nonneg (z / 1024) (b := 2) (by decide)
      have q1 := Int.emod_lt_of_pos (z / 1024) (b := 2) (by decide)
      obtain ⟨y, hy, ey⟩ : ∃ y : Int, 1 ≤ y ∧ o2 .ix (.tup [.int 9, .int 4]) (.int (z / 1024 % 2)) = some (.int y) := by
        generalize z / 1024 % 2 = j at *
        have : j = 0 ∨ j = 1 := by omega
        rcases this with rfl | rfl
        · exact ⟨9, by decide, by simp⟩
        · exact ⟨4, by decide, by simp⟩
      rw [oIx] at ey
      have ry := oMod (i := z / 64) (j := y) (by omega)
      have hy0 := Int.emod_nonneg (z / 64) (b := y) (by omega)
      refine ⟨.tup [.str "within", .int (1 + z / 64 % y), t], ⟨.inr (.inr (.inr ⟨_, t, by omega, gt, rfl⟩)), by rw [szD_wi]; omega⟩, ?_⟩
      simp [c__law_task, enter, d8, r3, r8, ea, d64, rm, ne, sn, w, d4, wt, gt0, d10, r2, ey, ry]
    have r3' := oMod (i := z / 64) (j := 3) (by decide)
    have p0 := Int.emod_nonneg (z / 64) (b := 3) (by decide)
    have p1 := Int.emod_lt_of_pos (z / 64) (b := 3) (by decide)
    obtain ⟨wd, hw, ew⟩ : ∃ w : String, (w = "all" ∨ w = "any" ∨ w = "then") ∧ atI [TL.D.str "all", .str "any", .str "then", .str "all"] (k - 2) = some (.str w) := by
      have : k = 2 ∨ k = 3 ∨ k = 4 ∨ k = 5 := by omega
      rcases this with rfl | rfl | rfl | rfl
      · exact ⟨"all", .inl rfl, rfl⟩
      · exact ⟨"any", .inr (.inl rfl), rfl⟩
      · exact ⟨"then", .inr (.inr rfl), rfl⟩
      · exact ⟨"all", .inl rfl, rfl⟩
    generalize hq : 1 + z / 64 % 3 = q at *
    have lc : ∀ (q : Int), 0 ≤ q → q ≤ 100 → ∃ ds, lcE (TL.run Pg N) (.call 10 [.o2 .div (.call 9 [.var 0, .o2 .add (.con (.int 3)) (.var 7)]) (.con (.int 4)), .o2 .sub (.var 1) (.con (.int 1)), .var 2]) (.nm 7) [7] [] ((List.range q.toNat).map fun (i : Nat) => .int (i : Int)) [some (.int z), some (.int nn), some (.int m), some (.str a), some (.int k), some (.int q), some (.str wd), none] st = .ok ds st ∧ ds.length = q.toNat ∧ ∀ d ∈ ds, (Good (n + 1) d ∧ szD (n + 1) d ≤ 4 ^ (n + 1)) := by
      intro q h0 h100
      have z := lcE_ex (C := TL.run Pg N) (P := fun d => Good (n + 1) d ∧ szD (n + 1) d ≤ 4 ^ (n + 1)) (st := st) (ρ := [some (.int z), some (.int nn), some (.int m), some (.str a), some (.int k), some (.int q), some (.str wd), none]) (tg := .nm 7) (own := [7]) (cond := [])
        (elt := .call 10 [.o2 .div (.call 9 [.var 0, .o2 .add (.con (.int 3)) (.var 7)]) (.con (.int 4)), .o2 .sub (.var 1) (.con (.int 1)), .var 2])
        (xs := (List.range q.toNat).map fun (i : Nat) => .int (i : Int)) (fun x hx => by
          obtain ⟨i, _, rfl⟩ := List.mem_map.mp hx
          obtain ⟨t, ⟨gt, sz⟩, wt⟩ := ih N (drawZ z (3 + i) / 4) m st h1 h2 (by omega)
          have w := w__law_drawn (N := N) (by omega) z (3 + i) st
          have d4 := oDiv (i := drawZ z (3 + i)) (j := 4) (by decide) (by decide)
          exact ⟨_, t, by simp [bindT, wipeE]; rfl, by simp, by simp [w, d4, sn, wt], gt.ok.own, gt, sz⟩)
      rw [List.length_map, List.length_range] at z
      exact z
    by_cases ht : wd = "then"
    · subst ht
      obtain ⟨ds, e, hl, hg⟩ := lc (max 2 q) (by omega) (by omega)
      have rg := itRng (k := max 2 q) (by omega) (by omega)
      have mx : o2 .max (.int 2) (.int q) = some (.int (max 2 q)) := by
        show some (TL.D.int _) = _
        congr 2
        split <;> omega
      refine ⟨.tup [.str "then", .tup ds], ⟨.inr (.inl ⟨"then", ds, hw, by rintro rfl; simp at hl; omega, by omega, fun _ => by omega, fun d hd => (hg d hd).1, rfl⟩), grp_sz (by omega) fun d hd => (hg d hd).2⟩, ?_⟩
      simp [c__law_task, enter, d8, r3, r8, ea, d64, rm, ne, sn, lt2, e6, e7, r3', hq, ew, mx, dEqs, rg, e]
    · obtain ⟨ds, e, hl, hg⟩ := lc q (by omega) (by omega)
      have rg := itRng (k := q) (by omega) (by omega)
      refine ⟨.tup [.str wd, .tup ds], ⟨.inr (.inl ⟨wd, ds, hw, by rintro rfl; simp at hl; omega, by omega, fun h => (ht h).elim, fun d hd => (hg d hd).1, rfl⟩), grp_sz (by omega) fun d hd => (hg d hd).2⟩, ?_⟩
      simp [c__law_task, enter, d8, r3, r8, ea, d64, rm, ne, sn, lt2, e6, e7, r3', hq, ew, ht, dEqs, rg, e, str_inj]

end TP

namespace TP
open TL
open PySem (Str PyData)
open L2 (atI)
abbrev lawN : Nat := 60
theorem w__law_rest {N : Nat} (hN : 1 ≤ N) {ts : List TL.D} (h0 : ts ≠ []) (ho : ∀ t ∈ ts, t.own = false) (st : Sto) : TL.run Pg N 13 [.tup ts] st = .ok (grp "then" ts) st := by
  obtain ⟨N, rfl⟩ : ∃ M, N = M + 1 := ⟨N - 1, by omega⟩
  rw [run_c (F := c__law_rest) rfl rfl]
  match ts, h0 with
  | [x], _ =>
    have := ho x (List.mem_singleton.mpr rfl)
    simp [c__law_rest, enter, grp, this]
  | x :: y :: r, _ =>
    have l2 : ¬ ((r.length : Int) + 1 + 1 = 1) := by omega
    simp [c__law_rest, enter, grp, l2]
theorem letter4 (i : Int) : ∃ a, PyData.strOk a = true ∧ o2 .ix (.str "abcd") (.int (i % 4)) = some (.str a) := by
  have h1 := Int.emod_nonneg i (b := 4) (by decide)
  have h2 := Int.emod_lt_of_pos i (b := 4) (by decide)
  generalize i % 4 = j at *
  have : j = 0 ∨ j = 1 ∨ j = 2 ∨ j = 3 := by omega
  rcases this with rfl | rfl | rfl | rfl
  · exact ⟨⟨#[97]⟩, by decide +kernel, rfl⟩
  · exact ⟨⟨#[98]⟩, by decide +kernel, rfl⟩
  · exact ⟨⟨#[99]⟩, by decide +kernel, rfl⟩
  · exact ⟨⟨#[100]⟩, by decide +kernel, rfl⟩
theorem oRev (ds : List TL.D) : o1 .rev (.tup ds) = some (.tup ds.reverse) := rfl
theorem w__law_other {N : Nat} (hN : 20 ≤ N) {t : TL.D} (g : Good 4 t) (hs : szD 4 t ≤ 256) (z : Int) (st : Sto) : ∃ u, (Tk 6 u ∧ szD 6 u ≤ 5000) ∧ TL.run Pg N 12 [t, .int z] st = .ok u st := by
  obtain ⟨N, rfl⟩ : ∃ M, N = M + 1 := ⟨N - 1, by omega⟩
  have tk := g.tk
  have to := tk.ok.own
  have r8 := oMod (i := z) (j := 8) (by decide)
  have d8 := oDiv (i := z) (j := 8) (by decide) (by decide)
  have r9 := oMod (i := z / 8) (j := 9) (by decide)
  have r4 := oMod (i := z / 8) (j := 4) (by decide)
  obtain ⟨a, ha, ea⟩ := letter4 (z / 8)
  obtain ⟨v, ⟨gv, sv⟩, wv⟩ := w__law_task2 1 N (z / 8) 2 st (by decide) (by decide) (by omega)
  have vo := gv.ok.own
  have kv := gv.tk
  have e5 : szD 5 t = szD 4 t := szD_succ tk
  have e6 : szD 6 t = szD 4 t := by rw [szD_succ tk.succ, e5]
  have dflt : ∃ u, Tk 6 u ∧ szD 6 u ≤ 5000 ∧ u = v := ⟨v, kv.mono (by decide), by
    have h1 := szD_succ (n := 2) kv
    have h2 := szD_succ (n := 3) kv.succ
    have h3 := szD_succ (n := 4) kv.succ.succ
    have h4 := szD_succ (n := 5) kv.succ.succ.succ
    have : szD 6 v = szD 2 v := by rw [h4, h3, h2, h1]
    have sv' : szD 2 v ≤ 16 := sv
    rw [this]
    omega, rfl⟩
  obtain ⟨_, kv6, sv6, rfl⟩ := dflt
  simp at wv
  have q0 := Int.emod_nonneg z (b := 8) (by decide)
  have q1 := Int.emod_lt_of_pos z (b := 8) (by decide)
  rw [run_c (F := c__law_other) rfl rfl]
  have iT := fun (x : String) => inT (x := x) ["all", "any"] (strOk_of _)
  simp at iT
  generalize hk : z % 8 = k at *
  have one : ∀ s ∈ [t], Tk 4 s := fun s h => by rw [List.mem_singleton.mp h]; exact tk
  by_cases k0 : k = 0
  · subst k0
    refine ⟨.tup [.str "all", .tup [t, t]], ⟨Tk.mono (n := 5) (.inr (.inl ⟨"all", _, .inl rfl, by simp, by simp [tk], rfl⟩)) (by decide), ?_⟩, ?_⟩
    · rw [szD_grp]; simp [e5]; omega
    · simp [c__law_other, enter, r8, to]
  by_cases k1 : k = 1
  · subst k1
    have t5 : Tk 5 (.tup [.str "any", .tup [t]]) := .inr (.inl ⟨"any", _, .inr (.inl rfl), by simp, by simp [tk], rfl⟩)
    refine ⟨.tup [.str "any", .tup [.tup [.str "any", .tup [t]], t]], ⟨.inr (.inl ⟨"any", _, .inr (.inl rfl), by simp, by simp [tk.succ, t5], rfl⟩), ?_⟩, ?_⟩
    · rw [szD_grp]; simp [e5, szD_grp]; omega
    · simp [c__law_other, enter, r8, to]
  by_cases k2 : k = 2
  · subst k2
    refine ⟨.tup [.str "within", .int (1 + z / 8 % 9), t], ⟨.inr (.inr (.inr ⟨_, t, tk.succ, rfl⟩)), ?_⟩, ?_⟩
    · rw [szD_wi, e5]; omega
    · simp [c__law_other, enter, r8, d8, r9, to]
  by_cases k3 : k = 3
  · subst k3
    refine ⟨.tup [.str "without", .str a, t], ⟨.inr (.inr (.inl ⟨a, t, ha, tk.succ, rfl⟩)), ?_⟩, ?_⟩
    · rw [szD_wo tk.succ, e5]; omega
    · simp [c__law_other, enter, r8, d8, r4, ea, to]
  have cf := fun (x : TL.D) (xs : List TL.D) => cut_from (x :: xs) 1
  simp at cf
  rcases g with ⟨b, i, hb, hi, rfl⟩ | ⟨w, ts, hw, h0, hl, h2, hg, rfl⟩ | ⟨b, v', hb, hg, rfl⟩ | ⟨i, v', hi, hg, rfl⟩
  · by_cases k6 : k = 6
    · subst k6
      by_cases i1 : 1 < i
      · refine ⟨.tup [.str "then", .tup [.tup [.str "do", .str b, .int 1], .tup [.str "do", .str b, .int (i - 1)]]], ⟨Tk.mono (n := 2) (.inr (.inl ⟨"then", _, .inr (.inr rfl), by simp, fun s hs => ?_, rfl⟩)) (by decide), ?_⟩, ?_⟩
        · simp at hs
          rcases hs with rfl | rfl
          · exact .inl ⟨b, 1, hb.1, rfl⟩
          · exact .inl ⟨b, i - 1, hb.1, rfl⟩
        · rw [szD_grp]; simp [szD]
        · simp [c__law_other, enter, r8, dEqs, i1]
      · refine ⟨_, ⟨kv6, sv6⟩, ?_⟩
        simp [c__law_other, enter, r8, dEqs, i1, d8, wv, vo]
    · by_cases k4 : k = 4
      · subst k4
        refine ⟨_, ⟨kv6, sv6⟩, ?_⟩
        simp [c__law_other, enter, r8, dEqs, iT, d8, wv, vo]
      · by_cases k5 : k = 5
        · subst k5
          refine ⟨_, ⟨kv6, sv6⟩, ?_⟩
          simp [c__law_other, enter, r8, dEqs, iT, d8, wv, vo]
        · refine ⟨_, ⟨kv6, sv6⟩, ?_⟩
          simp [c__law_other, enter, r8, dEqs, iT, d8, wv, vo, k0, k1, k2, k3, k4, k5, k6]
  · have tg : ∀ s ∈ ts, Tk 3 s := fun s h => (hg s h).tk
    have dfl : k ≠ 4 → k ≠ 5 → ∃ u, (Tk 6 u ∧ szD 6 u ≤ 5000) ∧ TL.finish (TL.execs (TL.run Pg N) c__law_other.body (enter c__law_other [.tup [.str w, .tup ts], .int z]) st) = .ok u st := fun h4 h5 => by
      refine ⟨_, ⟨kv6, sv6⟩, ?_⟩
      by_cases k6 : k = 6
      · subst k6
        rcases hw with rfl | rfl | rfl <;> simp [c__law_other, enter, r8, dEqs, iT, d8, wv, vo]
      · rcases hw with rfl | rfl | rfl <;> simp [c__law_other, enter, r8, dEqs, iT, d8, wv, vo, k0, k1, k2, k3, h4, h5, k6]
    rw [szD_grp] at hs
    by_cases k4 : k = 4
    · subst k4
      have rv : ∀ w : String, (w = "all" ∨ w = "any" ∨ w = "then") → Tk 6 (.tup [.str w, .tup ts.reverse]) ∧ szD 6 (.tup [.str w, .tup ts.reverse]) ≤ 5000 := fun w hw => by
        have t4 : Tk 4 (.tup [.str w, .tup ts.reverse]) := .inr (.inl ⟨w, _, hw, by simpa using h0, fun s h => tg s (List.mem_reverse.mp h), rfl⟩)
        refine ⟨t4.mono (by decide), ?_⟩
        rw [szD_succ t4.succ, szD_succ t4, szD_grp, List.map_reverse, List.sum_reverse]
        omega
      rcases hw with rfl | rfl | rfl
      · exact ⟨_, rv _ (.inl rfl), by simp [c__law_other, enter, r8, dEqs, iT, oRev]⟩
      · exact ⟨_, rv _ (.inr (.inl rfl)), by simp [c__law_other, enter, r8, dEqs, iT, oRev]⟩
      · exact ⟨_, ⟨kv6, sv6⟩, by simp [c__law_other, enter, r8, dEqs, iT, d8, wv, vo]⟩
    · by_cases k5 : k = 5
      · subst k5
        by_cases ht : w = "then"
        · subst ht
          match ts, h2 rfl with
          | s :: u :: r, _ =>
            have ts0 := tg s (List.mem_cons_self ..)
            have tr : ∀ x ∈ u :: r, Tk 3 x := fun x h => tg x (List.mem_cons_of_mem _ h)
            have wr := w__law_rest (N := N) (by omega) (ts := u :: r) (by simp) (fun x h => (tr x h).ok.own) st
            have so := ts0.ok.own
            have gk : Tk 4 (grp "then" (u :: r)) ∧ szD 4 (grp "then" (u :: r)) ≤ 1 + ((u :: r).map (szD 3)).sum := by
              cases r with
              | nil =>
                refine ⟨(tr u (List.mem_cons_self ..)).succ, ?_⟩
                show szD 4 u ≤ _
                rw [szD_succ (tr u (List.mem_cons_self ..))]
                simp
              | cons x r =>
                refine ⟨.inr (.inl ⟨"then", _, .inr (.inr rfl), by simp, tr, rfl⟩), ?_⟩
                show szD 4 (.tup [.str "then", .tup (u :: x :: r)]) ≤ _
                rw [szD_grp]
                exact Nat.le_refl _
            have gko := gk.1.ok.own
            have t5 : Tk 5 (.tup [.str "then", .tup [s, grp "then" (u :: r)]]) := .inr (.inl ⟨"then", _, .inr (.inr rfl), by simp, fun x hx => by
              simp at hx
              rcases hx with rfl | rfl
              · exact ts0.succ
              · exact gk.1, rfl⟩)
            refine ⟨.tup [.str "then", .tup [s, grp "then" (u :: r)]], ⟨t5.succ, ?_⟩, ?_⟩
            · rw [szD_succ t5, szD_grp]
              have := gk.2
              simp only [List.map_cons, List.map_nil, List.sum_cons, List.sum_nil] at this hs ⊢
              rw [szD_succ ts0]
              omega
            · simp [c__law_other, enter, r8, dEqs, iT, cf, wr, so, gko]
        · have ww : w = "all" ∨ w = "any" := by rcases hw with h | h | h; exact .inl h; exact .inr h; exact (ht h).elim
          refine ⟨_, ⟨kv6, sv6⟩, ?_⟩
          rcases ww with rfl | rfl <;> simp [c__law_other, enter, r8, dEqs, iT, d8, wv, vo]
      · exact dfl k4 k5
  · have vo' := hg.ok.own
    by_cases k4 : k = 4
    · subst k4
      exact ⟨_, ⟨kv6, sv6⟩, by simp [c__law_other, enter, r8, dEqs, iT, d8, wv, vo]⟩
    · by_cases k5 : k = 5
      · subst k5
        exact ⟨_, ⟨kv6, sv6⟩, by simp [c__law_other, enter, r8, dEqs, iT, d8, wv, vo]⟩
      · by_cases k6 : k = 6
        · subst k6
          exact ⟨_, ⟨kv6, sv6⟩, by simp [c__law_other, enter, r8, dEqs, iT, d8, wv, vo]⟩
        · exact ⟨_, ⟨kv6, sv6⟩, by simp [c__law_other, enter, r8, dEqs, iT, d8, wv, vo, k0, k1, k2, k3, k4, k5, k6]⟩
  · have vo' := hg.ok.own
    by_cases k4 : k = 4
    · subst k4
      exact ⟨_, ⟨kv6, sv6⟩, by simp [c__law_other, enter, r8, dEqs, iT, d8, wv, vo]⟩
    · by_cases k5 : k = 5
      · subst k5
        exact ⟨_, ⟨kv6, sv6⟩, by simp [c__law_other, enter, r8, dEqs, iT, d8, wv, vo]⟩
      · by_cases k6 : k = 6
        · subst k6
          exact ⟨_, ⟨kv6, sv6⟩, by simp [c__law_other, enter, r8, dEqs, iT, d8, wv, vo]⟩
        · exact ⟨_, ⟨kv6, sv6⟩, by simp [c__law_other, enter, r8, dEqs, iT, d8, wv, vo, k0, k1, k2, k3, k4, k5, k6]⟩
theorem while_go {N : Nat} (hN : 10 ≤ N) {sc t0 d : TL.D} {st : Sto} (body : List S) (hb : body = [.set 2 (.call 15 [.var 2])]) : ∀ (f : Nat) (cur : TL.D), Tk 6 cur → szD 6 cur < f → szD 6 cur ≤ 50000 → onc 6 cur = d →
    whileE (TL.run Pg N) (.o2 .ne (.call 15 [.var 2]) (.var 2)) body f [some sc, some t0, some cur, none] st = .nx [some sc, some t0, some d, none] st ∧ onc 6 d = d := by
  intro f
  induction f with
  | zero => intro cur _ h; omega
  | succ f ih =>
    intro cur tk hf hs e
    obtain ⟨u, hu, hc⟩ := w__law_step 6 N st (by decide) (by omega) tk hs
    have co := tk.ok.own
    have tu : Tk 6 u := by
      rcases hc with s | ⟨rfl, _⟩
      · exact s.tk tk
      · exact tk
    have uo := tu.ok.own
    have dn := dNe_ok tu.ok tk.ok (by omega) (by omega)
    rcases hc with s | ⟨rfl, fx⟩
    · rw [step_ne tk s] at dn
      have sz := s.sz tk
      obtain ⟨h1, h2⟩ := ih u tu (by omega) (by omega) (by rw [s.onc tk, e])
      refine ⟨?_, h2⟩
      rw [← h1]
      subst hb
      show whileGo _ _ (f + 1) _ _ = _
      unfold whileGo
      simp [co, uo, hu, dn]
      rfl
    · rw [tk.refl] at dn
      have e2 := onc_fix tk fx
      rw [e2] at e
      subst e
      refine ⟨?_, e2⟩
      show whileGo _ _ (f + 1) _ _ = _
      unfold whileGo
      simp [co, hu, dn]
theorem seq_assoc (a : Fl) (f g : TL.Env → Sto → Fl) : (a.seq f).seq g = a.seq fun ρ st => (f ρ st).seq g := by cases a <;> rfl
theorem execs_app {C : Cal} : ∀ (as bs : List S) (ρ : TL.Env) (st : Sto), TL.execs C (as ++ bs) ρ st = (TL.execs C as ρ st).seq (TL.execs C bs)
  | [], bs, ρ, st => by rw [List.nil_append, ex0, seq_nx]
  | a :: as, bs, ρ, st => by
    rw [List.cons_append, ex1, ex1, seq_assoc]
    congr 1
    funext ρ st
    exact execs_app as bs ρ st
theorem dEqb (b : Bool) : dEq (.bl b) (.bl b) = some (.bl true) := by cases b <;> rfl
theorem law_holds : ∀ ns : List Int, ns.length ≤ 63 → ∃ st', TL.run (Ts.map (·.code)) lawN 16 [.fls (ns.map .int)] [] = .ok (.bl true) st' := by
  intro ns hl
  refine ⟨[], ?_⟩
  show TL.run Pg 60 16 _ _ = _
  rw [run_c (n := 59) (F := c_law) rfl rfl]
  have m0 := w__law_mixed (N := 59) (by decide) ns 0 []
  have m1 := w__law_mixed (N := 59) (by decide) ns 1 []
  have m2 := w__law_mixed (N := 59) (by decide) ns 2 []
  have m3 := w__law_mixed (N := 59) (by decide) ns 3 []
  have r4 := oMod (i := mixZ ns 1) (j := 4) (by decide)
  have r2 := oMod (i := mixZ ns 2) (j := 2) (by decide)
  have q0 := Int.emod_nonneg (mixZ ns 1) (b := 4) (by decide)
  have q1 := Int.emod_lt_of_pos (mixZ ns 1) (b := 4) (by decide)
  obtain ⟨j, hj⟩ : ∃ j : Nat, mixZ ns 1 % 4 = j := ⟨(mixZ ns 1 % 4).toNat, by omega⟩
  rw [hj] at r4 q0 q1
  obtain ⟨t, ⟨g, sz⟩, wt⟩ := w__law_task2 j 59 (mixZ ns 0) 3 [] (by decide) (by decide) (by omega)
  have sz4 : szD 4 t ≤ 256 := by
    have : j = 0 ∨ j = 1 ∨ j = 2 ∨ j = 3 := by omega
    rcases this with rfl | rfl | rfl | rfl
    · have a : szD 2 t = szD 1 t := szD_succ (n := 1) g.tk
      have b : szD 3 t = szD 2 t := szD_succ (n := 2) g.tk.succ
      have c : szD 4 t = szD 3 t := szD_succ (n := 3) g.tk.succ.succ
      have d : szD 1 t ≤ 4 := sz
      omega
    · have b : szD 3 t = szD 2 t := szD_succ (n := 2) g.tk
      have c : szD 4 t = szD 3 t := szD_succ (n := 3) g.tk.succ
      have d : szD 2 t ≤ 16 := sz
      omega
    · have c : szD 4 t = szD 3 t := szD_succ (n := 3) g.tk
      have d : szD 3 t ≤ 64 := sz
      omega
    · exact sz
  have g4 := g.mono (m := 4) (by omega)
  clear g sz
  have go := g4.ok.own
  have ca : (1 : Int) + (j : Int) = (j : Int) + 1 := by omega
  have fin : ∀ u : TL.D, Tk 6 u → szD 6 u ≤ 5000 → TL.execs (TL.run Pg 59) [.set 2 (.var 1), .while (.o2 .ne (.call 15 [.var 2]) (.var 2)) [.set 2 (.call 15 [.var 2])], .ifs (.or [.o2 .ne (.call 5 [.var 1]) (.var 2), .o2 .isNotB (.call 6 [.var 2]) (.con (.bl true))]) [.ret (.con (.bl false))] [], .set 3 (.call 6 [.var 1]), .ret (.and [.o1 .isBool (.var 3), .o2 .eq (.var 3) (.o2 .eq (.var 2) (.var 1))])] [some (.fls (ns.map .int)), some u, none, none] [] = .rt (.bl true) [] := by
    intro u tu su
    obtain ⟨h1, h2⟩ := while_go (N := 59) (by decide) (sc := .fls (ns.map .int)) (t0 := u) (d := onc 6 u) (st := []) _ rfl FU u tu (by unfold FU; omega) (by omega) rfl
    have ws := w_short (N := 59) (n := 6) (by decide) (by decide) [] tu (by omega) h2
    have td := (onc_nf tu).tk
    have w1 := w_is_short (N := 59) (n := 6) (by decide) (by decide) [] tu (by omega)
    have w2 := w_is_short (N := 59) (n := 6) (by decide) (by decide) [] td (Nat.le_trans (szD_onc tu) (by omega))
    rw [h2, td.refl] at w2
    have uo := tu.ok.own
    have dO := td.ok.own
    have dn := dNe_ok td.ok td.ok (by decide) (by decide)
    rw [td.refl] at dn
    have de := dEq_ok td.ok tu.ok (by decide) (by decide)
    have nb : o2 .isNotB (.bl true) (.bl true) = some (.bl false) := rfl
    have ib : ∀ b : Bool, o1 .isBool (.bl b) = some (.bl true) := fun _ => rfl
    simp [uo, dO, h1, ws, w1, w2, dn, de, nb, ib, dEqb]
  simp at m0 m1 m2 m3 wt
  have hb : c_law.body = c_law.body.take 2 ++ c_law.body.drop 2 := (List.take_append_drop 2 _).symm
  have fin2 : ∀ u : TL.D, Tk 6 u → szD 6 u ≤ 5000 → TL.execs (TL.run Pg 59) (c_law.body.take 2) (enter c_law [.fls (ns.map .int)]) [] = .nx [some (.fls (ns.map .int)), some u, none, none] [] → TL.finish (TL.execs (TL.run Pg 59) c_law.body (enter c_law [.fls (ns.map .int)]) []) = .ok (.bl true) [] := by
    intro u tu su e
    have f : TL.execs (TL.run Pg 59) (c_law.body.drop 2) [some (.fls (ns.map .int)), some u, none, none] [] = .rt (.bl true) [] := fin u tu su
    rw [hb, execs_app, e, seq_nx, f]
    rfl
  by_cases h : mixZ ns 2 % 2 = 1
  · obtain ⟨u, ⟨tu, su⟩, wu⟩ := w__law_other (N := 59) (by decide) g4 sz4 (mixZ ns 3) []
    have uo := tu.ok.own
    refine fin2 u tu su ?_
    simp [c_law, enter, m0, m1, m2, m3, r4, r2, ca, wt, go, h, wu, uo]
  · have t6 : Tk 6 t := g4.tk.mono (by decide)
    have s5 : szD 5 t = szD 4 t := szD_succ g4.tk
    have s6 : szD 6 t = szD 5 t := szD_succ g4.tk.succ
    refine fin2 t t6 (by omega) ?_
    simp [c_law, enter, m0, m1, m2, m3, r4, r2, ca, wt, go, h]

end TP

namespace TP
open PySem L2 TL
theorem all_mk {l : PySem.W.OpenLaw} {w : World} {K : PySem.W.Frag} {h : Heap} {mg : Str → Option Value} {f0 f1 f2 f3 f4 f5 f6 f7 f8 f9 f10 f11 f12 f13 f14 f15 f16 : Addr} (X : K.In h) (G : h.Ns mainGlobals mg)
  {od0 an0 : Option Addr} {sl0 : Array (Option Value)} {oc0 kV0 dc0 pm0 cd0 ct0 : Value}
  (a0 : PySem.W.nsIn K mainGlobals "tasks_in" = some (some (.ref f0))) (l0 : K.lookup f0 = some ⟨oc0, od0, .func (PySem.W.fnOf "tasks_in" "tasks_in" (defArgs (top 2)) (defBody (top 2)) (defScope (top 2)) .none kV0 dc0 pm0 an0 cd0 ct0), sl0⟩) (c0 : PySem.W.codeIn K cd0 "tasks_in" = true) (k0 : PySem.W.keepIn K (.ref f0) = true)
  {od1 an1 : Option Addr} {sl1 : Array (Option Value)} {oc1 kV1 dc1 pm1 cd1 ct1 : Value}
  (a1 : PySem.W.nsIn K mainGlobals "with_tasks" = some (some (.ref f1))) (l1 : K.lookup f1 = some ⟨oc1, od1, .func (PySem.W.fnOf "with_tasks" "with_tasks" (defArgs (top 3)) (defBody (top 3)) (defScope (top 3)) .none kV1 dc1 pm1 an1 cd1 ct1), sl1⟩) (c1 : PySem.W.codeIn K cd1 "with_tasks" = true) (k1 : PySem.W.keepIn K (.ref f1) = true)
  {od2 an2 : Option Addr} {sl2 : Array (Option Value)} {oc2 kV2 dc2 pm2 cd2 ct2 : Value}
  (a2 : PySem.W.nsIn K mainGlobals "flat" = some (some (.ref f2))) (l2 : K.lookup f2 = some ⟨oc2, od2, .func (PySem.W.fnOf "flat" "flat" (defArgs (top 5)) (defBody (top 5)) (defScope (top 5)) .none kV2 dc2 pm2 an2 cd2 ct2), sl2⟩) (c2 : PySem.W.codeIn K cd2 "flat" = true) (k2 : PySem.W.keepIn K (.ref f2) = true)
  {od3 an3 : Option Addr} {sl3 : Array (Option Value)} {oc3 kV3 dc3 pm3 cd3 ct3 : Value}
  (a3 : PySem.W.nsIn K mainGlobals "unlike_ones" = some (some (.ref f3))) (l3 : K.lookup f3 = some ⟨oc3, od3, .func (PySem.W.fnOf "unlike_ones" "unlike_ones" (defArgs (top 6)) (defBody (top 6)) (defScope (top 6)) .none kV3 dc3 pm3 an3 cd3 ct3), sl3⟩) (c3 : PySem.W.codeIn K cd3 "unlike_ones" = true) (k3 : PySem.W.keepIn K (.ref f3) = true)
  {od4 an4 : Option Addr} {sl4 : Array (Option Value)} {oc4 kV4 dc4 pm4 cd4 ct4 : Value}
  (a4 : PySem.W.nsIn K mainGlobals "once" = some (some (.ref f4))) (l4 : K.lookup f4 = some ⟨oc4, od4, .func (PySem.W.fnOf "once" "once" (defArgs (top 7)) (defBody (top 7)) (defScope (top 7)) .none kV4 dc4 pm4 an4 cd4 ct4), sl4⟩) (c4 : PySem.W.codeIn K cd4 "once" = true) (k4 : PySem.W.keepIn K (.ref f4) = true)
  {od5 an5 : Option Addr} {sl5 : Array (Option Value)} {oc5 kV5 dc5 pm5 cd5 ct5 : Value}
  (a5 : PySem.W.nsIn K mainGlobals "short" = some (some (.ref f5))) (l5 : K.lookup f5 = some ⟨oc5, od5, .func (PySem.W.fnOf "short" "short" (defArgs (top 8)) (defBody (top 8)) (defScope (top 8)) .none kV5 dc5 pm5 an5 cd5 ct5), sl5⟩) (c5 : PySem.W.codeIn K cd5 "short" = true) (k5 : PySem.W.keepIn K (.ref f5) = true)
  {od6 an6 : Option Addr} {sl6 : Array (Option Value)} {oc6 kV6 dc6 pm6 cd6 ct6 : Value}
  (a6 : PySem.W.nsIn K mainGlobals "is_short" = some (some (.ref f6))) (l6 : K.lookup f6 = some ⟨oc6, od6, .func (PySem.W.fnOf "is_short" "is_short" (defArgs (top 9)) (defBody (top 9)) (defScope (top 9)) .none kV6 dc6 pm6 an6 cd6 ct6), sl6⟩) (c6 : PySem.W.codeIn K cd6 "is_short" = true) (k6 : PySem.W.keepIn K (.ref f6) = true)
  {od7 an7 : Option Addr} {sl7 : Array (Option Value)} {oc7 kV7 dc7 pm7 cd7 ct7 : Value}
  (a7 : PySem.W.nsIn K mainGlobals "_law_cell_at" = some (some (.ref f7))) (l7 : K.lookup f7 = some ⟨oc7, od7, .func (PySem.W.fnOf "_law_cell_at" "_law_cell_at" (defArgs (top 11)) (defBody (top 11)) (defScope (top 11)) .none kV7 dc7 pm7 an7 cd7 ct7), sl7⟩) (c7 : PySem.W.codeIn K cd7 "_law_cell_at" = true) (k7 : PySem.W.keepIn K (.ref f7) = true)
  {od8 an8 : Option Addr} {sl8 : Array (Option Value)} {oc8 kV8 dc8 pm8 cd8 ct8 : Value}
  (a8 : PySem.W.nsIn K mainGlobals "_law_mixed" = some (some (.ref f8))) (l8 : K.lookup f8 = some ⟨oc8, od8, .func (PySem.W.fnOf "_law_mixed" "_law_mixed" (defArgs (top 12)) (defBody (top 12)) (defScope (top 12)) .none kV8 dc8 pm8 an8 cd8 ct8), sl8⟩) (c8 : PySem.W.codeIn K cd8 "_law_mixed" = true) (k8 : PySem.W.keepIn K (.ref f8) = true)
  {od9 an9 : Option Addr} {sl9 : Array (Option Value)} {oc9 kV9 dc9 pm9 cd9 ct9 : Value}
  (a9 : PySem.W.nsIn K mainGlobals "_law_drawn" = some (some (.ref f9))) (l9 : K.lookup f9 = some ⟨oc9, od9, .func (PySem.W.fnOf "_law_drawn" "_law_drawn" (defArgs (top 13)) (defBody (top 13)) (defScope (top 13)) .none kV9 dc9 pm9 an9 cd9 ct9), sl9⟩) (c9 : PySem.W.codeIn K cd9 "_law_drawn" = true) (k9 : PySem.W.keepIn K (.ref f9) = true)
  {od10 an10 : Option Addr} {sl10 : Array (Option Value)} {oc10 kV10 dc10 pm10 cd10 ct10 : Value}
  (a10 : PySem.W.nsIn K mainGlobals "_law_task" = some (some (.ref f10))) (l10 : K.lookup f10 = some ⟨oc10, od10, .func (PySem.W.fnOf "_law_task" "_law_task" (defArgs (top 14)) (defBody (top 14)) (defScope (top 14)) .none kV10 dc10 pm10 an10 cd10 ct10), sl10⟩) (c10 : PySem.W.codeIn K cd10 "_law_task" = true) (k10 : PySem.W.keepIn K (.ref f10) = true)
  {od11 an11 : Option Addr} {sl11 : Array (Option Value)} {oc11 kV11 dc11 pm11 cd11 ct11 : Value}
  (a11 : PySem.W.nsIn K mainGlobals "_law_deeds" = some (some (.ref f11))) (l11 : K.lookup f11 = some ⟨oc11, od11, .func (PySem.W.fnOf "_law_deeds" "_law_deeds" (defArgs (top 15)) (defBody (top 15)) (defScope (top 15)) .none kV11 dc11 pm11 an11 cd11 ct11), sl11⟩) (c11 : PySem.W.codeIn K cd11 "_law_deeds" = true) (k11 : PySem.W.keepIn K (.ref f11) = true)
  {od12 an12 : Option Addr} {sl12 : Array (Option Value)} {oc12 kV12 dc12 pm12 cd12 ct12 : Value}
  (a12 : PySem.W.nsIn K mainGlobals "_law_other" = some (some (.ref f12))) (l12 : K.lookup f12 = some ⟨oc12, od12, .func (PySem.W.fnOf "_law_other" "_law_other" (defArgs (top 16)) (defBody (top 16)) (defScope (top 16)) .none kV12 dc12 pm12 an12 cd12 ct12), sl12⟩) (c12 : PySem.W.codeIn K cd12 "_law_other" = true) (k12 : PySem.W.keepIn K (.ref f12) = true)
  {od13 an13 : Option Addr} {sl13 : Array (Option Value)} {oc13 kV13 dc13 pm13 cd13 ct13 : Value}
  (a13 : PySem.W.nsIn K mainGlobals "_law_rest" = some (some (.ref f13))) (l13 : K.lookup f13 = some ⟨oc13, od13, .func (PySem.W.fnOf "_law_rest" "_law_rest" (defArgs (top 17)) (defBody (top 17)) (defScope (top 17)) .none kV13 dc13 pm13 an13 cd13 ct13), sl13⟩) (c13 : PySem.W.codeIn K cd13 "_law_rest" = true) (k13 : PySem.W.keepIn K (.ref f13) = true)
  {od14 an14 : Option Addr} {sl14 : Array (Option Value)} {oc14 kV14 dc14 pm14 cd14 ct14 : Value}
  (a14 : PySem.W.nsIn K mainGlobals "_law_parts" = some (some (.ref f14))) (l14 : K.lookup f14 = some ⟨oc14, od14, .func (PySem.W.fnOf "_law_parts" "_law_parts" (defArgs (top 18)) (defBody (top 18)) (defScope (top 18)) .none kV14 dc14 pm14 an14 cd14 ct14), sl14⟩) (c14 : PySem.W.codeIn K cd14 "_law_parts" = true) (k14 : PySem.W.keepIn K (.ref f14) = true)
  {od15 an15 : Option Addr} {sl15 : Array (Option Value)} {oc15 kV15 dc15 pm15 cd15 ct15 : Value}
  (a15 : PySem.W.nsIn K mainGlobals "_law_step" = some (some (.ref f15))) (l15 : K.lookup f15 = some ⟨oc15, od15, .func (PySem.W.fnOf "_law_step" "_law_step" (defArgs (top 19)) (defBody (top 19)) (defScope (top 19)) .none kV15 dc15 pm15 an15 cd15 ct15), sl15⟩) (c15 : PySem.W.codeIn K cd15 "_law_step" = true) (k15 : PySem.W.keepIn K (.ref f15) = true)
  {od16 an16 : Option Addr} {sl16 : Array (Option Value)} {oc16 kV16 dc16 pm16 cd16 ct16 : Value}
  (a16 : PySem.W.nsIn K mainGlobals "law" = some (some (.ref f16))) (l16 : K.lookup f16 = some ⟨oc16, od16, .func (PySem.W.fnOf "law" "law" (defArgs (top 20)) (defBody (top 20)) (defScope (top 20)) .none kV16 dc16 pm16 an16 cd16 ct16), sl16⟩) (c16 : PySem.W.codeIn K cd16 "law" = true) (k16 : PySem.W.keepIn K (.ref f16) = true)
  {qa0 : Addr} {qd0 : Option Addr} {qn0 : Nat} {qs0 : Array (Option Value)} {tk0_0 tk0_1 tk0_2 : Tok} (q0 : PySem.W.nsIn K mainGlobals "GROUPS" = some (some (.ref qa0))) (ql0 : K.lookup qa0 = some ⟨.type "tuple", qd0, .seq #[.str "all" tk0_0, .str "any" tk0_1, .str "then" tk0_2] qn0, qs0⟩)
  (z0 : PySem.W.nsIn K mainGlobals "bool" = some none)
  (z1 : PySem.W.nsIn K mainGlobals "enumerate" = some none)
  (z2 : PySem.W.nsIn K mainGlobals "int" = some none)
  (z3 : PySem.W.nsIn K mainGlobals "isinstance" = some none)
  (z4 : PySem.W.nsIn K mainGlobals "len" = some none)
  (z5 : PySem.W.nsIn K mainGlobals "list" = some none)
  (z6 : PySem.W.nsIn K mainGlobals "max" = some none)
  (z7 : PySem.W.nsIn K mainGlobals "min" = some none)
  (z8 : PySem.W.nsIn K mainGlobals "range" = some none)
  (z9 : PySem.W.nsIn K mainGlobals "tuple" = some none)
  : ProgOk K mg Gt Ts where
  fns := rfl
  chk := by
    intro t ht
    rcases List.mem_cons.mp ht with rfl | ht
    · exact TP.k0
    rcases List.mem_cons.mp ht with rfl | ht
    · exact TP.k1
    rcases List.mem_cons.mp ht with rfl | ht
    · exact TP.k2
    rcases List.mem_cons.mp ht with rfl | ht
    · exact TP.k3
    rcases List.mem_cons.mp ht with rfl | ht
    · exact TP.k4
    rcases List.mem_cons.mp ht with rfl | ht
    · exact TP.k5
    rcases List.mem_cons.mp ht with rfl | ht
    · exact TP.k6
    rcases List.mem_cons.mp ht with rfl | ht
    · exact TP.k7
    rcases List.mem_cons.mp ht with rfl | ht
    · exact TP.k8
    rcases List.mem_cons.mp ht with rfl | ht
    · exact TP.k9
    rcases List.mem_cons.mp ht with rfl | ht
    · exact TP.k10
    rcases List.mem_cons.mp ht with rfl | ht
    · exact TP.k11
    rcases List.mem_cons.mp ht with rfl | ht
    · exact TP.k12
    rcases List.mem_cons.mp ht with rfl | ht
    · exact TP.k13
    rcases List.mem_cons.mp ht with rfl | ht
    · exact TP.k14
    rcases List.mem_cons.mp ht with rfl | ht
    · exact TP.k15
    rcases List.mem_cons.mp ht with rfl | ht
    · exact TP.k16
    cases ht
  at_ := by
    intro t ht
    rcases List.mem_cons.mp ht with rfl | ht
    · exact ⟨f0, _, fun_mk (st := top 2) l0 c0 k0, PySem.W.mg_of X G a0, (fun_mk (st := top 2) l0 c0 k0).binds fun _ _ _ _ _ _ us hl => match us, hl with | [_], _ => rfl⟩
    rcases List.mem_cons.mp ht with rfl | ht
    · exact ⟨f1, _, fun_mk (st := top 3) l1 c1 k1, PySem.W.mg_of X G a1, (fun_mk (st := top 3) l1 c1 k1).binds fun _ _ _ _ _ _ us hl => match us, hl with | [_, _], _ => rfl⟩
    rcases List.mem_cons.mp ht with rfl | ht
    · exact ⟨f2, _, fun_mk (st := top 5) l2 c2 k2, PySem.W.mg_of X G a2, (fun_mk (st := top 5) l2 c2 k2).binds fun _ _ _ _ _ _ us hl => match us, hl with | [_, _], _ => rfl⟩
    rcases List.mem_cons.mp ht with rfl | ht
    · exact ⟨f3, _, fun_mk (st := top 6) l3 c3 k3, PySem.W.mg_of X G a3, (fun_mk (st := top 6) l3 c3 k3).binds fun _ _ _ _ _ _ us hl => match us, hl with | [_], _ => rfl⟩
    rcases List.mem_cons.mp ht with rfl | ht
    · exact ⟨f4, _, fun_mk (st := top 7) l4 c4 k4, PySem.W.mg_of X G a4, (fun_mk (st := top 7) l4 c4 k4).binds fun _ _ _ _ _ _ us hl => match us, hl with | [_], _ => rfl⟩
    rcases List.mem_cons.mp ht with rfl | ht
    · exact ⟨f5, _, fun_mk (st := top 8) l5 c5 k5, PySem.W.mg_of X G a5, (fun_mk (st := top 8) l5 c5 k5).binds fun _ _ _ _ _ _ us hl => match us, hl with | [_], _ => rfl⟩
    rcases List.mem_cons.mp ht with rfl | ht
    · exact ⟨f6, _, fun_mk (st := top 9) l6 c6 k6, PySem.W.mg_of X G a6, (fun_mk (st := top 9) l6 c6 k6).binds fun _ _ _ _ _ _ us hl => match us, hl with | [_], _ => rfl⟩
    rcases List.mem_cons.mp ht with rfl | ht
    · exact ⟨f7, _, fun_mk (st := top 11) l7 c7 k7, PySem.W.mg_of X G a7, (fun_mk (st := top 11) l7 c7 k7).binds fun _ _ _ _ _ _ us hl => match us, hl with | [_, _], _ => rfl⟩
    rcases List.mem_cons.mp ht with rfl | ht
    · exact ⟨f8, _, fun_mk (st := top 12) l8 c8 k8, PySem.W.mg_of X G a8, (fun_mk (st := top 12) l8 c8 k8).binds fun _ _ _ _ _ _ us hl => match us, hl with | [_, _], _ => rfl⟩
    rcases List.mem_cons.mp ht with rfl | ht
    · exact ⟨f9, _, fun_mk (st := top 13) l9 c9 k9, PySem.W.mg_of X G a9, (fun_mk (st := top 13) l9 c9 k9).binds fun _ _ _ _ _ _ us hl => match us, hl with | [_, _], _ => rfl⟩
    rcases List.mem_cons.mp ht with rfl | ht
    · exact ⟨f10, _, fun_mk (st := top 14) l10 c10 k10, PySem.W.mg_of X G a10, (fun_mk (st := top 14) l10 c10 k10).binds fun _ _ _ _ _ _ us hl => match us, hl with | [_, _, _], _ => rfl⟩
    rcases List.mem_cons.mp ht with rfl | ht
    · exact ⟨f11, _, fun_mk (st := top 15) l11 c11 k11, PySem.W.mg_of X G a11, (fun_mk (st := top 15) l11 c11 k11).binds fun _ _ _ _ _ _ us hl => match us, hl with | [_, _], _ => rfl⟩
    rcases List.mem_cons.mp ht with rfl | ht
    · exact ⟨f12, _, fun_mk (st := top 16) l12 c12 k12, PySem.W.mg_of X G a12, (fun_mk (st := top 16) l12 c12 k12).binds fun _ _ _ _ _ _ us hl => match us, hl with | [_, _], _ => rfl⟩
    rcases List.mem_cons.mp ht with rfl | ht
    · exact ⟨f13, _, fun_mk (st := top 17) l13 c13 k13, PySem.W.mg_of X G a13, (fun_mk (st := top 17) l13 c13 k13).binds fun _ _ _ _ _ _ us hl => match us, hl with | [_], _ => rfl⟩
    rcases List.mem_cons.mp ht with rfl | ht
    · exact ⟨f14, _, fun_mk (st := top 18) l14 c14 k14, PySem.W.mg_of X G a14, (fun_mk (st := top 18) l14 c14 k14).binds fun _ _ _ _ _ _ us hl => match us, hl with | [_], _ => rfl⟩
    rcases List.mem_cons.mp ht with rfl | ht
    · exact ⟨f15, _, fun_mk (st := top 19) l15 c15 k15, PySem.W.mg_of X G a15, (fun_mk (st := top 19) l15 c15 k15).binds fun _ _ _ _ _ _ us hl => match us, hl with | [_], _ => rfl⟩
    rcases List.mem_cons.mp ht with rfl | ht
    · exact ⟨f16, _, fun_mk (st := top 20) l16 c16 k16, PySem.W.mg_of X G a16, (fun_mk (st := top 20) l16 c16 k16).binds fun _ _ _ _ _ _ us hl => match us, hl with | [_], _ => rfl⟩
    cases ht
  cst := by
    intro x d h
    by_cases e0 : x = "GROUPS"
    · subst e0
      have hd : List.lookup ("GROUPS" : Str) Gt.consts = some (.tup [.str "all", .str "any", .str "then"] : TL.D) := by rfl
      rw [hd] at h
      cases h
      exact ⟨_, .ref qa0, PySem.W.mg_of X G q0, rfl, fun _ _ => ⟨by decide, qa0, [.str "all", .str "any", .str "then"], rfl, .inr ⟨_, _, _, ql0, rfl, rfl, (show 3 ≤ PySem.sizeLine from by decide), .cons ⟨_, rfl⟩ (.cons ⟨_, rfl⟩ (.cons ⟨_, rfl⟩ (.nil)))⟩, ⟨_, _, rfl, ⟨rfl, by decide +kernel⟩, ⟨_, _, rfl, ⟨rfl, by decide +kernel⟩, ⟨_, _, rfl, ⟨rfl, by decide +kernel⟩, rfl⟩⟩⟩⟩⟩
    have hn : Gt.consts.lookup x = none := by
      show List.lookup x ([("GROUPS", .tup [.str "all", .str "any", .str "then"])] : List (Str × TL.D)) = none
      simp only [List.lookup_cons, List.lookup_nil]
      rw [show (x == ("GROUPS" : Str)) = false from by simpa using e0]
    rw [hn] at h
    cases h
  blt := by
    intro x hx
    rcases List.mem_cons.mp hx with rfl | hx
    · exact PySem.W.mg_none_of X G z0
    rcases List.mem_cons.mp hx with rfl | hx
    · exact PySem.W.mg_none_of X G z1
    rcases List.mem_cons.mp hx with rfl | hx
    · exact PySem.W.mg_none_of X G z2
    rcases List.mem_cons.mp hx with rfl | hx
    · exact PySem.W.mg_none_of X G z3
    rcases List.mem_cons.mp hx with rfl | hx
    · exact PySem.W.mg_none_of X G z4
    rcases List.mem_cons.mp hx with rfl | hx
    · exact PySem.W.mg_none_of X G z5
    rcases List.mem_cons.mp hx with rfl | hx
    · exact PySem.W.mg_none_of X G z6
    rcases List.mem_cons.mp hx with rfl | hx
    · exact PySem.W.mg_none_of X G z7
    rcases List.mem_cons.mp hx with rfl | hx
    · exact PySem.W.mg_none_of X G z8
    rcases List.mem_cons.mp hx with rfl | hx
    · exact PySem.W.mg_none_of X G z9
    cases hx
end TP
open PySem PySem.W PyProof.Rows
set_option maxRecDepth 100000 in
set_option maxHeartbeats 0 in
theorem PySem.Challenge.cw_taletask_k40_short_holds : PySem.Challenge.rw_taletask_k40_short.Holds := by
  w_on; o_law; k_head; (case hw => w_witness2)
  k_fill
  refine TL.walk (l := PySem.Challenge.rw_taletask_k40_short) (G := TP.Gt) (T := TP.Ts) (t := TP.t16) (i := 16) (n := TP.lawN) (x := "_law_script") rfl rfl ⟨rfl, by decide, by decide⟩ (fun w h Y => PySem.W.kIn_of Y) rfl rfl rfl ?F (fun w fa fd Fu s u => by obtain ⟨_, _, _, _, _, _, _, _, _, rfl, _, _⟩ := Fu.ex; exact .of_eq rfl) TP.law_holds
  case F =>
    intro w mg h KX G
    refine' TP.all_mk (l := PySem.Challenge.rw_taletask_k40_short) (w := w) KX G ?a0 ?l0 ?c0 ?k0 ?a1 ?l1 ?c1 ?k1 ?a2 ?l2 ?c2 ?k2 ?a3 ?l3 ?c3 ?k3 ?a4 ?l4 ?c4 ?k4 ?a5 ?l5 ?c5 ?k5 ?a6 ?l6 ?c6 ?k6 ?a7 ?l7 ?c7 ?k7 ?a8 ?l8 ?c8 ?k8 ?a9 ?l9 ?c9 ?k9 ?a10 ?l10 ?c10 ?k10 ?a11 ?l11 ?c11 ?k11 ?a12 ?l12 ?c12 ?k12 ?a13 ?l13 ?c13 ?k13 ?a14 ?l14 ?c14 ?k14 ?a15 ?l15 ?c15 ?k15 ?a16 ?l16 ?c16 ?k16 ?q0 ?ql0 ?z0 ?z1 ?z2 ?z3 ?z4 ?z5 ?z6 ?z7 ?z8 ?z9
    (case a0 => k_is)
    (case l0 => k_is)
    (case c0 => k_is)
    (case k0 => k_is)
    (case a1 => k_is)
    (case l1 => k_is)
    (case c1 => k_is)
    (case k1 => k_is)
    (case a2 => k_is)
    (case l2 => k_is)
    (case c2 => k_is)
    (case k2 => k_is)
    (case a3 => k_is)
    (case l3 => k_is)
    (case c3 => k_is)
    (case k3 => k_is)
    (case a4 => k_is)
    (case l4 => k_is)
    (case c4 => k_is)
    (case k4 => k_is)
    (case a5 => k_is)
    (case l5 => k_is)
    (case c5 => k_is)
    (case k5 => k_is)
    (case a6 => k_is)
    (case l6 => k_is)
    (case c6 => k_is)
    (case k6 => k_is)
    (case a7 => k_is)
    (case l7 => k_is)
    (case c7 => k_is)
    (case k7 => k_is)
    (case a8 => k_is)
    (case l8 => k_is)
    (case c8 => k_is)
    (case k8 => k_is)
    (case a9 => k_is)
    (case l9 => k_is)
    (case c9 => k_is)
    (case k9 => k_is)
    (case a10 => k_is)
    (case l10 => k_is)
    (case c10 => k_is)
    (case k10 => k_is)
    (case a11 => k_is)
    (case l11 => k_is)
    (case c11 => k_is)
    (case k11 => k_is)
    (case a12 => k_is)
    (case l12 => k_is)
    (case c12 => k_is)
    (case k12 => k_is)
    (case a13 => k_is)
    (case l13 => k_is)
    (case c13 => k_is)
    (case k13 => k_is)
    (case a14 => k_is)
    (case l14 => k_is)
    (case c14 => k_is)
    (case k14 => k_is)
    (case a15 => k_is)
    (case l15 => k_is)
    (case c15 => k_is)
    (case k15 => k_is)
    (case a16 => k_is)
    (case l16 => k_is)
    (case c16 => k_is)
    (case k16 => k_is)
    (case q0 => k_is)
    (case ql0 => k_is)
    (case z0 => k_is)
    (case z1 => k_is)
    (case z2 => k_is)
    (case z3 => k_is)
    (case z4 => k_is)
    (case z5 => k_is)
    (case z6 => k_is)
    (case z7 => k_is)
    (case z8 => k_is)
    (case z9 => k_is)

