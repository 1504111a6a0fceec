import PyProof.Rows.All
import Wide.All
import OpenK.AllK
import Wide.FinOn
import HandS.ForMost
import HandS.ForExc
import HandS.Deep
import HandS.TupAny
import HandS.TupMul
import HandS.IsInst
import HandS.TupLe
import KE.KDictDisplayH
import HandS.Style
import KE.GoesMore
import HandS.Iter
import HandS.SetTxt0
import HandS.SetFor
import HandS.Strs
import HandS.SortKw
import KE.DatumOrd
import HandS.NoneIn
import HandS.ExcOwn
import HandS.TryOnly
import HandS.Text
import PySem.Challenge.RW_taletask_k03_whole_texts_of_parts
set_option Elab.async false
set_option linter.all false
set_option maxRecDepth 100000
namespace TL
open PySem L2

/-- values. lst, dic: lists and dicts that nobody changes any more; fls: a list that is read alone (the script); mlst, mset: a list, a dict of keys, owned by one name -/
inductive D where
  | non | bl (b : Bool) | int (i : Int) | str (x : Str)
  | tup (ds : List D) | lst (ds : List D) | fls (ds : List D) | dic (kvs : List (Str × D))
  | ref (l : Nat) | clo (k : Nat) (ds : List D)
  | mlst (ds : List D) | mset (ks : List D) | mdic (kvs : List (Str × D)) | ins (c : Str) (fs : List (Str × D))
  deriving Inhabited

/-- owned by a name: no value to be handed on -/
def D.own : D → Bool
  | .mlst _ | .mset _ | .mdic _ | .ins _ _ => true
  | _ => false

mutual
def D.py : D → PyData
  | .non => .none
  | .bl b => .bool b
  | .int i => .int i
  | .str x => .str x
  | .tup ds => .tuple (pys ds)
  | .lst ds => .list (pys ds)
  | .fls ds => .list (pys ds)
  | _ => .dict []
def pys : List D → List PyData
  | [] => []
  | d :: ds => d.py :: pys ds
end
/-- == of two values -/
def D.eqv (d e : D) : Bool := PyData.eqv d.py e.py
/-- plain data, not too deep: what == may be asked of -/
def D.shp (d : D) : Bool := SeqAt.shaped d.py

inductive R (α : Type) where
  | ok (a : α) (st : List D)
  | exc (c : Nat) (st : List D)
  | fail
def R.bind {α β : Type} : R α → (α → List D → R β) → R β
  | .ok a st, f => f a st
  | .exc c st, _ => .exc c st
  | .fail, _ => .fail
def R.lift {α : Type} (st : List D) : Option α → R α
  | some a => .ok a st
  | none => .fail
/-- within a comprehension nothing may be raised -/
def R.quiet {α : Type} : R α → R α
  | .exc _ _ => .fail
  | r => r

abbrev Env := List (Option D)
abbrev Sto := List D
abbrev Cal := Nat → List D → Sto → R D

def cutD {α : Type} (xs : List α) (lo hi : Option Int) : List α := (xs.drop (HT.sIx xs.length 0 lo)).take (HT.sIx xs.length xs.length hi - HT.sIx xs.length 0 lo)
def sign (c : Nat) : D := .str ⟨#[c]⟩

inductive O1 where
  | len | tuple | list | sum | all | int | str | sortedSet | sorted | isStr | isInt | isBool | isTuple | isNone | notNone | rev | max | min | minN
  deriving DecidableEq
inductive O2 where
  | add | sub | mul | div | mod | eq | ne | lt | le | gt | ge | isIn | notIn | ix | max | min | join | split | isB | isNotB | index
  deriving DecidableEq
inductive IK where
  | tup | lst | fls | str | rng | enumT | enumL
  deriving DecidableEq

def dAdd : D → D → Option D
  | .int i, .int j => some (.int (i + j))
  | .str x, .str y => if x.length + y.length ≤ sizeLine then some (.str (x ++ y)) else none
  | .tup a, .tup b => if a.length + b.length ≤ sizeLine then some (.tup (a ++ b)) else none
  | .lst a, .lst b => if a.length + b.length ≤ sizeLine then some (.lst (a ++ b)) else none
  | _, _ => none
def dSub : D → D → Option D
  | .int i, .int j => some (.int (i - j))
  | _, _ => none
def dMul : D → D → Option D
  | .int i, .int j => if (-(2 ^ 64) < i ∧ i < 2 ^ 64) ∨ (-(2 ^ 64) < j ∧ j < 2 ^ 64) then some (.int (i * j)) else none
  | .lst a, .int k => if 0 ≤ k ∧ k < 2 ^ 63 ∧ a.length * k.toNat ≤ sizeLine then some (.lst (List.replicate k.toNat a).flatten) else none
  | .tup a, .int k => if k = 1 then some (.tup a) else if a ≠ [] ∧ 2 ≤ k ∧ k ≤ 1000 ∧ a.length ≤ 1000 then some (.tup (List.replicate k.toNat a).flatten) else none
  | _, _ => none
def dDiv : D → D → Option D
  | .int i, .int j => if 0 < j ∧ j < 1073741824 then some (.int (i / j)) else none
  | _, _ => none
def dMod : D → D → Option D
  | .int i, .int j => if 0 < j then some (.int (i % j)) else none
  | _, _ => none
def dEq (a b : D) : Option D := if a.shp && b.shp then some (.bl (a.eqv b)) else none
def dNe (a b : D) : Option D := if a.shp && b.shp then some (.bl (!a.eqv b)) else none
def dLt : D → D → Option D
  | .int i, .int j => some (.bl (decide (i < j)))
  | _, _ => none
def dLe : D → D → Option D
  | .int i, .int j => some (.bl (decide (i ≤ j)))
  | .str x, .str y => some (.bl (!decide (y.cps.toList < x.cps.toList)))
  | _, _ => none
def dGt : D → D → Option D
  | .int i, .int j => some (.bl (decide (j < i)))
  | _, _ => none
def dGe : D → D → Option D
  | .int i, .int j => some (.bl (decide (j ≤ i)))
  | _, _ => none
mutual
def hsb : D → Bool
  | .non => true
  | .int _ => true
  | .str _ => true
  | .tup ds => hsbs ds
  | _ => false
def hsbs : List D → Bool
  | [] => true
  | d :: ds => hsb d && hsbs ds
end
/-- a tuple that may be a key -/
def isKey (d : D) : Bool := (match d with | .tup _ => true | _ => false) && hsb d && decide (d.py.depth ≤ 8)
/-- x in y -/
def inD (x : D) : D → Option Bool
  | .str z => match x with
    | .str s => match s.cps.toList with
      | [c] => some (decide (c ∈ z.cps.toList))
      | _ => none
    | _ => none
  | .lst ds => if x.shp && (D.lst ds).shp then some (ds.any fun y => y.eqv x) else none
  | .tup ds => if x.shp && (D.tup ds).shp then some (ds.any fun y => y.eqv x) else none
  | .mlst ds => if x.shp && (D.lst ds).shp then some (ds.any fun y => y.eqv x) else none
  | .mset ks => if isKey x then some (ks.any fun y => y.eqv x) else none
  | _ => none
def dIn (x y : D) : Option D := (inD x y).map .bl
def dNotIn (x y : D) : Option D := (inD x y).map fun b => .bl (!b)
def dIx : D → D → Option D
  | .tup ds, .int i => atI ds i
  | .lst ds, .int i => atI ds i
  | .fls ds, .int i => atI ds i
  | .str x, .int i => (atI x.cps.toList i).map sign
  | .dic kvs, .str k => kvs.lookup k
  | _, _ => none
def strsOf : List D → Option (List Str)
  | [] => some []
  | .str x :: ds => (strsOf ds).map (x :: ·)
  | _ :: _ => none
def intsOf : List D → Option (List Int)
  | [] => some []
  | .int x :: ds => (intsOf ds).map (x :: ·)
  | _ :: _ => none
def blsOf : List D → Option (List Bool)
  | [] => some []
  | .bl x :: ds => (blsOf ds).map (x :: ·)
  | _ :: _ => none
/-- a text's order: by its code points -/
def strLe (x y : Str) : Bool := !decide (y.cps.toList < x.cps.toList)
def insS (x : Str) : List Str → List Str
  | [] => [x]
  | y :: r => if strLe x y then x :: y :: r else y :: insS x r
def sortS : List Str → List Str
  | [] => []
  | x :: r => insS x (sortS r)
def dedS : List Str → List Str
  | [] => []
  | x :: r => if x ∈ r then dedS r else x :: dedS r
def maxL : List Int → Int
  | [] => 0
  | [x] => x
  | x :: r => let m := maxL r; if m > x then m else x
def minL : List Int → Int
  | [] => 0
  | [x] => x
  | x :: r => let m := minL r; if m < x then m else x
def o1 : O1 → D → Option D
  | .len, .tup ds => some (.int ds.length)
  | .len, .lst ds => some (.int ds.length)
  | .len, .fls ds => some (.int ds.length)
  | .len, .str x => some (.int x.length)
  | .tuple, .lst ds => some (.tup ds)
  | .tuple, .tup ds => some (.tup ds)
  | .list, .tup ds => some (.lst ds)
  | .list, .lst ds => some (.lst ds)
  | .sum, .lst ds => (intsOf ds).map fun ns => .int ns.sum
  | .all, .lst ds => (blsOf ds).map fun bs => .bl (bs.all id)
  | .int, .int i => some (.int i)
  | .int, .bl b => some (.int (if b then 1 else 0))
  | .int, .str x => match x.cps.toList with
    | [c] => if 48 ≤ c ∧ c < 58 then some (.int ((c - 48 : Nat) : Int)) else none
    | _ => none
  | .str, .str x => some (.str x)
  | .str, .int i => if i.natAbs.log2 < 1920 ∧ ((toString i : String) : Str).length ≤ sizeLine then some (.str (toString i : String)) else none
  | .sortedSet, .lst ds => (strsOf ds).bind fun xs => if xs.length < 64 then some (.lst ((sortS (dedS xs)).map .str)) else none
  | .sortedSet, .tup ds => (strsOf ds).bind fun xs => if xs.length < 64 then some (.lst ((sortS (dedS xs)).map .str)) else none
  | .sorted, .lst ds => (strsOf ds).bind fun xs => if xs.length < 64 then some (.lst ((sortS xs).map .str)) else none
  | .isStr, .str _ => some (.bl true)
  | .isStr, .non => some (.bl false)
  | .isStr, .bl _ => some (.bl false)
  | .isStr, .int _ => some (.bl false)
  | .isStr, .tup _ => some (.bl false)
  | .isStr, .lst _ => some (.bl false)
  | .isInt, .str _ => some (.bl false)
  | .isInt, .non => some (.bl false)
  | .isInt, .bl _ => some (.bl true)
  | .isInt, .int _ => some (.bl true)
  | .isInt, .tup _ => some (.bl false)
  | .isInt, .lst _ => some (.bl false)
  | .isBool, .str _ => some (.bl false)
  | .isBool, .non => some (.bl false)
  | .isBool, .bl _ => some (.bl true)
  | .isBool, .int _ => some (.bl false)
  | .isBool, .tup _ => some (.bl false)
  | .isBool, .lst _ => some (.bl false)
  | .isTuple, .str _ => some (.bl false)
  | .isTuple, .non => some (.bl false)
  | .isTuple, .bl _ => some (.bl false)
  | .isTuple, .int _ => some (.bl false)
  | .isTuple, .tup _ => some (.bl true)
  | .isTuple, .lst _ => some (.bl false)
  | .isNone, d => match d with
    | .non => some (.bl true)
    | .mlst _ | .mset _ | .mdic _ | .ins _ _ => none
    | _ => some (.bl false)
  | .notNone, d => match d with
    | .non => some (.bl false)
    | .mlst _ | .mset _ | .mdic _ | .ins _ _ => none
    | _ => some (.bl true)
  | .rev, .tup ds => some (.tup ds.reverse)
  | .max, .lst ds => (intsOf ds).bind fun ns => if ns = [] then none else some (.int (maxL ns))
  | .min, .lst ds => (intsOf ds).bind fun ns => if ns = [] then none else some (.int (minL ns))
  | .minN, .lst ds => (intsOf ds).map fun ns => if ns = [] then .non else .int (minL ns)
  | _, _ => none
def o2 : O2 → D → D → Option D
  | .add, a, b => dAdd a b
  | .sub, a, b => dSub a b
  | .mul, a, b => dMul a b
  | .div, a, b => dDiv a b
  | .mod, a, b => dMod a b
  | .eq, a, b => dEq a b
  | .ne, a, b => dNe a b
  | .lt, a, b => dLt a b
  | .le, a, b => dLe a b
  | .gt, a, b => dGt a b
  | .ge, a, b => dGe a b
  | .isIn, a, b => dIn a b
  | .notIn, a, b => dNotIn a b
  | .ix, a, b => dIx a b
  | .max, .int i, .int j => some (.int (if j > i then j else i))
  | .min, .int i, .int j => some (.int (if j < i then j else i))
  | .join, .str a, .lst ds => (strsOf ds).bind fun ys => if (ys.map (·.length)).sum + ys.length * a.length ≤ 16777216 ∧ (Txt.join a ys).length ≤ sizeLine then some (.str (Txt.join a ys)) else none
  | .split, .str a, .str b => if (b.length == 0) = false ∧ a.length + 2 ≤ sizeLine ∧ (Txt.split a b).length ≤ sizeLine ∧ (Txt.split a b).all (fun x => decide (x.length ≤ sizeLine)) = true then some (.lst ((Txt.split a b).map .str)) else none
  | .index, .lst ds, x => if x.shp && (D.lst ds).shp then (ds.findIdx? fun y => y.eqv x).map fun (j : Nat) => .int (j : Nat) else none
  | .isB, .bl a, .bl b => some (.bl (decide (a = b)))
  | .isNotB, .bl a, .bl b => some (.bl (!decide (a = b)))
  | _, _, _ => none
/-- t[lo:hi] -/
def dCut : D → Option Int → Option Int → Option D
  | .tup ds, lo, hi => some (.tup (cutD ds lo hi))
  | .lst ds, lo, hi => some (.lst (cutD ds lo hi))
  | .str x, lo, hi => some (.str ⟨(cutD x.cps.toList lo hi).toArray⟩)
  | _, _, _ => none
/-- d.get(k, z) -/
def dGet (kvs : List (Str × D)) (y z : D) : Option D := match y with
  | .str k => some ((kvs.lookup k).getD z)
  | _ => none
/-- what a for walks -/
def items : IK → List D → Option (List D)
  | .tup, [.tup ds] => some ds
  | .lst, [.lst ds] => some ds
  | .fls, [.fls ds] => some ds
  | .str, [.str x] => some (x.cps.toList.map sign)
  | .rng, [.int n] => if -(2 ^ 62) ≤ n ∧ n ≤ sizeLine then some ((List.range n.toNat).map fun (i : Nat) => .int (0 + (i : Int))) else none
  | .rng, [.int a, .int b] => if -(2 ^ 62) ≤ a ∧ a < 2 ^ 62 ∧ -(2 ^ 62) ≤ b ∧ b < 2 ^ 62 ∧ b - a ≤ sizeLine then some ((List.range (b - a).toNat).map fun (i : Nat) => .int (a + (i : Int))) else none
  | .enumT, [.tup ds] => some (ds.zipIdx.map fun p => .tup [.int (p.2 : Nat), p.1])
  | .enumL, [.lst ds] => some (ds.zipIdx.map fun p => .tup [.int (p.2 : Nat), p.1])
  | _, _ => none

inductive T where
  | nm (i : Nat)
  | tp (is : List Nat)
  deriving DecidableEq
def setAll : List Nat → List D → Env → Env
  | i :: is, d :: ds, ρ => setAll is ds (ρ.set i (some d))
  | _, _, ρ => ρ
def bindT : T → D → Env → Option Env
  | .nm i, d, ρ => if d.own then none else some (ρ.set i (some d))
  | .tp is, .tup ds, ρ => if ds.length = is.length then some (setAll is ds ρ) else none
  | .tp _, _, _ => none
def wipeE (ρ : Env) : List Nat → Env
  | [] => ρ
  | v :: vs => (wipeE ρ vs).set v none

inductive E where
  | var (i : Nat) | con (d : D) | tup (es : List E) | lst (es : List E) | dic (ks : List Str) (es : List E)
  | o1 (o : O1) (e : E) | o2 (o : O2) (a b : E) | sm (o : O2) (a b : E) | chain (o o' : O2) (a b c : E)
  | and (es : List E) | or (es : List E) | not (e : E) | ife (c a b : E)
  | call (f : Nat) (es : List E)
  | sl (e : E) (lo hi : List E)
  | dget (e k d : E)
  | lc (elt : E) (tg : T) (ik : IK) (ie : List E) (cond : List E) (own : List Nat)
  | inOwn (neg : Bool) (e : E) (i : Nat)
  | fld (c : Str) (e : E) (f : Str) | meth (i : Nat) (c m : Str) (e : E) (es : List E) | make (i : Nat) (c : Str) (es : List E)
  | srt (e : E) | minN (e : E) | lm (o : O2) (a b : E)
  deriving Inhabited
inductive S where
  | set (i : Nat) (e : E) | own (i : Nat) (es : List E) | ownd (i : Nat) (e : E)
  | unpack (is : List Nat) (e : E) | app (i : Nat) (e : E) | ext (i : Nat) (e : E) | put (i : Nat) (e : E) | freeze (i : Nat)
  | expr (e : E) | ifs (c : E) (a b : List S) | for (tg : T) (ik : IK) (ie : List E) (body : List S) | while (c : E) (body : List S)
  | ret (e : E) | retN | raise (c : Nat) | unpackL (is : List Nat) (e : E) | setF (c : Str) (e : E) (f : Str) (v : E)
  | tryS (body : List S) (j : Nat) (cs ncs : List Nat) (ret : Bool) (i : Nat) (d : D)
  deriving Inhabited
structure Fn where
  np : Nat
  ns : Nat
  body : List S
  deriving Inhabited

def R.bool (r : R D) (f : Bool → Sto → R D) : R D := r.bind fun d st => match d with
  | .bl b => f b st
  | _ => .fail
def lcGo (bnd : D → Option Env) (c : Env → Sto → R D) (e : Env → Sto → R D) : List D → Sto → R (List D)
  | [], st => .ok [] st
  | x :: xs, st => match bnd x with
    | none => .fail
    | some ρ => (c ρ st).bind fun b st1 => match b with
      | .bl true => (e ρ st1).bind fun d st2 => if d.own then .fail else (lcGo bnd c e xs st2).bind fun ds st3 => .ok (d :: ds) st3
      | .bl false => lcGo bnd c e xs st1
      | _ => .fail
def optI : List D → Option (Option Int)
  | [] => some none
  | [.int i] => some (some i)
  | _ => none
/-- a field of a thing of the class named c, handed on -/
def fldD (st : Sto) (c : Str) (x : D) (f : Str) : Option D := match x with
  | .ref l => match st[l]? with
    | some (.ins c' fs) => if c' = c then (fs.lookup f).bind fun d => if d.own then none else some d else none
    | _ => none
  | _ => none
/-- a thing of the class named c, whose method m no field hides -/
def hasM (st : Sto) (c : Str) (x : D) (m : Str) : Bool := match x with
  | .ref l => match st[l]? with
    | some (.ins c' fs) => decide (c' = c) && (fs.lookup m).isNone
    | _ => false
  | _ => false
def mkR (l : Nat) : R D → R D
  | .ok .non st => .ok (.ref l) st
  | .exc c st => .exc c st
  | _ => .fail
def putD (f : Str) (d : D) : List (Str × D) → List (Str × D)
  | [] => [(f, d)]
  | (g, x) :: r => if g = f then (g, d) :: r else (g, x) :: putD f d r
/-- a field is set -/
def setFD (st : Sto) (c : Str) (x : D) (f : Str) (d : D) : Option Sto := match x with
  | .ref l => match st[l]? with
    | some (.ins c' fs) => if c' = c ∧ fs.length < 1000 ∧ d.own = false then some (st.set l (.ins c (putD f d fs))) else none
    | _ => none
  | _ => none
mutual
def ev (C : Cal) : E → Env → Sto → R D
  | .var i, ρ, st => match ρ[i]? with
    | some (some d) => if d.own then .fail else .ok d st
    | _ => .fail
  | .con d, _, st => .ok d st
  | .tup es, ρ, st => (evs C es ρ st).bind fun ds st => .ok (.tup ds) st
  | .lst es, ρ, st => (evs C es ρ st).bind fun ds st => .ok (.lst ds) st
  | .dic ks es, ρ, st => (evs C es ρ st).bind fun ds st => .ok (.dic (ks.zip ds)) st
  | .o1 o e, ρ, st => (ev C e ρ st).bind fun d st => R.lift st (o1 o d)
  | .o2 o a b, ρ, st => (ev C a ρ st).bind fun x st => (ev C b ρ st).bind fun y st => R.lift st (o2 o x y)
  | .sm o a b, ρ, st => (ev C a ρ st).bind fun x st => match x with
    | .str x => (ev C b ρ st).bind fun y st => R.lift st (o2 o (.str x) y)
    | _ => .fail
  | .chain o o' a b c, ρ, st => (ev C a ρ st).bind fun x st => (ev C b ρ st).bind fun y st => (R.lift st (o2 o x y)).bool fun k st =>
      if k then (ev C c ρ st).bind fun z st => R.lift st (o2 o' y z) else .ok (.bl false) st
  | .and es, ρ, st => evAnd C es ρ st
  | .or es, ρ, st => evOr C es ρ st
  | .not e, ρ, st => (ev C e ρ st).bool fun k st => .ok (.bl (!k)) st
  | .ife c a b, ρ, st => (ev C c ρ st).bool fun k st => if k then ev C a ρ st else ev C b ρ st
  | .call f es, ρ, st => (evs C es ρ st).bind fun ds st => C f ds st
  | .sl e lo hi, ρ, st => (ev C e ρ st).bind fun d st => (evs C lo ρ st).bind fun l st => (R.lift st (optI l)).bind fun l st => (evs C hi ρ st).bind fun h st => (R.lift st (optI h)).bind fun h st => R.lift st (dCut d l h)
  | .dget e k d, ρ, st => (ev C e ρ st).bind fun x st => match x with
    | .dic kvs => (ev C k ρ st).bind fun y st => (ev C d ρ st).bind fun z st => R.lift st (dGet kvs y z)
    | _ => .fail
  | .lc elt tg ik ie cond own, ρ, st => (evs C ie ρ st).bind fun ds st => match items ik ds with
    | none => .fail
    | some xs => ((lcGo (fun x => bindT tg x (wipeE ρ own)) (fun ρ st => evAnd1 C cond ρ st) (fun ρ st => ev C elt ρ st) xs st).quiet).bind fun ds st => .ok (.lst ds) st
  | .inOwn neg e i, ρ, st => (ev C e ρ st).bind fun x st => match ρ[i]? with
    | some (some (.mlst ds)) => R.lift st ((inD x (.mlst ds)).map fun b => .bl (if neg then !b else b))
    | some (some (.mset ks)) => R.lift st ((inD x (.mset ks)).map fun b => .bl (if neg then !b else b))
    | _ => .fail
  | .fld c e f, ρ, st => (ev C e ρ st).bind fun x st => R.lift st (fldD st c x f)
  | .meth i c m e es, ρ, st => (ev C e ρ st).bind fun x st => if hasM st c x m then (evs C es ρ st).bind fun ds st => C i (x :: ds) st else .fail
  | .make i c es, ρ, st => (evs C es ρ st).bind fun ds st => mkR st.length (C i (.ref st.length :: ds) (st ++ [.ins c []]))
  | .srt e, ρ, st => (ev C e ρ st).bind fun d st => R.lift st (o1 .sortedSet d)
  | .minN e, ρ, st => (ev C e ρ st).bind fun d st => R.lift st (o1 .minN d)
  | .lm o a b, ρ, st => (ev C a ρ st).bind fun x st => match x with
    | .lst x => (ev C b ρ st).bind fun y st => R.lift st (o2 o (.lst x) y)
    | _ => .fail
def evs (C : Cal) : List E → Env → Sto → R (List D)
  | [], _, st => .ok [] st
  | e :: es, ρ, st => (ev C e ρ st).bind fun d st => (evs C es ρ st).bind fun ds st => .ok (d :: ds) st
def evAnd (C : Cal) : List E → Env → Sto → R D
  | [], _, _ => .fail
  | [e], ρ, st => ev C e ρ st
  | e :: es, ρ, st => (ev C e ρ st).bool fun k st => if k then evAnd C es ρ st else .ok (.bl false) st
def evOr (C : Cal) : List E → Env → Sto → R D
  | [], _, _ => .fail
  | [e], ρ, st => ev C e ρ st
  | e :: es, ρ, st => (ev C e ρ st).bool fun k st => if k then .ok (.bl true) st else evOr C es ρ st
/-- a comprehension's test, if there is one -/
def evAnd1 (C : Cal) : List E → Env → Sto → R D
  | [], _, st => .ok (.bl true) st
  | e :: _, ρ, st => ev C e ρ st
end

inductive Fl where
  | nx (ρ : Env) (st : Sto)
  | rt (d : D) (st : Sto)
  | ex (c : Nat) (ρ : Env) (st : Sto)
  | fail
def Fl.of (ρ : Env) (r : R D) (f : D → Sto → Fl) : Fl := match r with
  | .ok d st => f d st
  | .exc c st => .ex c ρ st
  | .fail => .fail
def Fl.ofs (ρ : Env) (r : R (List D)) (f : List D → Sto → Fl) : Fl := match r with
  | .ok d st => f d st
  | .exc c st => .ex c ρ st
  | .fail => .fail
/-- exceptions of the kinds cs are caught, of the kinds ncs not; the suite is plain: return d, or d is bound to a name -/
def Fl.catch (cs ncs : List Nat) (ret : Bool) (i : Nat) (d : D) (r : Fl) : Fl := match r with
  | .ex c ρ st => if c ∈ cs then (if ret then .rt d st else .nx (ρ.set i (some d)) st) else if c ∈ ncs then .ex c ρ st else .fail
  | r => r
def Fl.seq (r : Fl) (f : Env → Sto → Fl) : Fl := match r with
  | .nx ρ st => f ρ st
  | r => r
def forGo (bnd : D → Env → Option Env) (b : Env → Sto → Fl) : List D → Env → Sto → Fl
  | [], ρ, st => .nx ρ st
  | x :: xs, ρ, st => match bnd x ρ with
    | none => .fail
    | some ρ1 => (b ρ1 st).seq fun ρ2 st2 => forGo bnd b xs ρ2 st2
def whileGo (c : Env → Sto → R D) (b : Env → Sto → Fl) : Nat → Env → Sto → Fl
  | 0, _, _ => .fail
  | n + 1, ρ, st => Fl.of ρ (c ρ st) fun d st1 => match d with
    | .bl true => (b ρ st1).seq fun ρ2 st2 => whileGo c b n ρ2 st2
    | .bl false => .nx ρ st1
    | _ => .fail
/-- turns of a while, at most -/
def FU : Nat := 1000000
mutual
def exec (C : Cal) : S → Env → Sto → Fl
  | .set i e, ρ, st => Fl.of ρ (ev C e ρ st) fun d st => if d.own then .fail else .nx (ρ.set i (some d)) st
  | .own i es, ρ, st => Fl.ofs ρ (evs C es ρ st) fun ds st => .nx (ρ.set i (some (.mlst ds))) st
  | .ownd i e, ρ, st => Fl.of ρ (ev C e ρ st) fun d st => if isKey d then .nx (ρ.set i (some (.mset [d]))) st else .fail
  | .unpack is e, ρ, st => Fl.of ρ (ev C e ρ st) fun d st => match bindT (.tp is) d ρ with
    | some ρ1 => .nx ρ1 st
    | none => .fail
  | .app i e, ρ, st => match ρ[i]? with
    | some (some (.mlst ds)) => Fl.of ρ (ev C e ρ st) fun d st => if d.own then .fail else if ds.length < sizeLine then .nx (ρ.set i (some (.mlst (ds ++ [d])))) st else .fail
    | _ => .fail
  | .ext i e, ρ, st => match ρ[i]? with
    | some (some (.mlst ds)) => Fl.of ρ (ev C e ρ st) fun d st => match d with
      | .lst es => if ds.length + es.length ≤ sizeLine then .nx (ρ.set i (some (.mlst (ds ++ es)))) st else .fail
      | .tup es => if ds.length + es.length ≤ sizeLine then .nx (ρ.set i (some (.mlst (ds ++ es)))) st else .fail
      | _ => .fail
    | _ => .fail
  | .put i e, ρ, st => match ρ[i]? with
    | some (some (.mset ks)) => Fl.of ρ (ev C e ρ st) fun d st => if isKey d && decide (ks.length < sizeLine) then .nx (ρ.set i (some (.mset (if ks.any fun y => y.eqv d then ks else ks ++ [d])))) st else .fail
    | _ => .fail
  | .freeze i, ρ, st => match ρ[i]? with
    | some (some (.mlst ds)) => .nx (ρ.set i (some (.lst ds))) st
    | _ => .fail
  | .expr e, ρ, st => Fl.of ρ (ev C e ρ st) fun _ st => .nx ρ st
  | .ifs c a b, ρ, st => Fl.of ρ (ev C c ρ st) fun d st => match d with
    | .bl k => if k then execs C a ρ st else execs C b ρ st
    | _ => .fail
  | .for tg ik ie body, ρ, st => Fl.ofs ρ (evs C ie ρ st) fun ds st => match items ik ds with
    | none => .fail
    | some xs => forGo (bindT tg) (fun ρ st => execs C body ρ st) xs ρ st
  | .while c body, ρ, st => whileGo (fun ρ st => ev C c ρ st) (fun ρ st => execs C body ρ st) FU ρ st
  | .ret e, ρ, st => Fl.of ρ (ev C e ρ st) fun d st => if d.own then .fail else .rt d st
  | .retN, _, st => .rt .non st
  | .setF c e f v, ρ, st => Fl.of ρ (ev C v ρ st) fun d st => Fl.of ρ (ev C e ρ st) fun x st => match setFD st c x f d with
    | some st' => .nx ρ st'
    | none => .fail
  | .raise c, ρ, st => .ex c ρ st
  | .tryS body _ cs ncs ret i d, ρ, st => Fl.catch cs ncs ret i d (execs C body ρ st)
  | .unpackL is e, ρ, st => Fl.of ρ (ev C e ρ st) fun d st => match d with
    | .lst ds => if ds.length = is.length then .nx (setAll is ds ρ) st else .fail
    | _ => .fail
def execs (C : Cal) : List S → Env → Sto → Fl
  | [], ρ, st => .nx ρ st
  | s :: ss, ρ, st => (exec C s ρ st).seq fun ρ st => execs C ss ρ st
end
def finish : Fl → R D
  | .nx _ st => .ok .non st
  | .rt d st => .ok d st
  | .ex c _ st => .exc c st
  | .fail => .fail
def enter (F : Fn) (ds : List D) : Env := ds.map some ++ List.replicate (F.ns - ds.length) none
def run (P : List Fn) : Nat → Cal
  | 0, _, _, _ => .fail
  | n + 1, f, ds, st => match P[f]? with
    | none => .fail
    | some F => if ds.length = F.np then finish (execs (run P n) F.body (enter F ds) st) else .fail
end TL

namespace HT
open PySem PyProof.Rows
section
variable {prog : Program} {w : World} {A : Around} {E : Value → Shared → Prop} {s : Shared}
theorem adjust_back (n : Nat) : Builtin.Slice.sliceAdjust none none (-1) (n : Int) = ((n : Int) - 1, -1) := by
  unfold Builtin.Slice.sliceAdjust
  simp
theorem places_back (n : Nat) : Builtin.Slice.slicePlaces ((n : Int) - 1) (-1) (-1) = n := by
  unfold Builtin.Slice.slicePlaces
  simp
  try (split <;> omega)
  try omega
theorem applied_back {b : Addr} {v1 v2 v3 : Value} {n : Nat} {Q : Int × Int × Nat → Shared → Prop} (hs : s.heap.IsSliceOf b v1 v2 v3) (p1 : IsPart v1 none) (p2 : IsPart v2 none) (p3 : IsPart v3 (some (-1)))
    (h : Q ((n : Int) - 1, -1, n) s) : wpAny (model prog w) A (Builtin.Slice.sliceApplied (.ref b) (pure (n : Int))) Q E s := by
  obtain ⟨os, hos, hcs, hds⟩ := id hs
  unfold Builtin.Slice.sliceApplied Builtin.Slice.sliceFields
  refine wpAny_bind (wpAny_bind (wpAny_field hos hds (x := v1) rfl (wpAny_bind (wpAny_field hos hds (x := v2) rfl (wpAny_bind (wpAny_field hos hds (x := v3) rfl (wpAny_pure ?_)))))))
  refine wpAny_bind (slicePart_ p3 ?_)
  show wpAny _ _ (if ((-1 : Int) == 0) = true then _ else _) _ _ s
  rw [if_neg (by decide)]
  refine wpAny_bind (slicePart_ p1 (wpAny_bind (slicePart_ p2 (wpAny_bind (wpAny_pure ?_)))))
  show wpAny _ _ (match Builtin.Slice.sliceAdjust none none (-1) (n : Int) with | (l, u) => pure (l, (-1 : Int), Builtin.Slice.slicePlaces l u (-1))) _ _ s
  rw [adjust_back n]
  show wpAny _ _ (pure ((n : Int) - 1, (-1 : Int), Builtin.Slice.slicePlaces ((n : Int) - 1) (-1) (-1))) _ _ s
  rw [places_back]
  exact wpAny_pure h
theorem fm_some {α β : Type} {f : α → Option β} {g : α → β} : ∀ {l : List α}, (∀ m ∈ l, f m = some (g m)) → l.filterMap f = l.map g
  | [], _ => rfl
  | x :: l, h => by
    rw [List.filterMap_cons, h x (List.mem_cons_self ..), List.map_cons, fm_some fun m hm => h m (List.mem_cons_of_mem _ hm)]
theorem pick_back (xs : Array Value) : ((List.range xs.size).filterMap fun (m : Nat) => xs[((xs.size : Int) - 1 + (m : Int) * (-1)).toNat]?).toArray = xs.toList.reverse.toArray := by
  congr 1
  apply List.ext_getElem?
  intro i
  have e : ∀ m ∈ List.range xs.size, xs[((xs.size : Int) - 1 + (m : Int) * (-1)).toNat]? = some (xs.toList.reverse.getD m .none) := by
    intro m hm
    have hm := List.mem_range.mp hm
    have : ((xs.size : Int) - 1 + (m : Int) * (-1)).toNat = xs.size - 1 - m := by omega
    rw [this, List.getD_eq_getElem?_getD, List.getElem?_reverse (by simpa using hm)]
    simp
    rw [Array.getElem?_eq_getElem (by omega)]
    simp
  rw [show ((List.range xs.size).filterMap fun (m : Nat) => xs[((xs.size : Int) - 1 + (m : Int) * (-1)).toNat]?) = (List.range xs.size).map fun m => xs.toList.reverse.getD m .none from fm_some e]
  rw [List.getElem?_map]
  by_cases hi : i < xs.size
  · rw [List.getElem?_range hi]
    simp [hi]
  · rw [List.getElem?_eq_none (by simpa using hi), List.getElem?_eq_none (by simpa using hi)]
    rfl
theorem getItem_tuple_back {t b : Addr} {items : Array Value} {v1 v2 v3 : Value} {Q : Value → Shared → Prop} (ht : IsTup s.heap t items) (hs : s.heap.IsSliceOf b v1 v2 v3) (p1 : IsPart v1 none) (p2 : IsPart v2 none) (p3 : IsPart v3 (some (-1)))
    (h : Q (.ref s.heap.objs.size) { s with heap := s.heap.push { cls := .type "tuple", data := .seq items.toList.reverse.toArray } })
    (hsz : items.size ≤ sizeLine) : wpAny (model prog w) A (getItem (.ref t) (.ref b)) Q E s := by
  have htake : sizeOk (.seq items.toList.reverse.toArray) := by
    show items.toList.reverse.toArray.size ≤ sizeLine
    rw [List.size_toArray, List.length_reverse, Array.length_toList]
    exact hsz
  obtain ⟨os, hos, hcs, hds⟩ := id hs
  have hTs : s.TypeIs (.ref b) "slice" := ⟨os, hos, hcs⟩
  unfold getItem
  try with_reducible refine wpAny_holding ?_
  first | refine wpAny_bind (wpAny_pure ?_) | skip
  refine wpAny_bind (wpAny_sequenceKey ht.typeIs (by decide) ?_)
  refine wpAny_bind (wpAny_callSpecial?_slot (name := Str.ofString "__getitem__") ht.typeIs PyProof.Rows.slot_tuple_getitem
    (wpAny_call_entry PyProof.Rows.slot_tuple_getitem ht.typeIs entry_tuple_getitem ?_ (args_tuple_getitem _ _)))
  show wpAny _ _ (Builtin.Tuple.tupleItemsOf (.ref t) >>= _) _ _ s
  refine wpAny_bind (tupleItemsOf_ ht ?_)
  refine wpAny_bind (wpAny_typeOf hTs ?_)
  rw [if_pos (by decide)]
  refine wpAny_bind (applied_back hs p1 p2 p3 ?_)
  have hno : ¬ ((((items.size : Int) - 1) == 0 && (-1 : Int) == 1 && items.size == items.size) = true) := by
    intro q
    rw [Bool.and_eq_true, Bool.and_eq_true] at q
    have := q.1.2
    exact absurd this (by decide)
  show wpAny _ _ (if (((items.size : Int) - 1) == 0 && (-1 : Int) == 1 && items.size == items.size) = true then _ else _) _ _ s
  rw [if_neg hno, pick_back]
  first
    | exact wpAny_bind (m := Builtin.Tuple.tupleExact _) (wpAny_newObj_type (wpAny_pure ⟨_, rfl, wpAny_pure h⟩) htake)
    | exact wpAny_bind (m := Builtin.Tuple.tupleExact _) (wpAny_newObj_type (wpAny_bind (wpAny_pure (wpAny_pure ⟨_, rfl, wpAny_pure h⟩))) htake)
    | exact wpAny_bind (wpAny_bind (m := Builtin.Tuple.tupleExact _) (wpAny_newObj_type (wpAny_pure (wpAny_pure ⟨_, rfl, wpAny_pure h⟩)) htake))
    | exact wpAny_bind (wpAny_bind (m := Builtin.Tuple.tupleExact _) (wpAny_newObj_type (wpAny_pure ⟨_, rfl, wpAny_pure h⟩) htake))
end
end HT
namespace L2
open PySem PySem.Spec PyProof.Rows
def tBack (K : PySem.W.Frag) (te : TE) : TE := fun σ H Q => te σ H fun x H1 => ∃ a xs, x = .ref a ∧ SqT K H1 a xs ∧ ∀ p, H1 p = none → Q (.ref p) (upd H1 p (.tup xs.reverse))
theorem pe_back {X : Cx} {e : Expr} {te : TE} {k : Nat} {p1 p2 p3 pos : Pos} (he : PE X e te) : PE X (.Subscript e (.Slice none none (some (.UnaryOp .USub (.Constant (.int 1) k p1) p2)) p3) pos) (tBack X.K te) := by
  refine ⟨fun pins s σ H Q I h => ?_⟩
  refine Subscript_ (thn (he.run pins s σ H _ I h) fun v s1 ⟨x, H1, I1, r1, q1⟩ => ?_)
  obtain ⟨a, xs, rfl, hx, q⟩ := q1
  cases r1
  have step : PO X (some (.UnaryOp .USub (.Constant (.int 1) k p1) p2)) (tPart (tUn (rU fun i => .int (-i)) (tC (.int 1)))) := po_some (pe_un un_neg pe_int)
  refine wpAny_Slice (thn (po_none.run pins s1 σ H1 (fun o H2 => o = none ∧ H2 = H1) I1 ⟨rfl, rfl⟩) fun v1 s2 ⟨l, H2, I2, q1, e1, e2⟩ => ?_)
  subst e1 e2
  refine thn (po_none.run pins s2 σ H2 (fun o H3 => o = none ∧ H3 = H2) I2 ⟨rfl, rfl⟩) fun v2 s3 ⟨u, H3, I3, q2, e1, e2⟩ => ?_
  subst e1 e2
  refine thn (step.run pins s3 σ H3 (fun o H4 => o = some (-1) ∧ H4 = H3) I3 ⟨1, rfl, -1, rfl, rfl, rfl⟩) fun v3 s4 ⟨o, H4, I4, q3, e1, e2⟩ => ?_
  subst e1 e2
  have I5 : Inv X pins σ H4 { s4 with heap := s4.heap.push { cls := .type "slice", data := .fields #[v1, v2, v3] } } := I4.kept (t' := s4.toks) fun b ob q => Heap.get?_push_of_some _ q
  obtain ⟨its, r, ht, hz⟩ := I5.tuple hx
  have hlen : its.toArray.size = xs.length := by rw [List.size_toArray]; exact r.length.symm
  show wpAny (model X.prog X.w) X.A (subscriptTail e (.Slice none none (some (.UnaryOp .USub (.Constant (.int 1) k p1) p2)) p3) (.ref a) (.ref s4.heap.objs.size)) (EP X pins σ Q) X.xe { s4 with heap := s4.heap.push { cls := .type "slice", data := .fields #[v1, v2, v3] } }
  refine tail_any (ops := [.ref a, .ref s4.heap.objs.size]) ht.typeIs PyProof.Rows.slot_tuple_getitem.lookup ?_ (by with_unfolding_all rfl)
  refine HT.getItem_tuple_back ht (Heap.IsSliceOf.new _ v1 v2 v3) q1 q2 q3 ?_ (by rw [hlen]; exact hz)
  refine ⟨.ref _, _, I5.laid (t' := s4.toks) (o := .tup xs.reverse) (fun b ob q => Heap.get?_push_of_some _ q) (Nat.le_refl _) ?_, rfl, q _ (I5.hok.fresh (Nat.le_refl _))⟩
  exact ⟨by rw [List.length_reverse]; exact hz, _, r.reverse, IsTup.new _ _⟩
end L2

namespace L2
open PySem PySem.Spec PyProof.Rows
theorem tuple_once (l : Addr) (items : Array Value) (n : Nat) (dd : Option Addr) (sl : Array (Option Value)) (u : Tok) (c1 : (items.isEmpty || (1 : Int) == 1) = true) :
    Meets (Builtin.«tuple.__mul__» ⟨[.ref l, .int 1 u], []⟩) (fun _ R s => s.heap.get? l = some { cls := .type "tuple", dict := dd, data := .seq items n, slots := sl } ∧ R (.ok (.ret (Value.ref l))) s) :=
  .of_wp fun prog w A R s h => by
    obtain ⟨hp, g, d, tk, os⟩ := s
    obtain ⟨hl, h⟩ := h
    have f1 := AutoSeq1.idx_int
    have c0 : (decide ((1 : Int) < -(2 ^ 63)) || decide ((1 : Int) ≥ 2 ^ 63)) = false := by decide
    wp_walk using wpAny_loadPart' hl
    repeat (first
      | (refine wpAny_ite_false (decide_eq_false (by rw [c0]; exact Bool.false_ne_true)) ?_; wp_walk using wpAny_loadPart' hl)
      | (refine wpAny_ite_true (decide_eq_true c1) ?_; wp_walk using wpAny_loadPart' hl))
    exact ⟨_, rfl, h⟩
def rOneT (K : PySem.W.Frag) : R2 := fun x y H Q => ∃ l xs, x = .ref l ∧ y = .int 1 ∧ SqT K H l xs ∧ Q (.ref l) H
theorem op_oneT {X : Cx} : OpR X (binaryOp .Mult) (rOneT X.K) := by
  intro pins s σ H x y v u Q I rx ry h
  obtain ⟨l, xs, rfl, rfl, hT, q⟩ := h
  cases rx
  obtain ⟨t, rfl⟩ := ry
  obtain ⟨its, r, ⟨⟨cls, dd, data, sl⟩, ho, hc, n, hd⟩, hs⟩ := I.tuple hT
  simp only at hc hd
  subst hc hd
  refine wpAny_binaryOp_repeat_ref (T := "tuple") (U := "int") (by decide) ⟨_, ho, rfl⟩ (fun s' => typeIs_int s' 1 t) noFill_tuple_mul F.fills_int_mul F.slot_int_rmul repeat_tuple F.slot_int_index.lookup
    (call_meets F.slot_int_rmul (typeIs_int s 1 t) F.entry_int_rmul (F.args_int_rmul_2 _ _) (int_rmul_tuple 1 t l its.toArray n dd sl)
      ⟨ho, rfl, ⟨_, ho, rfl⟩, call_meets F.slot_tuple_mul ⟨_, ho, rfl⟩ F.entry_tuple_mul (F.args_tuple_mul_2 _ _) (tuple_once l its.toArray n dd sl t (by simp)) ⟨ho, ?_⟩⟩)
  exact ⟨.ref l, H, I, rfl, q⟩
end L2

namespace TL
open PySem L2 PySem.Spec PyProof.Rows
open AutoSeq1 (wpAny_loadPart')
theorem meets_enumerate_newT (l : Addr) (items : Array Value) (n : Nat) (dct : Option Addr) (sl : Array (Option Value)) :
    Meets (Builtin.«enumerate.__new__» ⟨[.type "enumerate", .ref l], []⟩) (fun _ R s => s.heap.get? l = some { cls := .type "tuple", dict := dct, data := .seq items n, slots := sl } ∧
      R (.ok (.ret (.ref (s.heap.push { cls := .type "tuple_iterator", data := .fields #[.ref l, .int 0 0] }).objs.size)))
        { s with heap := (s.heap.push { cls := .type "tuple_iterator", data := .fields #[.ref l, .int 0 0] }).push { cls := .type "enumerate", data := .fields #[.none, .bool false, .ref s.heap.objs.size, rawInt 0, .none, .none] } }) :=
  .of_wp fun prog w A R s h => by
    obtain ⟨hp, g, d, tk, os⟩ := s; obtain ⟨hl, h⟩ := h
    have hsub := sub_enumerate
    have hL : Heap.IsTuple (Shared.heap ⟨hp, g, d, tk, os⟩) l items := ⟨_, hl, rfl, n, rfl⟩
    wp_walk using wpAny_loadPart' hl
    refine wpAny_stack_any fun st => wpAny_pure ?_
    split
    · rename_i c _ _ _ _ _
      cases (c == Value.type "enumerate")
      · wp_walk using wpAny_loadPart' hl, wpAny_pyIter_tuple hL
        exact ⟨_, rfl, h⟩
      · wp_walk using wpAny_loadPart' hl, wpAny_pyIter_tuple hL
        exact ⟨_, rfl, h⟩
    · wp_walk using wpAny_loadPart' hl, wpAny_pyIter_tuple hL
      exact ⟨_, rfl, h⟩
section
variable {prog : Program} {w : World} {A : Around} {E : Value → Shared → Prop} {s : Shared}
theorem call_enumerate_tup {l : Addr} {items : Array Value} {Q : Value → Shared → Prop} (hL : s.heap.IsTuple l items)
    (h : ∀ h', IsEnum h' (s.heap.objs.size + 1) s.heap.objs.size 0 .none → h'.IsTupleIter s.heap.objs.size l 0 → h'.objs.size = s.heap.objs.size + 2 →
      (∀ b o, s.heap.get? b = some o → h'.get? b = some o) → Q (.ref (s.heap.objs.size + 1)) { s with heap := h' }) :
    wpAny (model prog w) A (call (.type "enumerate") [.ref l]) Q E s := by
  obtain ⟨⟨c, dct, dt, sl⟩, hl, hc, n, hd⟩ := hL
  replace hc : c = .type "tuple" := hc
  replace hd : dt = .seq items n := hd
  subst hc hd
  refine callType_new F.called_enumerate (by decide) (F.typeCall_enumerate_1 _) (F.newCall_enumerate_1 _) (fun obj => F.args_object_init_2 obj _) F.entry_enumerate_new
    (meets_enumerate_newT l items n dct sl) ⟨hl, ?_⟩
  have hz : (s.heap.push { cls := .type "tuple_iterator", data := .fields #[.ref l, .int 0 0] }).objs.size = s.heap.objs.size + 1 := Heap.size_push ..
  show _ ∧ _
  rw [hz]
  have he : IsEnum ((s.heap.push { cls := .type "tuple_iterator", data := .fields #[.ref l, .int 0 0] }).push
      { cls := .type "enumerate", data := .fields #[.none, .bool false, .ref s.heap.objs.size, rawInt 0, .none, .none] }) (s.heap.objs.size + 1) s.heap.objs.size 0 .none := by
    have := Heap.get?_push_size (s.heap.push { cls := .type "tuple_iterator", data := .fields #[.ref l, .int 0 0] })
      (o := { cls := .type "enumerate", data := .fields #[.none, .bool false, .ref s.heap.objs.size, rawInt 0, .none, .none] }) rfl
    rw [hz] at this; exact this
  refine ⟨⟨_, he, rfl⟩, h _ he ⟨_, Heap.get?_push_of_some _ (Heap.get?_push_size _ rfl), rfl, rfl⟩ (by rw [Heap.size_push, hz]) fun b o x => Heap.get?_push_of_some _ (Heap.get?_push_of_some _ x)⟩
end
/-- the tuple at a as it stands, each item with its number in a new pair -/
def IteT (K : PySem.W.Frag) (a : Addr) : It :=
  ⟨fun i H => ∃ (xs : List V) (x : V), SqT K H a xs ∧ xs[i]? = some x, fun i H v H' => ∃ T x, v = .ref T ∧ H T = none ∧ H' = upd H T (.tup [.int (i : Nat), x]) ∧ ∀ xs, SqT K H a xs → xs[i]? = some x, fun i H => ∃ xs : List V, SqT K H a xs ∧ xs.length ≤ i⟩
theorem turn_enumT {P : Program} {w : World} {K : PySem.W.Frag} {elts : List Expr} {kk : Nat} {tpos : Pos} (a e it : Addr) :
    Turn P w K (.Tuple elts kk tpos) (IteT K a) [e, it] e (fun i h => (∃ old, IsEnum h e it ((i : Nat) : Int) old) ∧ h.IsTupleIter it a i ∧ e ≠ it) where
  mem := by simp
  obj := fun i h st b hb => by
    obtain ⟨⟨old, he⟩, ⟨o, ho, hc, hd⟩, _⟩ := st
    have e' : b = e ∨ b = it := by simpa using hb
    rcases e' with z | z
    · rw [z]; exact ⟨_, he, fun v q => nomatch q⟩
    · rw [z]; exact ⟨o, ho, fun v q => by rw [hd] at q; cases q⟩
  keep := fun i h h' st k => let ⟨⟨old, he⟩, hi, hne⟩ := st; ⟨⟨old, k e (by simp) _ he⟩, hi.at fun o q => k it (by simp) o q, hne⟩
  item := by
    intro X hP hw hK hc i pins s σ H E I hf st hg
    subst hP hw hK
    obtain ⟨⟨old, he⟩, hit, hne⟩ := st
    obtain ⟨xs, x, hq, hx⟩ := hg
    obtain ⟨its, rv, p, hz⟩ := I.tuple hq
    obtain ⟨u, hu, ru⟩ := rv.get hx
    have hel : e < s.heap.objs.size := Heap.lt_size he
    have hil : it < s.heap.objs.size := by obtain ⟨_, q, _⟩ := hit; exact Heap.lt_size q
    have pt : s.heap.IsTuple a its.toArray := p
    have hai : a ≠ it := by
      obtain ⟨o1, q1, c1, d1⟩ := hit
      obtain ⟨o2, q2, c2, n2, d2⟩ := pt
      intro z
      rw [z, q1] at q2
      cases q2
      rw [d1] at d2
      cases d2
    have hae : e ≠ a := by
      obtain ⟨o2, q2, c2, n2, d2⟩ := pt
      intro z
      have he' : s.heap.get? e = some _ := he
      rw [z, q2] at he'
      cases he'
      cases d2
    have hil2 : i < its.toArray.size := by
      rw [List.size_toArray]
      exact (List.getElem?_eq_some_iff.mp hu).1
    refine wpAny_pyNext_enum_itemD (Draws.tuple (A := X.A.in1) (show X.A.in1.handled = none from I.ok.hd hc) it a hai its.toArray) he ⟨hit, pt⟩ hil2 hne (by simp [hne, hae]) fun u' h' tk hP' ho hst hT hsz hk => ?_
    have eu : u' = u := by
      have : its.toArray[i]? = some u := by simpa using hu
      rw [this] at hP'
      exact (Option.some.inj hP').symm
    subst eu
    refine ⟨_, rfl, wpAny_letOwnedTupleGo_enum (s := { s with heap := h', toks := tk + 1 }) ho fun h'' he' sb => ?_⟩
    have hT2 : h''.get? s.heap.objs.size = some { cls := .type "tuple", data := .seq #[.int i tk, u'] } := (sb.2 _ (Nat.ne_of_gt hel)).trans hT
    have new : ObjOk X.prog X.w (upd H s.heap.objs.size (.tup [.int (i : Nat), x])) h'' s.heap.objs.size (.tup [.int (i : Nat), x]) :=
      ⟨by show 2 ≤ sizeLine; decide, [.int i tk, u'], .cons ⟨_, rfl⟩ (.cons ru .nil), ⟨_, hT2, rfl, _, rfl⟩⟩
    have I1 : Inv X pins σ (upd H s.heap.objs.size (.tup [.int (i : Nat), x])) { s with heap := h'', toks := tk + 1 } :=
      I.turnedNew (ch := [e, it]) (fun b ob hb q => (sb.2 b (fun z => hb (by simp [z]))).trans (hk b ob (fun z => hb (by simp [z])) (fun z => hb (by simp [z])) q)) hf (Nat.le_refl _) new
    refine ⟨.ref s.heap.objs.size, _, I1, rfl, ⟨_, x, rfl, I.hok.fresh (Nat.le_refl _), rfl, fun ys hy => by rw [I.tuple_inj hy hq]; exact hx⟩, ⟨⟨u', ?_⟩, hst.1.at fun o q => (sb.2 it (Ne.symm hne)).trans q, hne⟩, fun b hb => ?_⟩
    · have e1 : ((i + 1 : Nat) : Int) = (i : Int) + 1 := by omega
      rw [e1]; exact he'
    · have hb' : b < s.heap.objs.size := by
        have e' : b = e ∨ b = it := by simpa using hb
        rcases e' with z | z
        · rw [z]; exact hel
        · rw [z]; exact hil
      rw [upd_ne (Nat.ne_of_lt hb')]
      exact (hf b hb).1
  done := by
    intro X hP hw hK hc i pins s σ H E I hf st hg
    subst hP hw hK
    obtain ⟨⟨old, he⟩, hit, hne⟩ := st
    obtain ⟨xs, hq, hx⟩ := hg
    obtain ⟨its, rv, p, hz⟩ := I.tuple hq
    obtain ⟨f0, f1, f2, f3, f4, f5⟩ := hf it (by simp)
    have hl := rv.length
    have pt : s.heap.IsTuple a its.toArray := p
    have hT : s.TypeIs (.ref e) "enumerate" := ⟨_, he, rfl⟩
    unfold pyNext
    refine wpAny_bind (wpAny_attempt (wpAny_callSpecial?_slot (name := Str.ofString "__next__") hT F.slot_enumerate_next
      (wpAny_call_entry F.slot_enumerate_next hT F.entry_enumerate_next ?_ (F.args_enumerate_next_1 _))))
    show wpAny _ _ (field (.ref e) 2 >>= _) _ _ _
    refine wpAny_bind (wpAny_field he rfl (x := .ref it) rfl ?_)
    refine wpAny_bind (wpAny_nextOf_tuple_end (I.ok.hd hc) hit pt (by simp; omega) fun h' x he' hx' => ?_)
    obtain ⟨o, ho, hcc⟩ := hx'
    refine wpAny_bind (wpAny_isInstance (T := "StopIteration") (b := true) ⟨o, ho, hcc⟩ isSubtype_stop ?_)
    exact wpAny_pure ⟨rfl, I.turned (t' := s.toks) (fun b o hb q => he' b o hb q) f0 f1 f3 f4 f5⟩
  self := fun A i s Q E st h => let ⟨⟨_, he⟩, _⟩ := st; wpAny_pyIter_enum he h
def iEnumT (K : PySem.W.Frag) (ta : TA) : TI := fun σ H R => ta σ H fun vs H1 => ∃ a xs, vs = [.ref a] ∧ SqT K H1 a xs ∧ R (IteT K a) H1
theorem pi_enumT {X : Cx} {e : Expr} {ta : TA} {p pos tpos : Pos} {elts : List Expr} {kk : Nat} (hg : Gl X "enumerate") (hm : X.mg "enumerate" = none) (ha : PA X [e] ta) (hs : starEach [e] X.env = [(false, eval e X.env)]) :
    PI X (.Tuple elts kk tpos) (.Call (.Name "enumerate" p) [e] [] pos) (iEnumT X.K ta) := by
  refine ⟨fun pins s σ H R I h => ?_⟩
  refine Call_ (ld_blt I hg hm boot_enumerate (PyProof.Rows.callWith_type1 (thn (ha.run pos pins s σ H _ I h) fun us s1 ⟨vs, H1, I1, r1, q1⟩ => ?_) hs rfl))
  obtain ⟨a, xs, ex, hq, q⟩ := q1
  subst ex
  cases r1 with
  | cons r rr =>
    cases rr
    cases r
    obtain ⟨its, rv, p', hz⟩ := I1.tuple hq
    have pt : s1.heap.IsTuple a its.toArray := p'
    refine call_enumerate_tup pt fun h' he hit hsz hk => wpAny_pyIter_enum he ?_
    have I2 : Inv X pins σ H1 { s1 with heap := h' } := I1.kept (t' := s1.toks) hk
    refine ⟨s1.heap.objs.size + 1, [s1.heap.objs.size + 1, s1.heap.objs.size], _, _, H1, rfl, I2, turn_enumT a (s1.heap.objs.size + 1) s1.heap.objs.size, ⟨⟨.none, he⟩, hit, Nat.succ_ne_self _⟩, fun b hb => ?_, q⟩
    have e' : b = s1.heap.objs.size + 1 ∨ b = s1.heap.objs.size := by simpa using hb
    have hle : s1.heap.objs.size ≤ b := by
      rcases e' with z | z
      · rw [z]; exact Nat.le_add_right _ _
      · rw [z]; exact Nat.le_refl _
    exact I1.fpOk hle (I1.hok.fresh hle)
end TL

namespace TL
open PySem L2

/-- the written part, and the world -/
structure KW where
  K : PySem.W.Frag
  w : World
instance : Coe KW PySem.W.Frag := ⟨KW.K⟩
@[reducible] def _root_.L2.Cx.kw (X : L2.Cx) : KW := ⟨X.K, X.w⟩

/-- whose thing stands at an address: a name's (depth, slot), a cell's of the store; the path to it -/
inductive Root where
  | slot (dp i : Nat) | cell (l : Nat)
  deriving DecidableEq
structure Wd where
  mu : List Addr
  wr : Addr → Option (Root × List Str)
section
variable (K : KW) (ω : Wd) (H : Hp)
mutual
def Rep : D → V → Prop
  | .non, v => v = .non
  | .bl b, v => v = .bl b
  | .int i, v => v = .int i
  | .str x, v => v = .str x ∧ x.length ≤ sizeLine
  | .tup ds, v => ds.length ≤ sizeLine ∧ ∃ a vs, v = .ref a ∧ SqT K H a vs ∧ Reps ds vs
  | .lst ds, v => ds.length ≤ sizeLine ∧ ∃ a vs, v = .ref a ∧ H a = some (.lst vs) ∧ ω.wr a = none ∧ Reps ds vs
  | .fls ds, v => ds.length ≤ sizeLine ∧ ∃ a vs, v = .ref a ∧ ((H a = some (.lst vs) ∧ ω.wr a = none) ∨ (∃ o, H a = some (.frz o (.lst vs))) ∨ ∃ (o : Obj) (its : Array Value) (n : Nat), K.K.lookup a = some o ∧ o.cls = .type "list" ∧ o.dict = none ∧ o.data = .seq its n ∧ its.size ≤ sizeLine ∧ Vals vs its.toList) ∧ Reps ds vs
  | .dic kvs, v => kvs.length ≤ sizeLine ∧ ∃ a kws, v = .ref a ∧ H a = some (.dK kws) ∧ ω.wr a = none ∧ Repk kvs kws
  | .ref l, v => ∃ a, ω.mu[l]? = some a ∧ v = .ref a
  | _, _ => False
def Reps : List D → List V → Prop
  | [], vs => vs = []
  | d :: ds, vs => ∃ v r, vs = v :: r ∧ Rep d v ∧ Reps ds r
def Repk : List (Str × D) → List (Key × V) → Prop
  | [], vs => vs = []
  | (k, d) :: ds, vs => ∃ v r, vs = (.inr k, v) :: r ∧ Rep d v ∧ Repk ds r
end
end
section
variable {K : KW} {ω ω' ω'' : Wd} {H H' H'' : Hp}
/-- all that a value leans on is kept -/
structure Kept (ω : Wd) (H : Hp) (ω' : Wd) (H' : Hp) : Prop where
  mu : ω.mu <+: ω'.mu
  tup : ∀ a xs, H a = some (.tup xs) → H' a = some (.tup xs)
  frz : ∀ a o u, H a = some (.frz o u) → H' a = some (.frz o u)
  lst : ∀ a xs, H a = some (.lst xs) → ω.wr a = none → H' a = some (.lst xs) ∧ ω'.wr a = none
  dic : ∀ a xs, H a = some (.dK xs) → ω.wr a = none → H' a = some (.dK xs) ∧ ω'.wr a = none
theorem Kept.sqT (k : Kept ω H ω' H') {a : Addr} {vs : List V} (h : SqT K H a vs) : SqT K H' a vs := by
  rcases h with (h | ⟨o, h⟩) | h
  · exact .inl (.inl (k.tup _ _ h))
  · exact .inl (.inr ⟨o, k.frz _ _ _ h⟩)
  · exact .inr h
mutual
theorem Rep.kept (k : Kept ω H ω' H') : ∀ (d : D) (v : V), Rep K ω H d v → Rep K ω' H' d v
  | .non, v, h => h
  | .bl b, v, h => h
  | .int i, v, h => h
  | .str x, v, h => h
  | .tup ds, v, h => by
    obtain ⟨l, a, vs, e, q, r⟩ := h
    exact ⟨l, a, vs, e, k.sqT q, Reps.kept k ds vs r⟩
  | .lst ds, v, h => by
    obtain ⟨l, a, vs, e, q, w, r⟩ := h
    obtain ⟨q', w'⟩ := k.lst _ _ q w
    exact ⟨l, a, vs, e, q', w', Reps.kept k ds vs r⟩
  | .fls ds, v, h => by
    obtain ⟨l, a, vs, e, q, r⟩ := h
    refine ⟨l, a, vs, e, ?_, Reps.kept k ds vs r⟩
    rcases q with ⟨q, w⟩ | ⟨o, q⟩ | q
    · exact .inl (k.lst _ _ q w)
    · exact .inr (.inl ⟨o, k.frz _ _ _ q⟩)
    · exact .inr (.inr q)
  | .dic kvs, v, h => by
    obtain ⟨l, a, vs, e, q, w, r⟩ := h
    obtain ⟨q', w'⟩ := k.dic _ _ q w
    exact ⟨l, a, vs, e, q', w', Repk.kept k kvs vs r⟩
  | .ref l, v, h => by
    obtain ⟨a, e, q⟩ := h
    refine ⟨a, ?_, q⟩
    obtain ⟨t, ht⟩ := k.mu
    rw [← ht, List.getElem?_append_left (List.getElem?_eq_some_iff.mp e).1]
    exact e
  | .clo _ _, v, h => h.elim
  | .mlst _, v, h => h.elim
  | .mset _, v, h => h.elim
  | .mdic _, v, h => h.elim
  | .ins _ _, v, h => h.elim
theorem Reps.kept (k : Kept ω H ω' H') : ∀ (ds : List D) (vs : List V), Reps K ω H ds vs → Reps K ω' H' ds vs
  | [], vs, h => h
  | d :: ds, vs, h => by
    obtain ⟨v, r, e, h1, h2⟩ := h
    exact ⟨v, r, e, Rep.kept k d v h1, Reps.kept k ds r h2⟩
theorem Repk.kept (k : Kept ω H ω' H') : ∀ (ds : List (Str × D)) (vs : List (Key × V)), Repk K ω H ds vs → Repk K ω' H' ds vs
  | [], vs, h => h
  | (n, d) :: ds, vs, h => by
    obtain ⟨v, r, e, h1, h2⟩ := h
    exact ⟨v, r, e, Rep.kept k d v h1, Repk.kept k ds r h2⟩
end
theorem Kept.refl : Kept ω H ω H := ⟨List.prefix_refl _, fun _ _ h => h, fun _ _ _ h => h, fun _ _ h w => ⟨h, w⟩, fun _ _ h w => ⟨h, w⟩⟩
theorem Kept.trans (a : Kept ω H ω' H') (b : Kept ω' H' ω'' H'') : Kept ω H ω'' H'' :=
  ⟨a.mu.trans b.mu, fun c xs h => b.tup c xs (a.tup c xs h), fun c o u h => b.frz c o u (a.frz c o u h), fun c xs h w => let ⟨x, y⟩ := a.lst c xs h w; b.lst c xs x y, fun c xs h w => let ⟨x, y⟩ := a.dic c xs h w; b.dic c xs x y⟩
/-- new things only -/
theorem Kept.grow (g : Same H H') : Kept ω H ω H' := ⟨List.prefix_refl _, fun _ _ h => g _ _ h, fun _ _ _ h => g _ _ h, fun _ _ h w => ⟨g _ _ h, w⟩, fun _ _ h w => ⟨g _ _ h, w⟩⟩

theorem Reps.length : ∀ {ds : List D} {vs : List V}, Reps K ω H ds vs → vs.length = ds.length
  | [], vs, h => by rw [show vs = [] from h]; rfl
  | d :: ds, vs, h => by
    obtain ⟨v, r, rfl, h1, h2⟩ := h
    rw [List.length_cons, List.length_cons, Reps.length h2]
theorem Reps.append : ∀ {ds es : List D} {vs ws : List V}, Reps K ω H ds vs → Reps K ω H es ws → Reps K ω H (ds ++ es) (vs ++ ws)
  | [], es, vs, ws, h, h' => by
    have e : vs = [] := h
    subst e
    exact h'
  | d :: ds, es, vs, ws, h, h' => by
    obtain ⟨v, r, rfl, h1, h2⟩ := h
    exact ⟨v, r ++ ws, rfl, h1, Reps.append h2 h'⟩
theorem Reps.get : ∀ {ds : List D} {vs : List V} {i : Nat} {d : D}, Reps K ω H ds vs → ds[i]? = some d → ∃ v, vs[i]? = some v ∧ Rep K ω H d v
  | [], vs, i, d, h, e => by simp at e
  | d' :: ds, vs, 0, d, h, e => by
    obtain ⟨v, r, rfl, h1, h2⟩ := h
    simp at e
    subst e
    exact ⟨v, rfl, h1⟩
  | d' :: ds, vs, i + 1, d, h, e => by
    obtain ⟨v, r, rfl, h1, h2⟩ := h
    simp at e
    obtain ⟨v', e', h'⟩ := Reps.get h2 e
    exact ⟨v', by simpa using e', h'⟩
theorem Reps.get' : ∀ {ds : List D} {vs : List V} {i : Nat} {v : V}, Reps K ω H ds vs → vs[i]? = some v → ∃ d, ds[i]? = some d ∧ Rep K ω H d v
  | [], vs, i, v, h, e => by
    rw [show vs = [] from h] at e
    simp at e
  | d' :: ds, vs, 0, v, h, e => by
    obtain ⟨v', r, rfl, h1, h2⟩ := h
    simp at e
    subst e
    exact ⟨d', rfl, h1⟩
  | d' :: ds, vs, i + 1, v, h, e => by
    obtain ⟨v', r, rfl, h1, h2⟩ := h
    simp at e
    obtain ⟨d, e', h'⟩ := Reps.get' h2 e
    exact ⟨d, by simpa using e', h'⟩
theorem Reps.take : ∀ {ds : List D} {vs : List V} (n : Nat), Reps K ω H ds vs → Reps K ω H (ds.take n) (vs.take n)
  | [], vs, n, h => by rw [show vs = [] from h]; simp [Reps]
  | d :: ds, vs, 0, h => by simp [Reps]
  | d :: ds, vs, n + 1, h => by
    obtain ⟨v, r, rfl, h1, h2⟩ := h
    exact ⟨v, r.take n, rfl, h1, Reps.take n h2⟩
theorem Reps.drop : ∀ {ds : List D} {vs : List V} (n : Nat), Reps K ω H ds vs → Reps K ω H (ds.drop n) (vs.drop n)
  | [], vs, n, h => by rw [show vs = [] from h]; simp [Reps]
  | d :: ds, vs, 0, h => h
  | d :: ds, vs, n + 1, h => by
    obtain ⟨v, r, rfl, h1, h2⟩ := h
    exact Reps.drop n h2
theorem Reps.reverse {ds : List D} {vs : List V} (h : Reps K ω H ds vs) : Reps K ω H ds.reverse vs.reverse := by
  induction ds generalizing vs with
  | nil => rw [show vs = [] from h]; rfl
  | cons d ds ih =>
    obtain ⟨v, r, rfl, h1, h2⟩ := h
    rw [List.reverse_cons, List.reverse_cons]
    exact (ih h2).append ⟨v, [], rfl, h1, rfl⟩
theorem Reps.rep {ds : List D} {vs : List V} (h : Reps K ω H ds vs) : ∀ k : Nat, Reps K ω H (List.replicate k ds).flatten (List.replicate k vs).flatten
  | 0 => rfl
  | k + 1 => by
    rw [List.replicate_succ, List.replicate_succ, List.flatten_cons, List.flatten_cons]
    exact h.append (h.rep k)
theorem Reps.one {d : D} {vs : List V} (h : Reps K ω H [d] vs) : ∃ v, vs = [v] ∧ Rep K ω H d v := by
  obtain ⟨v, r, rfl, h1, h2⟩ := h
  exact ⟨v, by rw [show r = [] from h2], h1⟩
theorem Reps.two {d e : D} {vs : List V} (h : Reps K ω H [d, e] vs) : ∃ v w, vs = [v, w] ∧ Rep K ω H d v ∧ Rep K ω H e w := by
  obtain ⟨v, r, rfl, h1, h2⟩ := h
  obtain ⟨w, rfl, h3⟩ := h2.one
  exact ⟨v, w, rfl, h1, h3⟩
theorem Reps.nil {vs : List V} (h : Reps K ω H [] vs) : vs = [] := h


mutual
theorem Rep.dp : ∀ (d : D) (v : V), d.shp = true ∨ SeqAt.shaped d.py = true ∨ PyData.canLay0 d.py = true → Rep K ω H d v → Dp K H v d.py
  | .non, v, _, h => by rw [show v = .non from h]; exact .non
  | .bl b, v, _, h => by rw [show v = .bl b from h]; exact .bl b
  | .int i, v, _, h => by rw [show v = .int i from h]; exact .int i
  | .str x, v, _, h => by rw [show v = .str x from h.1]; exact .str x
  | .tup ds, v, s, h => by
    obtain ⟨l, a, vs, rfl, q, r⟩ := h
    refine .tup q (Reps.dp ds vs ?_ r)
    have q : PyData.canLay0 (D.tup ds).py = true := s.elim (fun z => SeqAt.canLay_of_shaped z) fun z => z.elim (fun z => SeqAt.canLay_of_shaped z) fun z => z
    simpa [D.py, PyData.canLay0] using q
  | .lst ds, v, s, h => by
    obtain ⟨l, a, vs, rfl, q, _, r⟩ := h
    refine .lst (SqL.of q) (Reps.dp ds vs ?_ r)
    have q : PyData.canLay0 (D.lst ds).py = true := s.elim (fun z => SeqAt.canLay_of_shaped z) fun z => z.elim (fun z => SeqAt.canLay_of_shaped z) fun z => z
    simpa [D.py, PyData.canLay0] using q
  | .fls ds, v, s, h => by
    obtain ⟨l, a, vs, rfl, q, r⟩ := h
    refine .lst ?_ (Reps.dp ds vs ?_ r)
    · rcases q with ⟨q, _⟩ | ⟨o, q⟩ | q
      · exact .inl (.inl q)
      · exact .inl (.inr ⟨o, q⟩)
      · exact .inr q
    have q : PyData.canLay0 (D.fls ds).py = true := s.elim (fun z => SeqAt.canLay_of_shaped z) fun z => z.elim (fun z => SeqAt.canLay_of_shaped z) fun z => z
    simpa [D.py, PyData.canLay0] using q
  | .dic _, v, s, h => by
    have q : PyData.canLay0 (.dict []) = true := s.elim (fun z => SeqAt.canLay_of_shaped z) fun z => z.elim (fun z => SeqAt.canLay_of_shaped z) fun z => z
    simp [PyData.canLay0] at q
  | .ref _, v, s, h => by
    have q : PyData.canLay0 (.dict []) = true := s.elim (fun z => SeqAt.canLay_of_shaped z) fun z => z.elim (fun z => SeqAt.canLay_of_shaped z) fun z => z
    simp [PyData.canLay0] at q
  | .clo _ _, v, s, h => h.elim
  | .mlst _, v, s, h => h.elim
  | .mset _, v, s, h => h.elim
  | .mdic _, v, s, h => h.elim
  | .ins _ _, v, s, h => h.elim
theorem Reps.dp : ∀ (ds : List D) (vs : List V), PyData.canLayAll0 (pys ds) = true → Reps K ω H ds vs → DpAll K H vs (pys ds)
  | [], vs, _, h => by rw [show vs = [] from h]; exact .nil
  | d :: ds, vs, s, h => by
    obtain ⟨v, r, rfl, h1, h2⟩ := h
    have q : PyData.canLay0 d.py = true ∧ PyData.canLayAll0 (pys ds) = true := by simpa [pys, PyData.canLayAll0] using s
    exact .cons (Rep.dp d v (.inr (.inr q.1)) h1) (Reps.dp ds r q.2 h2)
end

mutual
def nk : D → NestedKey
  | .int i => .num i
  | .str x => .text x
  | .tup ds => .tup (nks ds)
  | _ => .none
def nks : List D → List NestedKey
  | [] => []
  | d :: ds => nk d :: nks ds
end
/-- a dict whose keys are the tuples xs (each with its place), all with the value True -/
def msetO (w : World) (a : Addr) (xs : List (NestedKey × Addr)) : HO := .ext fun h => (a == sysModules) = false ∧ ∃ o es ep, h.get? a = some o ∧ o.ExactDict ∧ o.data = .dict es ep ∧
  es.toList = xs.map (fun x => (⟨x.1.hash w, .ref x.2, .bool true⟩ : DictEntry)) ∧ (xs.map (·.1)).Nodup
def KeysR (K : KW) (ω : Wd) (H : Hp) : List D → List (NestedKey × Addr) → Prop
  | [], xs => xs = []
  | d :: ds, xs => ∃ b r, xs = (nk d, b) :: r ∧ isKey d = true ∧ Rep K ω H d (.ref b) ∧ KeysR K ω H ds r
theorem KeysR.kept (k : Kept ω H ω' H') : ∀ {ds : List D} {xs : List (NestedKey × Addr)}, KeysR K ω H ds xs → KeysR K ω' H' ds xs
  | [], xs, h => h
  | d :: ds, xs, h => by
    obtain ⟨b, r, e, i, h1, h2⟩ := h
    exact ⟨b, r, e, i, Rep.kept k d _ h1, KeysR.kept k h2⟩

/-- a name's value: handed on, or owned -/
def OwnR (K : KW) (ω : Wd) (H : Hp) (t : Root) : D → V → Prop
  | .mlst ds, v => ∃ a vs, v = .ref a ∧ H a = some (.lst vs) ∧ ω.wr a = some (t, []) ∧ Reps K ω H ds vs
  | .mset ks, v => ∃ a xs, v = .ref a ∧ H a = some (msetO K.w a xs) ∧ ω.wr a = some (t, []) ∧ KeysR K ω H ks xs
  | d, v => Rep K ω H d v
theorem OwnR.of {t : Root} {d : D} {v : V} (h : Rep K ω H d v) : OwnR K ω H t d v := by
  cases d <;> first | exact h | exact h.elim
theorem OwnR.rep {t : Root} {d : D} {v : V} (o : d.own = false) (h : OwnR K ω H t d v) : Rep K ω H d v := by
  cases d <;> first | exact h | exact absurd o (by simp [D.own])

/-- from one state to another: values are kept, and all that belongs to fields of the cell l stays as it is -/
structure FKept (l : Nat) (ω : Wd) (H : Hp) (ω' : Wd) (H' : Hp) : Prop where
  kept : Kept ω H ω' H'
  cell : ∀ a p, p ≠ [] → ω.wr a = some (.cell l, p) → ω'.wr a = ω.wr a ∧ H' a = H a
/-- .. and the cell itself -/
structure CKept (l : Nat) (ω : Wd) (H : Hp) (ω' : Wd) (H' : Hp) : Prop where
  kept : Kept ω H ω' H'
  cell : ∀ a p, ω.wr a = some (.cell l, p) → ω'.wr a = ω.wr a ∧ H' a = H a
theorem CKept.f {l : Nat} (k : CKept l ω H ω' H') : FKept l ω H ω' H' := ⟨k.kept, fun a p _ => k.cell a p⟩
/-- the entries of a dict that belongs to a field f: their own lists are theirs -/
def EntR (K : KW) (ω : Wd) (H : Hp) (l : Nat) (f : Str) : List (Str × D) → List (Key × V) → Prop
  | [], vs => vs = []
  | (k, d) :: ds, vs => ∃ v r, vs = (.inr k, v) :: r ∧ (match d with
    | .mlst es => ∃ a ws, v = .ref a ∧ H a = some (.lst ws) ∧ ω.wr a = some (.cell l, [f, k]) ∧ Reps K ω H es ws
    | d => Rep K ω H d v) ∧ EntR K ω H l f ds r
/-- a field's value: handed on, or its own -/
def FldR (K : KW) (ω : Wd) (H : Hp) (l : Nat) (f : Str) : D → V → Prop
  | .mlst ds, v => ∃ a vs, v = .ref a ∧ H a = some (.lst vs) ∧ ω.wr a = some (.cell l, [f]) ∧ Reps K ω H ds vs
  | .mdic kvs, v => ∃ a kws, v = .ref a ∧ H a = some (.dK kws) ∧ ω.wr a = some (.cell l, [f]) ∧ EntR K ω H l f kvs kws
  | d, v => Rep K ω H d v
def FldsR (K : KW) (ω : Wd) (H : Hp) (l : Nat) : List (Str × D) → List (Str × V) → Prop
  | [], vs => vs = []
  | (f, d) :: ds, vs => ∃ v r, vs = (f, v) :: r ∧ FldR K ω H l f d v ∧ FldsR K ω H l ds r
/-- a cell: an instance of the class named c -/
def CellR (K : KW) (ω : Wd) (H : Hp) (l : Nat) (d : D) : Prop := ∃ c fs a C dx vs, d = .ins c fs ∧ ω.mu[l]? = some a ∧ H a = some (.ins C dx vs) ∧ ω.wr a = some (.cell l, []) ∧ PySem.W.nsIn K.K mainGlobals c = some (some (.ref C)) ∧ (fs.map (·.1)).Nodup ∧ FldsR K ω H l fs vs
theorem EntR.kept {l : Nat} {f : Str} (k : FKept l ω H ω' H') : ∀ {ds : List (Str × D)} {vs : List (Key × V)}, EntR K ω H l f ds vs → EntR K ω' H' l f ds vs
  | [], vs, h => h
  | (n, d) :: ds, vs, h => by
    obtain ⟨v, r, e, h1, h2⟩ := h
    refine ⟨v, r, e, ?_, h2.kept k⟩
    cases d with
    | mlst es =>
      obtain ⟨a, ws, e1, q, w, rs⟩ := h1
      obtain ⟨e2, e3⟩ := k.cell a _ (by simp) w
      exact ⟨a, ws, e1, e3.trans q, e2.trans w, Reps.kept k.kept _ _ rs⟩
    | _ => exact Rep.kept k.kept _ _ h1
theorem FldR.kept {l : Nat} {f : Str} (k : FKept l ω H ω' H') {d : D} {v : V} (h : FldR K ω H l f d v) : FldR K ω' H' l f d v := by
  cases d with
  | mlst es =>
    obtain ⟨a, ws, e1, q, w, rs⟩ := h
    obtain ⟨e2, e3⟩ := k.cell a _ (by simp) w
    exact ⟨a, ws, e1, e3.trans q, e2.trans w, Reps.kept k.kept _ _ rs⟩
  | mdic kvs =>
    obtain ⟨a, ws, e1, q, w, rs⟩ := h
    obtain ⟨e2, e3⟩ := k.cell a _ (by simp) w
    exact ⟨a, ws, e1, e3.trans q, e2.trans w, rs.kept k⟩
  | _ => exact Rep.kept k.kept _ _ h
theorem FldsR.kept {l : Nat} (k : FKept l ω H ω' H') : ∀ {ds : List (Str × D)} {vs : List (Str × V)}, FldsR K ω H l ds vs → FldsR K ω' H' l ds vs
  | [], vs, h => h
  | (f, d) :: ds, vs, h => by
    obtain ⟨v, r, e, h1, h2⟩ := h
    exact ⟨v, r, e, h1.kept k, h2.kept k⟩
theorem CellR.kept {l : Nat} {d : D} (k : CKept l ω H ω' H') (h : CellR K ω H l d) : CellR K ω' H' l d := by
  obtain ⟨c, fs, a, C, dx, vs, rfl, h1, h2, h3, h4, h5, h6⟩ := h
  obtain ⟨e2, e3⟩ := k.cell a _ h3
  refine ⟨c, fs, a, C, dx, vs, rfl, ?_, e3.trans h2, e2.trans h3, h4, h5, h6.kept k.f⟩
  obtain ⟨t, ht⟩ := k.kept.mu
  rw [← ht, List.getElem?_append_left (List.getElem?_eq_some_iff.mp h1).1]
  exact h1
/-- the names' values -/
structure Loc (K : KW) (ω : Wd) (dp : Nat) (ρ : Env) (σ : L2.St) (H : Hp) : Prop where
  len : σ.length = ρ.length
  at_ : ∀ i d, ρ[i]? = some (some d) → ∃ v, σ[i]? = some (some v) ∧ OwnR K ω H (.slot dp i) d v
/-- the store's cells -/
structure StoOk (K : KW) (ω : Wd) (st : Sto) (H : Hp) : Prop where
  len : ω.mu.length = st.length
  trk : ∀ a, ω.wr a ≠ none → H a ≠ none
  at_ : ∀ (l : Nat) (d : D), st[l]? = some d → CellR K ω H l d
/-- from one state to another: values are kept; what belongs to names of frames below dp stays as it is -/
structure Ext (dp : Nat) (ω : Wd) (H : Hp) (ω' : Wd) (H' : Hp) : Prop where
  kept : Kept ω H ω' H'
  fix : ∀ a k i p, ω.wr a = some (.slot k i, p) → k < dp → ω'.wr a = ω.wr a ∧ H' a = H a
theorem Ext.refl {dp : Nat} : Ext dp ω H ω H := ⟨.refl, fun _ _ _ _ _ _ => ⟨rfl, rfl⟩⟩
theorem Ext.trans {dp : Nat} (a : Ext dp ω H ω' H') (b : Ext dp ω' H' ω'' H'') : Ext dp ω H ω'' H'' :=
  ⟨a.kept.trans b.kept, fun c k i p h hk => by
    obtain ⟨e1, e2⟩ := a.fix c k i p h hk
    obtain ⟨e3, e4⟩ := b.fix c k i p (e1.trans h) hk
    exact ⟨e3.trans e1, e4.trans e2⟩⟩
theorem Ext.mono {dp dp' : Nat} (a : Ext dp' ω H ω' H') (h : dp ≤ dp') : Ext dp ω H ω' H' := ⟨a.kept, fun c k i p e hk => a.fix c k i p e (Nat.lt_of_lt_of_le hk h)⟩
theorem Rep.ext {dp : Nat} (x : Ext dp ω H ω' H') {d : D} {v : V} (h : Rep K ω H d v) : Rep K ω' H' d v := Rep.kept x.kept d v h
theorem Reps.ext {dp : Nat} (x : Ext dp ω H ω' H') {d : List D} {v : List V} (h : Reps K ω H d v) : Reps K ω' H' d v := Reps.kept x.kept d v h
theorem OwnR.ext {dp k i : Nat} (x : Ext dp ω H ω' H') (hk : k < dp) {d : D} {v : V} (h : OwnR K ω H (.slot k i) d v) : OwnR K ω' H' (.slot k i) d v := by
  cases d with
  | mlst ds =>
    obtain ⟨a, vs, e, q, w, r⟩ := h
    obtain ⟨e1, e2⟩ := x.fix a k i [] w hk
    exact ⟨a, vs, e, e2.trans q, e1.trans w, r.ext x⟩
  | mset ks =>
    obtain ⟨a, xs, e, q, w, r⟩ := h
    obtain ⟨e1, e2⟩ := x.fix a k i [] w hk
    exact ⟨a, xs, e, e2.trans q, e1.trans w, r.kept x.kept⟩
  | _ => first | exact Rep.ext x h
theorem Loc.ext {dp : Nat} {ρ : Env} {σ : L2.St} (x : Ext (dp + 1) ω H ω' H') (h : Loc K ω dp ρ σ H) : Loc K ω' dp ρ σ H' :=
  ⟨h.len, fun i d e => let ⟨v, e', r⟩ := h.at_ i d e; ⟨v, e', r.ext x (Nat.lt_succ_self _)⟩⟩
/-- new things only -/
theorem Ext.grow {dp : Nat} (hw : ∀ a, ω.wr a ≠ none → H a ≠ none) (g : Same H H') : Ext dp ω H ω H' :=
  ⟨.grow g, fun a k i p e _ => ⟨rfl, by
    cases q : H a with
    | none => exact absurd q (hw a (by rw [e]; simp))
    | some o => rw [g _ _ q]⟩⟩
end
end TL

namespace TL
open PySem L2
section
variable {K : KW} {ω ω' ω'' : Wd} {H H' H'' : Hp}
theorem StoOk.grow {st : Sto} (h : StoOk K ω st H) (g : Same H H') : StoOk K ω st H' :=
  ⟨h.len, fun a n => by
    cases q : H a with
    | none => exact absurd q (h.trk a n)
    | some o => rw [g _ _ q]; simp, fun l d e => (h.at_ l d e).kept ⟨.grow g, fun a p e => ⟨rfl, by
    cases q : H a with
    | none => exact absurd q (h.trk a (by rw [e]; simp))
    | some o => rw [g _ _ q]⟩⟩⟩
theorem Ext.ofGrow {dp : Nat} {st : Sto} (h : StoOk K ω st H) (g : Same H H') : Ext dp ω H ω H' := Ext.grow h.trk g
theorem Rep.grow (g : Same H H') {d : D} {v : V} (h : Rep K ω H d v) : Rep K ω H' d v := Rep.kept (.grow g) d v h
theorem Reps.grow (g : Same H H') {d : List D} {v : List V} (h : Reps K ω H d v) : Reps K ω H' d v := Reps.kept (.grow g) d v h
theorem same_new {p : Addr} (h : H p = none) (o : HO) : Same H (upd H p o) := fun b u q => by rw [upd_ne (ne_of_none q h)]; exact q
theorem same_refl : Same H H := fun _ _ q => q

/-- what stands behind a piece of code that gives r -/
def Post (K : KW) (dp : Nat) (W : WX) (cls : Nat → Value) (σ : L2.St) (ω : Wd) (H : Hp) {α : Type} (r : R α) (P : α → Sto → Wd → Hp → Prop) : Prop := match r with
  | .ok a st' => ∀ ω' H', Ext (dp + 1) ω H ω' H' → StoOk K ω' st' H' → P a st' ω' H'
  | .exc c st' => ∀ ω' H', Ext (dp + 1) ω H ω' H' → StoOk K ω' st' H' → W (cls c) none σ H'
  | .fail => False
variable {dp : Nat} {W : WX} {cls : Nat → Value} {σ : L2.St}
theorem Post.bind {α β : Type} {r : R α} {f : α → Sto → R β} {P : β → Sto → Wd → Hp → Prop} (h : Post K dp W cls σ ω H (r.bind f) P) :
    Post K dp W cls σ ω H r fun a st1 ω1 H1 => Post K dp W cls σ ω1 H1 (f a st1) P := by
  cases r with
  | ok a st1 =>
    intro ω1 H1 x1 s1
    have h : Post K dp W cls σ ω H (f a st1) P := h
    show Post K dp W cls σ ω1 H1 (f a st1) P
    cases q : f a st1 with
    | ok b st2 => rw [q] at h; exact fun ω2 H2 x2 s2 => h ω2 H2 (x1.trans x2) s2
    | exc c st2 => rw [q] at h; exact fun ω2 H2 x2 s2 => h ω2 H2 (x1.trans x2) s2
    | fail => rw [q] at h; exact h
  | exc c st1 => exact h
  | fail => exact h
theorem Post.mono {α : Type} {r : R α} {P P' : α → Sto → Wd → Hp → Prop} (h : Post K dp W cls σ ω H r P) (i : ∀ a st' ω' H', Ext (dp + 1) ω H ω' H' → StoOk K ω' st' H' → P a st' ω' H' → P' a st' ω' H') : Post K dp W cls σ ω H r P' := by
  cases r with
  | ok a st1 => exact fun ω' H' x s => i _ _ _ _ x s (h ω' H' x s)
  | exc c st1 => exact h
  | fail => exact h
theorem Post.lift {α : Type} {st : Sto} {o : Option α} {P : α → Sto → Wd → Hp → Prop} (h : Post K dp W cls σ ω H (R.lift st o) P) : ∃ d, o = some d ∧ ∀ ω' H', Ext (dp + 1) ω H ω' H' → StoOk K ω' st H' → P d st ω' H' := by
  cases o with
  | some d => exact ⟨d, rfl, h⟩
  | none => exact h.elim
/-- an expression's reading -/
def tE (K : KW) (C : Cal) (dp : Nat) (W : WX) (cls : Nat → Value) (m : E) : TE := fun σ H Q => ∃ ω ρ st, Loc K ω dp ρ σ H ∧ StoOk K ω st H ∧
  Post K dp W cls σ ω H (ev C m ρ st) fun d _ ω' H' => ∀ v, Rep K ω' H' d v → Q v H'
/-- a test's -/
def tT (K : KW) (C : Cal) (dp : Nat) (W : WX) (cls : Nat → Value) (m : E) : TT := fun σ H Q => ∃ ω ρ st, Loc K ω dp ρ σ H ∧ StoOk K ω st H ∧
  Post K dp W cls σ ω H (ev C m ρ st) fun d _ ω' H' => ∃ b, d = .bl b ∧ Q b H'
/-- several -/
def tEs (K : KW) (C : Cal) (dp : Nat) (W : WX) (cls : Nat → Value) (ms : List E) : TA := fun σ H Q => ∃ ω ρ st, Loc K ω dp ρ σ H ∧ StoOk K ω st H ∧
  Post K dp W cls σ ω H (evs C ms ρ st) fun ds _ ω' H' => ∀ vs, Reps K ω' H' ds vs → Q vs H'
end
section
variable {X : Cx} {e : Expr} {es : List Expr} {t t' : TE} {u u' : TT} {ta ta' : TA}
theorem pe_imp (h : PE X e t) (i : ∀ σ H Q, t' σ H Q → t σ H Q) : PE X e t' := ⟨fun pins s σ H Q I q => h.run pins s σ H Q I (i σ H Q q)⟩
theorem pt_imp (h : PT X e u) (i : ∀ σ H Q, u' σ H Q → u σ H Q) : PT X e u' := ⟨fun pins s σ H Q I q => h.run pins s σ H Q I (i σ H Q q)⟩
theorem pa_imp (h : PA X es ta) (i : ∀ σ H Q, ta' σ H Q → ta σ H Q) : PA X es ta' := ⟨fun pos pins s σ H Q I q => h.run pos pins s σ H Q I (i σ H Q q)⟩
end

/-- an operation on values by what it gives -/
def rB (K : KW) (g : D → D → Option D) : R2 := fun x y H Q => ∃ (ω : Wd) (a b d : D), (∀ a, ω.wr a ≠ none → H a ≠ none) ∧ Rep K ω H a x ∧ Rep K ω H b y ∧ g a b = some d ∧ ∀ H' v, Same H H' → Rep K ω H' d v → Q v H'
theorem fresh_wr {ω : Wd} {H : Hp} (tr : ∀ a, ω.wr a ≠ none → H a ≠ none) {p : Addr} (hp : H p = none) : ω.wr p = none := by
  cases q : ω.wr p with
  | none => rfl
  | some z => exact absurd hp (tr p (by rw [q]; simp))
section
variable {X : Cx} {K : KW} {f : Value → Value → Sem Value} {r : R2} {g : D → D → Option D}
theorem opr_imp {r r' : R2} (h : OpR X f r) (i : ∀ x y H Q, r' x y H Q → r x y H Q) : OpR X f r' := fun pins s σ H x y v u Q I rx ry q => h pins s σ H x y v u Q I rx ry (i x y H Q q)
theorem rep_new_lst {ω : Wd} {H : Hp} (tr : ∀ a, ω.wr a ≠ none → H a ≠ none) {ds : List D} {vs : List V} {p : Addr} (hp : H p = none) (r : Reps K ω H ds vs) (l : ds.length ≤ sizeLine) : Rep K ω (upd H p (.lst vs)) (.lst ds) (.ref p) :=
  ⟨l, p, vs, rfl, upd_same, fresh_wr tr hp, r.grow (same_new hp _)⟩
theorem rep_new_tup {ω : Wd} {H : Hp} {ds : List D} {vs : List V} {p : Addr} (hp : H p = none) (r : Reps K ω H ds vs) (l : ds.length ≤ sizeLine) : Rep K ω (upd H p (.tup vs)) (.tup ds) (.ref p) :=
  ⟨l, p, vs, rfl, SqT.of upd_same, r.grow (same_new hp _)⟩
theorem op_dAdd : OpR X (binaryOp .Add) (rB X.kw dAdd) := by
  refine opr_imp (op_add.or (op_add_str.or (op_catA.or op_cat))) ?_
  rintro x y H Q ⟨ω, a, b, d, tr, ra, rb, e, q⟩
  unfold dAdd at e
  split at e
  · cases e
    cases ra; cases rb
    exact .inl ⟨_, _, rfl, rfl, q H _ same_refl rfl⟩
  · split at e
    · rename_i hl
      cases e
      obtain ⟨rfl, _⟩ := ra
      obtain ⟨rfl, _⟩ := rb
      refine .inr (.inl ⟨_, _, rfl, rfl, hl, q H _ same_refl ⟨rfl, ?_⟩⟩)
      show (Str.append _ _).cps.size ≤ _
      unfold Str.append
      rw [Array.size_append]
      exact hl
    · cases e
  · split at e
    · rename_i hl
      cases e
      obtain ⟨_, a1, vs, rfl, s1, r1⟩ := ra
      obtain ⟨_, a2, ws, rfl, s2, r2⟩ := rb
      have l1 := r1.length
      have l2 := r2.length
      refine .inr (.inr (.inl ⟨a1, a2, vs, ws, rfl, rfl, s1, s2, by rw [l1, l2]; exact hl, fun e => ?_, fun n e => ?_, fun n1 n2 p hp => ?_⟩))
      · subst e
        have r0 := r1.append r2
        rw [List.nil_append] at r0
        exact q H _ same_refl ⟨by rw [List.length_append]; exact hl, a2, ws, rfl, s2, r0⟩
      · subst e
        have r0 := r1.append r2
        rw [List.append_nil] at r0
        exact q H _ same_refl ⟨by rw [List.length_append]; exact hl, a1, vs, rfl, s1, r0⟩
      · exact q _ _ (same_new hp _) (rep_new_tup hp (r1.append r2) (by rw [List.length_append]; exact hl))
    · cases e
  · split at e
    · rename_i hl
      cases e
      obtain ⟨_, a1, vs, rfl, s1, w1, r1⟩ := ra
      obtain ⟨_, a2, ws, rfl, s2, w2, r2⟩ := rb
      have l1 := r1.length
      have l2 := r2.length
      refine .inr (.inr (.inr ⟨a1, a2, vs, ws, rfl, rfl, s1, s2, by rw [l1, l2]; exact hl, fun p hp => ?_⟩))
      exact q _ _ (same_new hp _) (rep_new_lst tr hp (r1.append r2) (by rw [List.length_append]; exact hl))
    · cases e
  · cases e
theorem op_dSub : OpR X (binaryOp .Sub) (rB X.kw dSub) := by
  refine opr_imp op_sub ?_
  rintro x y H Q ⟨ω, a, b, d, tr, ra, rb, e, q⟩
  unfold dSub at e
  split at e
  · cases e
    cases ra; cases rb
    exact ⟨_, _, rfl, rfl, q H _ same_refl rfl⟩
  · cases e
theorem length_rep {α : Type} (k : Nat) (xs : List α) : (List.replicate k xs).flatten.length = xs.length * k := by
  induction k with
  | zero => simp
  | succ k ih => rw [List.replicate_succ, List.flatten_cons, List.length_append, ih, Nat.mul_succ, Nat.add_comm]
theorem op_dMul : OpR X (binaryOp .Mult) (rB X.kw dMul) := by
  refine opr_imp (op_mul.or (op_rep.or (op_repT.or op_oneT))) ?_
  rintro x y H Q ⟨ω, a, b, d, tr, ra, rb, e, q⟩
  unfold dMul at e
  split at e
  · split at e
    · rename_i hc
      cases e
      cases ra; cases rb
      exact .inl ⟨_, _, rfl, rfl, hc, q H _ same_refl rfl⟩
    · cases e
  · split at e
    · rename_i hc
      obtain ⟨h0, h1, h2⟩ := hc
      cases e
      obtain ⟨_, a1, vs, rfl, s1, w1, r1⟩ := ra
      cases rb
      have l1 := r1.length
      refine .inr (.inl ⟨a1, _, vs, rfl, rfl, s1, by omega, h1, by rw [l1]; exact h2, fun p hp => ?_⟩)
      exact q _ _ (same_new hp _) (rep_new_lst tr hp (r1.rep _) (by rw [length_rep]; exact h2))
    · cases e
  · split at e
    · rename_i hc
      cases hc
      cases e
      have ra' := ra
      obtain ⟨_, a1, vs, rfl, s1, r1⟩ := ra
      cases rb
      exact .inr (.inr (.inr ⟨a1, vs, rfl, rfl, s1, q H _ same_refl ra'⟩))
    split at e
    · rename_i hc
      obtain ⟨h0, h1, h2, h3⟩ := hc
      cases e
      obtain ⟨_, a1, vs, rfl, s1, r1⟩ := ra
      cases rb
      have l1 := r1.length
      refine .inr (.inr (.inl ⟨a1, _, vs, rfl, rfl, s1, fun e => h0 ?_, h1, h2, by rw [l1]; exact h3, fun p hp => ?_⟩))
      · rw [e] at l1
        exact List.eq_nil_of_length_eq_zero l1.symm
      · refine q _ _ (same_new hp _) (rep_new_tup hp (r1.rep _) ?_)
        rw [length_rep, sizeLine_eq]
        rename_i ds k _ _
        have : ds.length * k.toNat ≤ 1000 * 1000 := Nat.mul_le_mul h3 (by omega)
        omega
    · cases e
  · cases e
theorem op_dDiv : OpR X (binaryOp .FloorDiv) (rB X.kw dDiv) := by
  refine opr_imp op_fdiv ?_
  rintro x y H Q ⟨ω, a, b, d, tr, ra, rb, e, q⟩
  unfold dDiv at e
  split at e
  · split at e
    · rename_i hc
      cases e
      cases ra; cases rb
      exact ⟨_, _, rfl, rfl, hc, q H _ same_refl rfl⟩
    · cases e
  · cases e
theorem op_dMod : OpR X (binaryOp .Mod) (rB X.kw dMod) := by
  refine opr_imp op_mod ?_
  rintro x y H Q ⟨ω, a, b, d, tr, ra, rb, e, q⟩
  unfold dMod at e
  split at e
  · split at e
    · rename_i hc
      cases e
      cases ra; cases rb
      exact ⟨_, _, rfl, rfl, hc, q H _ same_refl rfl⟩
    · cases e
  · cases e
theorem op_dEq (hu : X.A.units + 64 < cLine) : OpR X (compareOp .Eq) (rB X.kw dEq) := by
  refine opr_imp (op_eqD hu) ?_
  rintro x y H Q ⟨ω, a, b, d, tr, ra, rb, e, q⟩
  unfold dEq at e
  split at e
  · rename_i hc
    cases e
    rw [Bool.and_eq_true] at hc
    exact ⟨_, _, Rep.dp a x (.inl hc.1) ra, Rep.dp b y (.inl hc.2) rb, hc.1, hc.2, q H _ same_refl rfl⟩
  · cases e
theorem op_dNe (hu : X.A.units + 64 < cLine) : OpR X (compareOp .NotEq) (rB X.kw dNe) := by
  refine opr_imp (op_neD hu) ?_
  rintro x y H Q ⟨ω, a, b, d, tr, ra, rb, e, q⟩
  unfold dNe at e
  split at e
  · rename_i hc
    cases e
    rw [Bool.and_eq_true] at hc
    exact ⟨_, _, Rep.dp a x (.inl hc.1) ra, Rep.dp b y (.inl hc.2) rb, hc.1, hc.2, q H _ same_refl rfl⟩
  · cases e
theorem op_dLt : OpR X (compareOp .Lt) (rB X.kw dLt) := by
  refine opr_imp op_lt ?_
  rintro x y H Q ⟨ω, a, b, d, tr, ra, rb, e, q⟩
  unfold dLt at e
  split at e
  · cases e
    cases ra; cases rb
    exact ⟨_, _, rfl, rfl, q H _ same_refl rfl⟩
  · cases e
theorem op_dLe : OpR X (compareOp .LtE) (rB X.kw dLe) := by
  refine opr_imp (op_le.or op_le_str) ?_
  rintro x y H Q ⟨ω, a, b, d, tr, ra, rb, e, q⟩
  unfold dLe at e
  split at e
  · cases e
    cases ra; cases rb
    exact .inl ⟨_, _, rfl, rfl, q H _ same_refl rfl⟩
  · cases e
    obtain ⟨rfl, _⟩ := ra
    obtain ⟨rfl, _⟩ := rb
    exact .inr ⟨_, _, rfl, rfl, q H _ same_refl rfl⟩
  · cases e
theorem op_dGt : OpR X (compareOp .Gt) (rB X.kw dGt) := by
  refine opr_imp op_gt ?_
  rintro x y H Q ⟨ω, a, b, d, tr, ra, rb, e, q⟩
  unfold dGt at e
  split at e
  · cases e
    cases ra; cases rb
    exact ⟨_, _, rfl, rfl, q H _ same_refl rfl⟩
  · cases e
theorem op_dGe : OpR X (compareOp .GtE) (rB X.kw dGe) := by
  refine opr_imp op_ge ?_
  rintro x y H Q ⟨ω, a, b, d, tr, ra, rb, e, q⟩
  unfold dGe at e
  split at e
  · cases e
    cases ra; cases rb
    exact ⟨_, _, rfl, rfl, q H _ same_refl rfl⟩
  · cases e
/-- x in t, t a tuple of data -/
def rInT (K : KW) (neg : Bool) : R2 := fun x y H Q => ∃ d ds, Dp K H x d ∧ Dp K H y (.tuple ds) ∧ SeqAt.shaped d = true ∧ PyData.canLayAll0 ds = true ∧ Q (.bl (if neg then !(ds.any fun z => PyData.eqv z d) else ds.any fun z => PyData.eqv z d)) H
theorem op_inT (hu : X.A.units + 65 < cLine) : OpR X (compareOp .In) (rInT X.kw false) := by
  intro pins s σ H x y v u Q I rx ry h
  obtain ⟨d, ds, hd, he, sd, se, q⟩ := h
  obtain ⟨as, r1⟩ := Dp.reads I d x v hd rx
  obtain ⟨bs, r2⟩ := Dp.reads I (.tuple ds) y u he ry
  exact SeqAt.in_tuple_reads r2 r1 se (SeqAt.canLay_of_shaped sd) (PyProof.Rows.room_in_shaped sd hu) ⟨.bl _, H, I, rfl, q⟩
theorem op_notInT (hu : X.A.units + 65 < cLine) : OpR X (compareOp .NotIn) (rInT X.kw true) := by
  intro pins s σ H x y v u Q I rx ry h
  obtain ⟨d, ds, hd, he, sd, se, q⟩ := h
  obtain ⟨as, r1⟩ := Dp.reads I d x v hd rx
  obtain ⟨bs, r2⟩ := Dp.reads I (.tuple ds) y u he ry
  exact SeqAt.notIn_tuple_reads r2 r1 se (SeqAt.canLay_of_shaped sd) (PyProof.Rows.room_in_shaped sd hu) ⟨.bl _, H, I, rfl, q⟩
theorem any_pys (x : PyData) : ∀ ds : List D, (pys ds).any (fun z => PyData.eqv z x) = ds.any fun y => PyData.eqv y.py x
  | [] => rfl
  | d :: ds => by
    show (PyData.eqv d.py x || (pys ds).any _) = _
    rw [any_pys x ds]
    rfl
theorem canLayAll_of {ds : List D} (h : (D.lst ds).shp = true) : PyData.canLayAll0 (pys ds) = true := by
  have q := SeqAt.canLay_of_shaped h
  simpa [D.py, PyData.canLay0] using q
theorem canLayAll_ofT {ds : List D} (h : (D.tup ds).shp = true) : PyData.canLayAll0 (pys ds) = true := by
  have q := SeqAt.canLay_of_shaped h
  simpa [D.py, PyData.canLay0] using q
theorem one_sign {s : Str} {c : Nat} (h : s.cps.toList = [c]) : s = ⟨#[c]⟩ := by
  obtain ⟨a⟩ := s
  have : a = #[c] := by
    apply Array.ext'
    exact h
  rw [this]
theorem op_dIn (hu : X.A.units + 65 < cLine) : OpR X (compareOp .In) (rB X.kw dIn) := by
  refine opr_imp (op_in_sign.or ((op_inD hu).or (op_inT hu))) ?_
  rintro x y H Q ⟨ω, a, b, d, tr, ra, rb, e, q⟩
  unfold dIn at e
  cases e1 : inD a b with
  | none => rw [e1] at e; cases e
  | some k =>
    rw [e1] at e
    cases e
    unfold inD at e1
    split at e1
    · split at e1
      · split at e1
        · rename_i hs
          cases e1
          obtain ⟨rfl, _⟩ := ra
          obtain ⟨rfl, _⟩ := rb
          exact .inl ⟨_, _, by rw [one_sign hs], rfl, q H _ same_refl rfl⟩
        · cases e1
      · cases e1
    · split at e1
      · rename_i hc
        cases e1
        rw [Bool.and_eq_true] at hc
        refine .inr (.inl ⟨_, _, Rep.dp a x (.inl hc.1) ra, Rep.dp _ y (.inl hc.2) rb, hc.1, hc.2, ?_⟩)
        rw [any_pys]
        exact q H _ same_refl rfl
      · cases e1
    · split at e1
      · rename_i hc
        cases e1
        rw [Bool.and_eq_true] at hc
        refine .inr (.inr ⟨_, _, Rep.dp a x (.inl hc.1) ra, Rep.dp _ y (.inl hc.2) rb, hc.1, canLayAll_ofT hc.2, ?_⟩)
        show Q (.bl (List.any _ _)) H
        rw [any_pys]
        exact q H _ same_refl rfl
      · cases e1
    · exact rb.elim
    · exact rb.elim
    · cases e1
theorem op_dNotIn (hu : X.A.units + 65 < cLine) : OpR X (compareOp .NotIn) (rB X.kw dNotIn) := by
  refine opr_imp (op_notIn_sign.or ((op_notInD hu).or (op_notInT hu))) ?_
  rintro x y H Q ⟨ω, a, b, d, tr, ra, rb, e, q⟩
  unfold dNotIn at e
  cases e1 : inD a b with
  | none => rw [e1] at e; cases e
  | some k =>
    rw [e1] at e
    cases e
    unfold inD at e1
    split at e1
    · split at e1
      · split at e1
        · rename_i hs
          cases e1
          obtain ⟨rfl, _⟩ := ra
          obtain ⟨rfl, _⟩ := rb
          exact .inl ⟨_, _, by rw [one_sign hs], rfl, q H _ same_refl rfl⟩
        · cases e1
      · cases e1
    · split at e1
      · rename_i hc
        cases e1
        rw [Bool.and_eq_true] at hc
        refine .inr (.inl ⟨_, _, Rep.dp a x (.inl hc.1) ra, Rep.dp _ y (.inl hc.2) rb, hc.1, hc.2, ?_⟩)
        rw [any_pys]
        exact q H _ same_refl rfl
      · cases e1
    · split at e1
      · rename_i hc
        cases e1
        rw [Bool.and_eq_true] at hc
        refine .inr (.inr ⟨_, _, Rep.dp a x (.inl hc.1) ra, Rep.dp _ y (.inl hc.2) rb, hc.1, canLayAll_ofT hc.2, ?_⟩)
        show Q (.bl (!List.any _ _)) H
        rw [any_pys]
        exact q H _ same_refl rfl
      · cases e1
    · exact rb.elim
    · exact rb.elim
    · cases e1
theorem op_dIsB : OpR X (compareOp .Is) (rB X.kw (o2 .isB)) := by
  refine opr_imp L2.op_is_bl ?_
  rintro x y H Q ⟨ω, a, b, d, tr, ra, rb, e, q⟩
  unfold o2 at e
  split at e <;> try cases e
  all_goals try contradiction
  all_goals
    cases ra; cases rb
    exact ⟨_, _, rfl, rfl, q H _ same_refl rfl⟩
theorem op_dIsNotB : OpR X (compareOp .IsNot) (rB X.kw (o2 .isNotB)) := by
  refine opr_imp L2.op_isnot_bl ?_
  rintro x y H Q ⟨ω, a, b, d, tr, ra, rb, e, q⟩
  unfold o2 at e
  split at e <;> try cases e
  all_goals try contradiction
  all_goals
    cases ra; cases rb
    exact ⟨_, _, rfl, rfl, q H _ same_refl rfl⟩
theorem ixr_imp {r r' : R2} (h : IxR X r) (i : ∀ x y H Q, r' x y H Q → r x y H Q) : IxR X r' := fun value slice pins s σ H x y v u Q I rx ry q hs => h value slice pins s σ H x y v u Q I rx ry (i x y H Q q) hs
theorem atI_rep {ω : Wd} {H : Hp} {ds : List D} {vs : List V} {i : Int} {d : D} (r : Reps K ω H ds vs) (e : atI ds i = some d) : ∃ v, atI vs i = some v ∧ Rep K ω H d v := by
  unfold atI at e ⊢
  rw [r.length]
  cases q : ixN ds.length i with
  | none => rw [q] at e; cases e
  | some j =>
    rw [q] at e
    exact r.get e
theorem valV_repk {K : KW} {ω : Wd} {H : Hp} {k : Str} : ∀ {kvs : List (Str × D)} {kws : List (Key × V)}, Repk K ω H kvs kws → match kvs.lookup k with
    | none => valV kws (.inr k) = none
    | some d => ∃ v, valV kws (.inr k) = some v ∧ Rep K ω H d v
  | [], kws, r => by
    cases r
    exact valV_nil
  | (k', d) :: kvs, kws, r => by
    obtain ⟨v, r', rfl, h1, h2⟩ := r
    rw [List.lookup_cons]
    by_cases e : k = k'
    · subst e
      rw [beq_self_eq_true]
      exact ⟨v, valV_pos rfl, h1⟩
    · rw [show (k == k') = false from by simpa using e]
      have e2 : valV ((Sum.inr k', v) :: r') (Sum.inr k) = valV r' (.inr k) := valV_neg (p := ((Sum.inr k' : Key), v)) (fun z => e (Sum.inr.inj z).symm)
      rw [e2]
      exact valV_repk h2
theorem ix_dk (hu : X.A.units + 1 < cLine) : IxR X (fun x y H Q => ∃ a v, x = .ref a ∧ DGet H a y (some v) ∧ Q v H) := by
  intro value slice pins s σ H x y v u Q I rx ry q hs
  obtain ⟨p, r, rfl, g, q⟩ := q
  obtain rfl : v = Value.ref p := rx
  exact PyProof.Rows.tail_any (dict_typeIs I g) PySem.F.slot_dict_getitem.lookup (d_getItem hu I g ry fun w' s' I' r' => ⟨r, H, I', r', q⟩) hs
theorem op_dIx (hu : X.A.units + 65 < cLine) : IxR X (rB X.kw dIx) := by
  refine ixr_imp (ix_seq.or (ix_dk (by omega))) ?_
  rintro x y H Q ⟨ω, a, b, d, tr, ra, rb, e, q⟩
  unfold dIx at e
  split at e
  · obtain ⟨_, a1, vs, rfl, s1, r1⟩ := ra
    cases rb
    obtain ⟨v, e1, rv⟩ := atI_rep r1 e
    exact .inl (.inr (.inl ⟨a1, vs, _, v, rfl, rfl, s1, e1, q H v same_refl rv⟩))
  · obtain ⟨_, a1, vs, rfl, s1, w1, r1⟩ := ra
    cases rb
    obtain ⟨v, e1, rv⟩ := atI_rep r1 e
    exact .inl (.inl ⟨a1, vs, _, v, rfl, rfl, SqL.of s1, e1, q H v same_refl rv⟩)
  · obtain ⟨_, a1, vs, rfl, s1, r1⟩ := ra
    cases rb
    obtain ⟨v, e1, rv⟩ := atI_rep r1 e
    refine .inl (.inl ⟨a1, vs, _, v, rfl, rfl, ?_, e1, q H v same_refl rv⟩)
    rcases s1 with ⟨s1, _⟩ | ⟨o, s1⟩ | s1
    · exact .inl (.inl s1)
    · exact .inl (.inr ⟨o, s1⟩)
    · exact .inr s1
  · obtain ⟨rfl, l1⟩ := ra
    cases rb
    rename_i z i
    cases e1 : atI z.cps.toList i with
    | none => rw [e1] at e; cases e
    | some c =>
      rw [e1] at e
      cases e
      refine .inl (.inr (.inr ⟨_, _, c, rfl, rfl, l1, e1, q H _ same_refl ⟨rfl, ?_⟩⟩))
      show 1 ≤ sizeLine
      rw [sizeLine_eq]
      decide
  · obtain ⟨ln, ad, kws, rfl, ha, wa, rk⟩ := ra
    obtain ⟨rfl, l1⟩ := rb
    rename_i kvs key
    have vv := valV_repk (k := key) rk
    rw [e] at vv
    obtain ⟨v', e1, rv⟩ := vv
    exact .inr ⟨ad, v', rfl, by rw [← e1]; exact DGet.k (k := .inr key) ha, q H v' same_refl rv⟩
  · cases e
end
end TL

namespace TL
open PySem L2 PyProof.Rows
section
variable {X : Cx}
theorem call_int_txt : CallR X (.type "int") (fun xs H Q => ∃ a n, xs = [.str a] ∧ PySem.intText? a = some n ∧ a.length ≤ 640 ∧ Q (.int n) H) := by
  intro pins s σ H xs us Q I rs h
  obtain ⟨a, n, rfl, hn, hl, h⟩ := h
  cases rs with
  | cons r1 rs =>
    cases rs
    obtain ⟨t, rfl⟩ := r1
    exact PySem.W.KIN.call_text hn hl ⟨.int n, H, I.tok _, ⟨_, rfl⟩, h⟩
theorem call_str_txt : CallR X (.type "str") (fun xs H Q => ∃ a, xs = [.str a] ∧ Q (.str a) H) := by
  intro pins s σ H xs us Q I r h
  obtain ⟨a, rfl, q⟩ := h
  cases r with
  | cons r1 rs =>
    cases rs
    obtain ⟨t, rfl⟩ := r1
    exact PySem.P.str_of_str ⟨.str a, H, I, ⟨t, rfl⟩, q⟩
theorem intText_fig : ∀ k : Fin 10, PySem.intText? ⟨#[48 + k.val]⟩ = some (k.val : Int) := by decide +kernel
end
end TL

namespace TStr
open PySem PySem.Spec PyProof.Rows PySem.Froz L2

/-- at a stands a set of the texts l, of which a walk is known -/
def Held (P : Program) (w : World) (h : Heap) (a : Addr) (l : List Str) : Prop :=
  l.Nodup ∧ l.length < scanBound ∧ ∃ D : SD, h.get? a = some (sObj "set" D) ∧ TxOk P w D l ∧ Ris D.2.2.place.toList ∧ (w.params.followText "set-order" = true ∨ D.2.2.led = true)
section
variable {P : Program} {w : World} {A : Around} {E : Value → Shared → Prop} {s : Shared} {h h' : Heap} {a : Addr} {l : List Str}
theorem Held.keep (x : Held P w h a l) (k : ∀ o, h.get? a = some o → h'.get? a = some o) : Held P w h' a l :=
  let ⟨n, b, D, e, r⟩ := x; ⟨n, b, D, k _ e, r⟩
theorem Held.lt (x : Held P w h a l) : a < h.objs.size := let ⟨_, _, _, e, _⟩ := x; Heap.lt_size e
theorem held_new (e : h.get? a = some { cls := .type "set", dict := none, data := .set #[] 0 (.fresh 0 0 (!w.params.followText "set-order")) }) : Held P w h a [] :=
  ⟨List.nodup_nil, by decide, (#[], 0, .fresh 0 0 (!w.params.followText "set-order")), e, .nil rfl, List.Pairwise.nil, by
    show _ ∨ (!w.params.followText "set-order") = true
    cases w.params.followText "set-order"
    · exact .inr rfl
    · exact .inl rfl⟩
theorem tail_ris {ep : Nat} {es : Array (Int × Value)} {t : SetTable} {b : Bool} (r : Ris t.place.toList) : Ris (tailTx ep es t b).2.2.place.toList ∧ (tailTx ep es t b).2.2.led = t.led := by
  unfold tailTx
  split
  · exact ⟨relayAll_ris _ _ _, relayAll_led _ _ _⟩
  · exact ⟨r, rfl⟩
theorem add_ris {D : SD} {hh : Int} {v : Value} (r : Ris D.2.2.place.toList) : Ris (addTx hh v D).2.2.place.toList ∧ (addTx hh v D).2.2.led = D.2.2.led := by
  have r1 := layNew_ris D.2.2 D.1 hh v r
  have l1 := layNew_led D.2.2 D.1 hh v
  unfold addTx
  split
  · have z := tail_ris (ep := D.2.1) (es := (layNew D.2.2 D.1 hh v).1) (t := { (layNew D.2.2 D.1 hh v).2.1 with plain := false }) (b := (layNew D.2.2 D.1 hh v).2.2.1) r1
    exact ⟨z.1, z.2.trans l1⟩
  · have z := tail_ris (ep := D.2.1) (es := (layNew D.2.2 D.1 hh v).1) (t := (layNew D.2.2 D.1 hh v).2.1) (b := (layNew D.2.2 D.1 hh v).2.2.1) r1
    exact ⟨z.1, z.2.trans l1⟩
theorem only_a {f : Obj → Obj} : Heap.SameBut a h (h.update a f) := Heap.SameBut.update h a f
/-- a text that is in the set already -/
theorem add_old {D : SD} {k : Str} {u : Tok} {Q : Bool → Shared → Prop} (ho : s.heap.get? a = some (sObj "set" D)) (F : TxOk P w D l) (hb : l.length < scanBound) (hk : k ∈ l) (q : Q false s) :
    wpAny (model P w) A (setAddHashed a (.str k u) (hashStr w k)) Q E s := by
  have hd : (sObj "set" D).data = .set D.1 D.2.1 D.2.2 := rfl
  have hf : D.2.2.fits D.1.size = true := F.fit
  have hb0 : D.1.size < scanBound := by rw [F.sz]; exact hb
  obtain ⟨e, he, hi⟩ := (F.mem k).mp hk
  unfold setAddHashed setAddHashedIn
  refine wpAny_holding (wpAny_bind (wpAny_setState_of ho hd hf ?_))
  dsimp only
  rw [byScan_of rfl hb0 F.el]
  simp only [↓reduceIte]
  unfold setAddByScan
  refine wpAny_bind (wpAny_bind (wpAny_rule (wpAny_bind (wpAny_setScan_of (knd := strKind P w) (k := k) (is_str k u) ho hd hf F.el ?_))))
  cases hfi : List.findIdx? (fun e => (strKind P w).is k e.2) D.1.toList with
  | none =>
    have z := List.findIdx?_eq_none_iff.mp hfi e he
    rw [hi] at z
    cases z
  | some j => exact wpAny_pure (wpAny_pure q)
theorem add_held {k : Str} {u : Tok} {Q : Bool → Shared → Prop} (x : Held P w s.heap a l) (hb : l.length + 1 < scanBound)
    (q : ∀ h' b, Heap.SameBut a s.heap h' → Held P w h' a (if k ∈ l then l else k :: l) → Q b { s with heap := h' }) : wpAny (model P w) A (setAddHashed a (.str k u) (hashStr w k)) Q E s := by
  obtain ⟨n, b, D, e, F, r, t⟩ := x
  by_cases hk : k ∈ l
  · rw [if_pos hk] at q
    exact add_old e F b hk (q s.heap false (Heap.SameBut.refl a s.heap) ⟨n, b, D, e, F, r, t⟩)
  · rw [if_neg hk] at q
    have z := add_ris (D := D) (hh := hashStr w k) (v := .str k u) r
    refine add_x e F hk hb (q _ true only_a ⟨List.nodup_cons.mpr ⟨hk, n⟩, hb, _, get_upd _ e rfl, add_ok u F, z.1, t.imp id fun y => z.2.trans y⟩)
/-- all of a walk's texts into the set -/
theorem update_loop {I : Addr} {fp wr : List Addr} {G : Array GenState → Array GenState → Prop} {n : Nat} {Pv : Nat → Value → Prop} {St : Nat → Shared → Prop} {R : Result → Shared → Prop} {xs : List Str}
    (W : WalksS P w A.in1 I fp wr G n Pv St) (hSf : a ∉ fp) (hn : n = xs.length) (hb : xs.length + 1 < scanBound) (hval : ∀ i v, Pv i v → ∃ k t, xs[i]? = some k ∧ v = .str k t) :
    ∀ (m i : Nat) (s : Shared) (l : List Str), n - i = m → i ≤ n → St i s → Held P w s.heap a l → l.length ≤ i → (∀ k, k ∈ l ↔ k ∈ xs.take i) →
      (∀ s' l', Moved (a :: wr) G s s' → Held P w s'.heap a l' → l'.length ≤ n → (∀ k, k ∈ l' ↔ k ∈ xs) → R (.ok (.ret .none)) s') →
      codeAny (model P w) A (.builtin "set.update.loop" ⟨[.ref a, .ref I], []⟩) R s := by
  have hw : a ∉ wr := fun h => hSf (W.sub _ h)
  intro m
  induction m with
  | zero =>
    intro i s l hm hi hst hS hl hmem hR
    have hin : i = n := by omega
    refine codeAny_builtin PyProof.Rows.F.entry_set_update_loop ?_
    rw [Around.under_plainId PyProof.Rows.F.plain_set_update_loop _]
    show wpAny _ A.in1 (pyNext (.ref I) >>= _) _ _ s
    rw [hin] at hst
    refine wpAny_bind (W.done s _ _ hst fun s' mv => ?_)
    show wpAny _ A.in1 (ret Value.none) _ _ s'
    refine wpAny_pure (hR s' l (mv.mono fun b z => List.mem_cons_of_mem _ z) (hS.keep fun o e => mv.heap a o hw e) (by omega) fun k => ?_)
    rw [hmem k, hin, hn, List.take_length]
  | succ m ih =>
    intro i s l hm hi hst hS hl hmem hR
    have hlt : i < n := by omega
    refine codeAny_builtin PyProof.Rows.F.entry_set_update_loop ?_
    rw [Around.under_plainId PyProof.Rows.F.plain_set_update_loop _]
    show wpAny _ A.in1 (pyNext (.ref I) >>= _) _ _ s
    refine wpAny_bind (W.item i s _ _ hlt hst fun v s' hP hst' mv => ?_)
    obtain ⟨z, t, hz, rfl⟩ := hval i v hP
    show wpAny _ A.in1 (holding [Value.str z t] (setAdd a (.str z t)) >>= _) _ _ s'
    refine wpAny_bind (wpAny_holding ?_)
    unfold setAdd
    refine wpAny_holding (wpAny_bind ((strKind P w).pyHash (k := z) (is_str _ _) ?_))
    refine add_held (s := { s' with toks := s'.toks + 1 }) (hS.keep fun o e => mv.heap a o hw e) (by omega) fun h2 b hsb hS2 => ?_
    refine wpAny_pure ⟨plainId_quiet PyProof.Rows.F.plain_set_update_loop _, ih (i + 1) _ _ (by omega) hlt (W.frame _ s' _ _ hst' (Nat.le_succ _) fun c hc o e => ?_) hS2 ?_ (fun k => ?_) fun s3 l3 mv3 hS3 hl3 hm3 => ?_⟩
    · rw [hsb.2 c (fun y : c = a => hSf (y ▸ hc))]; exact e
    · split
      · omega
      · rw [List.length_cons]; omega
    · rw [List.take_add_one, hz]
      split
      · rename_i hin
        constructor
        · intro y; exact List.mem_append_left _ ((hmem k).mp y)
        · intro y
          rcases List.mem_append.mp y with y | y
          · exact (hmem k).mpr y
          · have : k = z := by simpa using y
            rw [this]; exact hin
      · rw [List.mem_cons, hmem k, List.mem_append]
        constructor
        · rintro (y | y)
          · right; simp [y]
          · left; exact y
        · rintro (y | y)
          · right; exact y
          · left; simpa using y
    · refine hR s3 l3 (Moved.trans W.gtrans ((mv.mono fun c y => List.mem_cons_of_mem _ y).then_heap (Nat.le_succ _) fun c o hc e => ?_) mv3) hS3 hl3 hm3
      rw [hsb.2 c (fun y : c = a => hc (by rw [y]; exact List.mem_cons_self))]; exact e

set_option maxHeartbeats 3200000 in
theorem set_list {c : Addr} {items : Array Value} {xs : List Str} {Q : Value → Shared → Prop} (hh : A.handled = none) (hc : s.heap.IsList c items) (hi : StrsAre items.toList xs) (hb : xs.length + 1 < scanBound)
    (q : ∀ (h' : Heap) (tk : Nat) (l : List Str), Held P w h' s.heap.objs.size l → l.length ≤ xs.length → (∀ k, k ∈ l ↔ k ∈ xs) → (∀ b o, s.heap.get? b = some o → h'.get? b = some o) → Q (.ref s.heap.objs.size) { s with heap := h', toks := tk }) :
    wpAny (model P w) A (call (.type "set") [.ref c]) Q E s := by
  have hsz : items.size = xs.length := by rw [← StrsAre.len_eq hi, Array.length_toList]
  obtain ⟨mc, tl, hmro⟩ := PySem.F.called_set.mro
  have hmade := PySem.F.called_set.made
  have hsub := PySem.F.called_set.sub
  refine wpAny_call (codeAny_of_tree ?_)
  show wpAny _ _ (callAny (.type "set") _) _ _ _
  refine wpAny_pure ⟨Code.quiet_builtin _ (by decide +kernel), codeAny_builtin PySem.F.entry_type_call ?_⟩
  rw [Around.under_plain (weight_type_call_type "set" [.ref c] []) rfl]
  have h1 := PySem.F.called_set.notType
  have h2 := PySem.F.called_set.canCreate
  have hct := PySem.F.typeCall_set_1 (.ref c)
  repeat (any_goals (first | assumption | wp_step))
  refine codeAny_mono (code_set_led1 (.ref c) (E := E) (Q₁ := fun v s1 => v = .ref s.heap.objs.size ∧ s1 = { s with heap := s.heap.push { cls := .type "set", dict := none, data := .set #[] 0 (.fresh 0 0 (!w.params.followText "set-order")) } }) ⟨rfl, rfl⟩) fun r s1 hr => ?_
  cases r with
  | error e => exact hr
  | ok fl =>
    cases fl with
    | ret v =>
      obtain ⟨rfl, rfl⟩ := hr
      have hS : (s.heap.push { cls := .type "set", dict := none, data := .set #[] 0 (.fresh 0 0 (!w.params.followText "set-order")) }).get? s.heap.objs.size = some { cls := .type "set", dict := none, data := .set #[] 0 (.fresh 0 0 (!w.params.followText "set-order")) } := Heap.get?_push_size _ rfl
      have hT : Shared.TypeIs { s with heap := s.heap.push { cls := .type "set", dict := none, data := .set #[] 0 (.fresh 0 0 (!w.params.followText "set-order")) } } (.ref s.heap.objs.size) "set" := ⟨_, hS, rfl⟩
      have hli := PySem.F.called_set.init.lookup
      have hbi := PySem.F.called_set.init.bind (.ref s.heap.objs.size)
      repeat (any_goals (first | assumption | wp_step))
      refine codeAny_mono (codeAny_call_builtin (R := wants (fun r s2 => r = .none ∧ ∃ h' tk l, s2 = { s with heap := h', toks := tk } ∧ Held P w h' s.heap.objs.size l ∧ l.length ≤ xs.length ∧ (∀ k, k ∈ l ↔ k ∈ xs) ∧
          (∀ b o, s.heap.get? b = some o → h'.get? b = some o)) E) PySem.F.called_set.init.plain PySem.F.entry_set_init (check_set_init_1 hT ?_)) fun r2 s2 hr2 => ?_
      · obtain ⟨ol, hol, hcl, nl, hdl⟩ := hc
        obtain ⟨ocls, odict, odata, oslots⟩ := ol
        simp only at hcl hdl
        subst hcl; subst hdl
        generalize hH : s.heap.push { cls := .type "set", dict := none, data := .set #[] 0 (.fresh 0 0 (!w.params.followText "set-order")) } = H at hS hT
        have hzH : H.objs.size = s.heap.objs.size + 1 := by rw [← hH]; exact Heap.size_push ..
        have up : ∀ b o, s.heap.get? b = some o → H.get? b = some o := fun b o e => by rw [← hH]; exact Heap.get?_push_of_some _ e
        have hol' := up _ _ hol
        have hsls := PySem.F.sub_list_set
        have hslf := PySem.F.sub_list_frozenset
        have hne : (Value.type "list" == Value.type "dict") = false := by decide
        have hl1 : H.IsList c items := ⟨_, hol', rfl, nl, rfl⟩
        unfold Builtin.«set.__init__» noKeywords Builtin.Frozenset.updateFrom
        generalize hPI : pyIter = PI
        wp_walk
        subst hPI
        refine wpAny_pyIter_list hl1 ?_
        refine wpAny_bind (wpAny_runValue ?_)
        have hlS : c < s.heap.objs.size := Heap.lt_size hol
        have hh3 : A.in1.in1.in1.handled = none := by simp [hh]
        have hSf : s.heap.objs.size ∉ [H.objs.size, c] := by
          rw [hzH]; simp only [List.mem_cons, List.mem_singleton, List.not_mem_nil, or_false, not_or]
          exact ⟨Nat.ne_of_lt (Nat.lt_succ_self _), Nat.ne_of_gt hlS⟩
        have hval : ∀ (i : Nat) (v : Value), items[i]? = some v → ∃ k t, xs[i]? = some k ∧ v = .str k t := fun i v hv => by
          have hlt : i < xs.length := by rw [← hsz]; exact (Array.getElem?_eq_some_iff.mp hv).1
          obtain ⟨t, e⟩ := SS.strs_at hi i v (by rw [Array.getElem?_toList]; exact hv)
          refine ⟨xs[i], t, List.getElem?_eq_getElem hlt, ?_⟩
          rw [e, List.getD_eq_getElem?_getD, List.getElem?_eq_getElem hlt]
          rfl
        refine update_loop ((Walks.list hh3 _ c (by rw [hzH]; exact Nat.ne_of_lt (Nat.lt_succ_of_lt hlS)) items).toS) hSf hsz hb hval (items.size - 0) 0 _ [] (by omega) (Nat.zero_le _)
          ⟨⟨_, Heap.get?_push_size _ rfl, rfl, rfl⟩, (hl1.push _)⟩ (held_new (Heap.get?_push_of_some _ hS)) (Nat.le_refl 0) (by simp) ?_
        intro s3 l3 mv hS3 hl3 hm3
        obtain ⟨h3, g3, d3, tk3, os3⟩ := s3
        have eg : g3 = s.gens := mv.gens
        have ed : d3 = s.drawn := mv.drawn
        have eo : os3 = s.os := mv.os
        subst eg; subst ed; subst eo
        show wpAny _ _ _ _ _ _
        refine wpAny_pure ?_
        show wpAny _ _ (ret Value.none) _ _ _
        refine wpAny_pure ⟨rfl, h3, tk3, l3, rfl, hS3, by omega, hm3, fun b o e => ?_⟩
        have hb0 : b < s.heap.objs.size := Heap.lt_size e
        exact mv.heap b o (by simp only [List.mem_cons, List.mem_singleton, List.not_mem_nil, or_false, not_or]; exact ⟨Nat.ne_of_lt hb0, by rw [hzH]; exact Nat.ne_of_lt (Nat.lt_succ_of_lt hb0)⟩) (Heap.get?_push_of_some _ (up _ _ e))
      · cases r2 with
        | error e => exact hr2
        | ok fl2 =>
          cases fl2 with
          | ret r =>
            obtain ⟨rfl, h', tk, l', rfl, hS', hl', hm', hk'⟩ := hr2
            repeat (any_goals (first | assumption | wp_step))
            exact q _ _ _ hS' hl' hm' hk'
          | _ => exact hr2.elim
    | _ => exact hr.elim

set_option maxHeartbeats 3200000 in
theorem set_tuple {c : Addr} {items : Array Value} {xs : List Str} {Q : Value → Shared → Prop} (hh : A.handled = none) (hc : s.heap.IsTuple c items) (hi : StrsAre items.toList xs) (hb : xs.length + 1 < scanBound)
    (q : ∀ (h' : Heap) (tk : Nat) (l : List Str), Held P w h' s.heap.objs.size l → l.length ≤ xs.length → (∀ k, k ∈ l ↔ k ∈ xs) → (∀ b o, s.heap.get? b = some o → h'.get? b = some o) → Q (.ref s.heap.objs.size) { s with heap := h', toks := tk }) :
    wpAny (model P w) A (call (.type "set") [.ref c]) Q E s := by
  have hsz : items.size = xs.length := by rw [← StrsAre.len_eq hi, Array.length_toList]
  obtain ⟨mc, tl, hmro⟩ := PySem.F.called_set.mro
  have hmade := PySem.F.called_set.made
  have hsub := PySem.F.called_set.sub
  refine wpAny_call (codeAny_of_tree ?_)
  show wpAny _ _ (callAny (.type "set") _) _ _ _
  refine wpAny_pure ⟨Code.quiet_builtin _ (by decide +kernel), codeAny_builtin PySem.F.entry_type_call ?_⟩
  rw [Around.under_plain (weight_type_call_type "set" [.ref c] []) rfl]
  have h1 := PySem.F.called_set.notType
  have h2 := PySem.F.called_set.canCreate
  have hct := PySem.F.typeCall_set_1 (.ref c)
  repeat (any_goals (first | assumption | wp_step))
  refine codeAny_mono (code_set_led1 (.ref c) (E := E) (Q₁ := fun v s1 => v = .ref s.heap.objs.size ∧ s1 = { s with heap := s.heap.push { cls := .type "set", dict := none, data := .set #[] 0 (.fresh 0 0 (!w.params.followText "set-order")) } }) ⟨rfl, rfl⟩) fun r s1 hr => ?_
  cases r with
  | error e => exact hr
  | ok fl =>
    cases fl with
    | ret v =>
      obtain ⟨rfl, rfl⟩ := hr
      have hS : (s.heap.push { cls := .type "set", dict := none, data := .set #[] 0 (.fresh 0 0 (!w.params.followText "set-order")) }).get? s.heap.objs.size = some { cls := .type "set", dict := none, data := .set #[] 0 (.fresh 0 0 (!w.params.followText "set-order")) } := Heap.get?_push_size _ rfl
      have hT : Shared.TypeIs { s with heap := s.heap.push { cls := .type "set", dict := none, data := .set #[] 0 (.fresh 0 0 (!w.params.followText "set-order")) } } (.ref s.heap.objs.size) "set" := ⟨_, hS, rfl⟩
      have hli := PySem.F.called_set.init.lookup
      have hbi := PySem.F.called_set.init.bind (.ref s.heap.objs.size)
      repeat (any_goals (first | assumption | wp_step))
      refine codeAny_mono (codeAny_call_builtin (R := wants (fun r s2 => r = .none ∧ ∃ h' tk l, s2 = { s with heap := h', toks := tk } ∧ Held P w h' s.heap.objs.size l ∧ l.length ≤ xs.length ∧ (∀ k, k ∈ l ↔ k ∈ xs) ∧
          (∀ b o, s.heap.get? b = some o → h'.get? b = some o)) E) PySem.F.called_set.init.plain PySem.F.entry_set_init (check_set_init_1 hT ?_)) fun r2 s2 hr2 => ?_
      · obtain ⟨ol, hol, hcl, nl, hdl⟩ := hc
        obtain ⟨ocls, odict, odata, oslots⟩ := ol
        simp only at hcl hdl
        subst hcl; subst hdl
        generalize hH : s.heap.push { cls := .type "set", dict := none, data := .set #[] 0 (.fresh 0 0 (!w.params.followText "set-order")) } = H at hS hT
        have hzH : H.objs.size = s.heap.objs.size + 1 := by rw [← hH]; exact Heap.size_push ..
        have up : ∀ b o, s.heap.get? b = some o → H.get? b = some o := fun b o e => by rw [← hH]; exact Heap.get?_push_of_some _ e
        have hol' := up _ _ hol
        have hsls := PySem.F.sub_tuple_set
        have hslf := PySem.F.sub_tuple_frozenset
        have hne : (Value.type "tuple" == Value.type "dict") = false := by decide
        have hl1 : H.IsTuple c items := ⟨_, hol', rfl, nl, rfl⟩
        unfold Builtin.«set.__init__» noKeywords Builtin.Frozenset.updateFrom
        generalize hPI : pyIter = PI
        wp_walk
        subst hPI
        refine wpAny_pyIter_tuple hl1 ?_
        refine wpAny_bind (wpAny_runValue ?_)
        have hlS : c < s.heap.objs.size := Heap.lt_size hol
        have hh3 : A.in1.in1.in1.handled = none := by simp [hh]
        have hSf : s.heap.objs.size ∉ [H.objs.size, c] := by
          rw [hzH]; simp only [List.mem_cons, List.mem_singleton, List.not_mem_nil, or_false, not_or]
          exact ⟨Nat.ne_of_lt (Nat.lt_succ_self _), Nat.ne_of_gt hlS⟩
        have hval : ∀ (i : Nat) (v : Value), items[i]? = some v → ∃ k t, xs[i]? = some k ∧ v = .str k t := fun i v hv => by
          have hlt : i < xs.length := by rw [← hsz]; exact (Array.getElem?_eq_some_iff.mp hv).1
          obtain ⟨t, e⟩ := SS.strs_at hi i v (by rw [Array.getElem?_toList]; exact hv)
          refine ⟨xs[i], t, List.getElem?_eq_getElem hlt, ?_⟩
          rw [e, List.getD_eq_getElem?_getD, List.getElem?_eq_getElem hlt]
          rfl
        refine update_loop ((Walks.tuple hh3 _ c (by rw [hzH]; exact Nat.ne_of_lt (Nat.lt_succ_of_lt hlS)) items).toS) hSf hsz hb hval (items.size - 0) 0 _ [] (by omega) (Nat.zero_le _)
          ⟨⟨_, Heap.get?_push_size _ rfl, rfl, rfl⟩, (hl1.push _)⟩ (held_new (Heap.get?_push_of_some _ hS)) (Nat.le_refl 0) (by simp) ?_
        intro s3 l3 mv hS3 hl3 hm3
        obtain ⟨h3, g3, d3, tk3, os3⟩ := s3
        have eg : g3 = s.gens := mv.gens
        have ed : d3 = s.drawn := mv.drawn
        have eo : os3 = s.os := mv.os
        subst eg; subst ed; subst eo
        show wpAny _ _ _ _ _ _
        refine wpAny_pure ?_
        show wpAny _ _ (ret Value.none) _ _ _
        refine wpAny_pure ⟨rfl, h3, tk3, l3, rfl, hS3, by omega, hm3, fun b o e => ?_⟩
        have hb0 : b < s.heap.objs.size := Heap.lt_size e
        exact mv.heap b o (by simp only [List.mem_cons, List.mem_singleton, List.not_mem_nil, or_false, not_or]; exact ⟨Nat.ne_of_lt hb0, by rw [hzH]; exact Nat.ne_of_lt (Nat.lt_succ_of_lt hb0)⟩) (Heap.get?_push_of_some _ (up _ _ e))
      · cases r2 with
        | error e => exact hr2
        | ok fl2 =>
          cases fl2 with
          | ret r =>
            obtain ⟨rfl, h', tk, l', rfl, hS', hl', hm', hk'⟩ := hr2
            repeat (any_goals (first | assumption | wp_step))
            exact q _ _ _ hS' hl' hm' hk'
          | _ => exact hr2.elim
    | _ => exact hr.elim
end
end TStr

namespace TStr
open PySem PySem.Spec PyProof.Rows PySem.Froz L2
theorem le_of {x y : Str} : TL.strLe x y = true ↔ x.cps.toList ≤ y.cps.toList := by
  unfold TL.strLe
  rw [Bool.not_eq_true', decide_eq_false_iff_not]
  exact Iff.rfl
theorem le_trans' {x y z : Str} (h : TL.strLe x y = true) (k : TL.strLe y z = true) : TL.strLe x z = true := le_of.mpr (List.le_trans (le_of.mp h) (le_of.mp k))
theorem le_anti {x y : Str} (h : TL.strLe x y = true) (k : TL.strLe y x = true) : x = y := by
  have e := List.le_antisymm (le_of.mp h) (le_of.mp k)
  obtain ⟨a⟩ := x
  obtain ⟨b⟩ := y
  have : a = b := Array.ext' e
  rw [this]
theorem le_total' (x y : Str) : TL.strLe x y = true ∨ TL.strLe y x = true := (List.le_total x.cps.toList y.cps.toList).imp le_of.mpr le_of.mpr
theorem insS_perm (x : Str) : ∀ l : List Str, (TL.insS x l).Perm (x :: l)
  | [] => .refl _
  | y :: r => by
    unfold TL.insS
    split
    · exact .refl _
    · exact ((insS_perm x r).cons y).trans (.swap x y r)
theorem sortS_perm : ∀ l : List Str, (TL.sortS l).Perm l
  | [] => .refl _
  | x :: r => (insS_perm x _).trans ((sortS_perm r).cons x)
theorem insS_sorted (x : Str) : ∀ l : List Str, l.Pairwise (fun a b => TL.strLe a b = true) → (TL.insS x l).Pairwise (fun a b => TL.strLe a b = true)
  | [], _ => by simp [TL.insS]
  | y :: r, h => by
    have h' := List.pairwise_cons.mp h
    unfold TL.insS
    split
    · rename_i q
      refine List.pairwise_cons.mpr ⟨fun z hz => ?_, h⟩
      rcases List.mem_cons.mp hz with rfl | hz
      · exact q
      · exact le_trans' q (h'.1 z hz)
    · rename_i q
      have q2 : TL.strLe y x = true := (le_total' x y).resolve_left q
      refine List.pairwise_cons.mpr ⟨fun z hz => ?_, insS_sorted x r h'.2⟩
      rcases List.mem_cons.mp ((insS_perm x r).mem_iff.mp hz) with rfl | hz
      · exact q2
      · exact h'.1 z hz
theorem sortS_sorted : ∀ l : List Str, (TL.sortS l).Pairwise (fun a b => TL.strLe a b = true)
  | [] => List.Pairwise.nil
  | x :: r => insS_sorted x _ (sortS_sorted r)
theorem dedS_mem {k : Str} : ∀ l : List Str, k ∈ TL.dedS l ↔ k ∈ l
  | [] => Iff.rfl
  | x :: r => by
    unfold TL.dedS
    split
    · rename_i h
      rw [dedS_mem r, List.mem_cons]
      constructor
      · exact .inr
      · rintro (rfl | q)
        · exact h
        · exact q
    · rw [List.mem_cons, List.mem_cons, dedS_mem r]
theorem dedS_nodup : ∀ l : List Str, (TL.dedS l).Nodup
  | [] => List.nodup_nil
  | x :: r => by
    unfold TL.dedS
    split
    · exact dedS_nodup r
    · rename_i h
      exact List.nodup_cons.mpr ⟨fun q => h ((dedS_mem r).mp q), dedS_nodup r⟩
/-- a list without doubles within a list as short is that list in another order -/
theorem perm_of_sub {α : Type} [BEq α] [LawfulBEq α] : ∀ {l m : List α}, l.Nodup → (∀ x ∈ l, x ∈ m) → m.length ≤ l.length → m.Perm l
  | [], m, _, _, h => by
    have : m = [] := List.length_eq_zero_iff.mp (Nat.le_zero.mp h)
    rw [this]
  | x :: r, m, n, h, hl => by
    obtain ⟨n1, n2⟩ := List.nodup_cons.mp n
    have hx := h x List.mem_cons_self
    have p := List.perm_cons_erase hx
    have l1 := p.length_eq
    rw [List.length_cons] at l1 hl
    exact p.trans ((perm_of_sub n2 (fun y hy => (List.mem_erase_of_ne (fun (e : y = x) => n1 (e ▸ hy))).mpr (h y (List.mem_cons_of_mem _ hy))) (by omega)).cons x)
theorem perm_of_sub_le {α : Type} [BEq α] [LawfulBEq α] : ∀ {l m : List α}, l.Nodup → (∀ x ∈ l, x ∈ m) → l.length ≤ m.length
  | [], m, _, _ => Nat.zero_le _
  | x :: r, m, n, h => by
    obtain ⟨n1, n2⟩ := List.nodup_cons.mp n
    have l1 := (List.perm_cons_erase (h x List.mem_cons_self)).length_eq
    have ih := perm_of_sub_le (m := m.erase x) n2 fun y hy => (List.mem_erase_of_ne (fun (e : y = x) => n1 (e ▸ hy))).mpr (h y (List.mem_cons_of_mem _ hy))
    rw [List.length_cons] at l1 ⊢
    omega
theorem rising_pair : ∀ {l : List Str} {p : Str}, risingS p l = true → (p :: l).Pairwise (fun a b => TL.strLe a b = true)
  | [], p, _ => by simp
  | x :: r, p, h => by
    have h : (!ltCps x.cps.toList p.cps.toList && risingS x r) = true := h
    rw [Bool.and_eq_true, ltCps_eq] at h
    have ih := rising_pair h.2
    have q : TL.strLe p x = true := h.1
    refine List.pairwise_cons.mpr ⟨fun z hz => ?_, ih⟩
    rcases List.mem_cons.mp hz with rfl | hz
    · exact q
    · exact le_trans' q ((List.pairwise_cons.mp ih).1 z hz)
theorem sortedS_pair : ∀ {l : List Str}, sortedS l = true → l.Pairwise (fun a b => TL.strLe a b = true)
  | [], _ => List.Pairwise.nil
  | x :: r, h => rising_pair h
/-- what is sorted is sortS -/
theorem sorted_eq {l ys : List Str} (p : ys.Perm l) (h : sortedS ys = true) : ys = TL.sortS l :=
  List.Perm.eq_of_pairwise (fun a b _ _ => le_anti) (sortedS_pair h) (sortS_sorted l) (p.trans (sortS_perm l).symm)
theorem sortS_of_perm {l m : List Str} (p : l.Perm m) : TL.sortS l = TL.sortS m :=
  List.Perm.eq_of_pairwise (fun a b _ _ => le_anti) (sortS_sorted l) (sortS_sorted m) ((sortS_perm l).trans (p.trans (sortS_perm m).symm))
section
variable {P : Program} {w : World} {A : Around} {E : Value → Shared → Prop} {s : Shared} {h h' : Heap} {a : Addr} {l : List Str}
theorem is_str_eq {k : Str} {v : Value} (h : (strKind P w).is k v = true) : ∃ t, v = .str k t := by
  have h : Value.isStrOf k v = true := h
  cases v <;> first | (simp [Value.isStrOf] at h; done) | skip
  rename_i x t _
  have e : x = k := by simpa [Value.isStrOf] using h
  exact ⟨_, by rw [e]⟩
def txt (v : Value) : Str := match v with
  | .str k _ => k
  | _ => Str.empty
theorem strs_of : ∀ {vs : List Value}, (∀ v ∈ vs, ∃ k t, v = Value.str k t) → StrsAre vs (vs.map txt)
  | [], _ => .nil
  | v :: vs, h => by
    obtain ⟨k, t, rfl⟩ := h v List.mem_cons_self
    exact .cons k t (strs_of fun u hu => h u (List.mem_cons_of_mem _ hu))
theorem sorted_held {Q : Value → Shared → Prop} (x : Held P w s.heap a l) (hh : A.handled = none) (h64 : l.length < 64)
    (q : ∀ s' p (out : Array Value) (c : Nat), (∀ b o, s.heap.get? b = some o → s'.heap.get? b = some o) → s'.gens = s.gens → s'.os = s.os → s.heap.objs.size ≤ p →
      s'.heap.get? p = some (seqObj "list" out c) → StrsAre out.toList (TL.sortS l) → Q (.ref p) s') : wpAny (model P w) A (call (.builtin "sorted") [.ref a]) Q E s := by
  obtain ⟨n, b, D, e, F, r, t⟩ := x
  have hb : D.1.size < scanBound := by rw [F.sz]; exact b
  refine Calls.call_function_entry kind_sorted plain_sorted entry_sorted (args_sorted1 _) ?_
  unfold Builtin.«sorted»
  refine wpAny_bind (m := checkCount "sorted" 1 1 _) (wpAny_pure ?_)
  refine wpAny_bind (collect_set (A := A.in1) hh ⟨_, e, rfl, rfl⟩ F.fit hb r t fun s1 vs k1 hz g1 o1 pm => ?_)
  have hst : ∀ v ∈ vs, ∃ k u, v = Value.str k u := fun v hv => by
    obtain ⟨y, hy, rfl⟩ := List.mem_map.mp (pm.mem_iff.mp hv)
    obtain ⟨⟨k, hk, _⟩, _⟩ := F.el y hy
    obtain ⟨u, eu⟩ := is_str_eq hk
    exact ⟨k, u, eu⟩
  have hl : vs.length = l.length := by rw [pm.length_eq, List.length_map, Array.length_toList, F.sz]
  have S := strs_of hst
  have pk : (vs.map txt).Perm l := by
    refine perm_of_sub n (fun k hk => ?_) (by rw [List.length_map]; exact Nat.le_of_eq hl)
    obtain ⟨y, hy, z⟩ := (F.mem k).mp hk
    obtain ⟨u, eu⟩ := is_str_eq z
    refine List.mem_map.mpr ⟨y.2, pm.mem_iff.mpr (List.mem_map.mpr ⟨y, hy, rfl⟩), ?_⟩
    rw [eu]
    rfl
  have h2 : vs.length < 64 := by rw [hl]; exact h64
  refine wpAny_bind (wpAny_newList ?_ (by rw [sizeLine_eq]; omega))
  have hoL : (s1.heap.push (seqObj "list" vs.toArray 0)).get? s1.heap.objs.size = some (seqObj "list" vs.toArray 0) := Heap.get?_push_size _ rfl
  refine wpAny_bind (wpAny_holding (wpAny_call_entry slot_list_sort ⟨_, hoL, rfl⟩ entry_list_sort (list_sort_treeK strKind_oneLt hoL S.keysOf (fun v1 v2 rest e => keyKind_strs (by rw [← e]; exact S)) h2 fun st' hp hs => ⟨_, rfl, ?_⟩) (args_list_sort _)))
  obtain ⟨ss, q1, q2, q3⟩ := sorted_out_str S hp hs
  have e2 : ss = TL.sortS l := sorted_eq (q2.trans pk) q3
  rw [e2] at q1
  obtain ⟨c, hc⟩ := sortedHeap_at (vs := vs) (out := (arrOf st').map (·.2)) hoL
  refine wpAny_pure ⟨_, rfl, q _ s1.heap.objs.size _ c (fun b u e => ?_) g1 o1 hz hc q1⟩
  have y := k1 b u e
  have hlt := Heap.lt_size y
  show (sortedHeap (s1.heap.push (seqObj "list" vs.toArray 0)) s1.heap.objs.size vs _).get? b = some u
  rw [sortedHeap_old (Nat.ne_of_lt hlt) (by rw [size_push']; exact Nat.lt_succ_of_lt hlt)]
  exact Heap.get?_push_of_some _ y
end
def SetS (P : Program) (w : World) (a : Addr) (l : List Str) : HO := .ext fun h => Held P w h a l
section
variable {X : Cx}
theorem setS_ok {P : Program} {w : World} {H : Hp} {h : Heap} {a : Addr} {l : List Str} (x : Held P w h a l) : ObjOk P w H h a (SetS P w a l) := by
  refine ⟨x, ?_, fun h1 h2 y k => y.keep k⟩
  obtain ⟨_, _, D, e, _⟩ := x
  exact ⟨_, e⟩
/-- set(texts) -/
def rSet (X : Cx) : List V → Hp → VK → Prop := fun vs H Q => ∃ (c : Addr) (xs : List Str), vs = [.ref c] ∧ (SqL X.K H c (xs.map V.str) ∨ SqT X.K H c (xs.map V.str)) ∧ xs.length < 64 ∧
  ∀ p l, H p = none → l.Nodup → l.length ≤ xs.length → (∀ k, k ∈ l ↔ k ∈ xs) → Q (.ref p) (upd H p (SetS X.prog X.w p l))
theorem cr_setS (hc : X.calm = true) : CallR X (.type "set") (rSet X) := by
  intro pins s σ H vs us Q I r h
  obtain ⟨c, xs, rfl, hs, h64, q⟩ := h
  rw [Vals.ref1 r]
  have hb : xs.length + 1 < scanBound := by unfold scanBound; omega
  have fin : ∀ (h' : Heap) (tk : Nat) (l : List Str), Held X.prog X.w h' s.heap.objs.size l → l.length ≤ xs.length → (∀ k, k ∈ l ↔ k ∈ xs) → (∀ b o, s.heap.get? b = some o → h'.get? b = some o) →
      EP X pins σ Q (.ref s.heap.objs.size) { s with heap := h', toks := tk } := fun h' tk l a b c d =>
    ⟨.ref _, _, I.laid (a := s.heap.objs.size) (o := SetS X.prog X.w s.heap.objs.size l) d (Nat.le_refl _) (setS_ok a), rfl, q _ l (I.hok.fresh (Nat.le_refl _)) a.1 b c⟩
  rcases hs with hs | hs
  · obtain ⟨its, rv, hl, _⟩ := I.list hs
    exact set_list (I.ok.hd hc) hl.isList rv.strs hb fin
  · obtain ⟨its, rv, hl, _⟩ := I.tuple hs
    exact set_tuple (I.ok.hd hc) hl rv.strs hb fin
/-- sorted(set) -/
def rSort (X : Cx) : List V → Hp → VK → Prop := fun vs H Q => ∃ (a : Addr) (l : List Str), vs = [.ref a] ∧ H a = some (SetS X.prog X.w a l) ∧ l.length < 64 ∧ ∀ p, H p = none → Q (.ref p) (upd H p (.lst ((TL.sortS l).map V.str)))
theorem cr_sortS (hc : X.calm = true) : CallR X (.builtin "sorted") (rSort X) := by
  intro pins s σ H vs us Q I r h
  obtain ⟨a, l, rfl, ha, h64, q⟩ := h
  rw [Vals.ref1 r]
  have R : Held X.prog X.w s.heap a l := (I.hok a _ ha).1
  refine sorted_held R (I.ok.hd hc) h64 fun s' p out c k g o hp hg hi => ?_
  have hlen : ((TL.sortS l).map V.str).length ≤ sizeLine := by rw [List.length_map, (sortS_perm l).length_eq, sizeLine_eq]; omega
  have hn : H p = none := I.hok.fresh hp
  have J : Inv X pins σ (upd H p (.lst ((TL.sortS l).map V.str))) { s with heap := s'.heap, gens := s'.gens, drawn := s'.drawn, toks := s'.toks } :=
    I.call (ch := []) (Un.laid k hp hn) (I.hok.laid k hp ⟨hlen, out.toList, c, vals_of_strs hi, hg⟩) (by rw [g]; exact I.bare) (fun _ z => nomatch z)
  have e : s' = { s with heap := s'.heap, gens := s'.gens, drawn := s'.drawn, toks := s'.toks } := by
    cases s'
    cases s
    cases o
    rfl
  rw [e]
  exact ⟨.ref p, _, J, rfl, q p hn⟩
end
end TStr

namespace TL
open PySem L2
/-- a call of one value by what it gives -/
def rC (K : KW) (g : D → Option D) : List V → Hp → VK → Prop := fun xs H Q => ∃ (ω : Wd) (a d : D), (∀ a, ω.wr a ≠ none → H a ≠ none) ∧ Reps K ω H [a] xs ∧ g a = some d ∧ ∀ H' v, Same H H' → Rep K ω H' d v → Q v H'
def rC2 (K : KW) (g : D → D → Option D) : List V → Hp → VK → Prop := fun xs H Q => ∃ (ω : Wd) (a b d : D), (∀ a, ω.wr a ≠ none → H a ≠ none) ∧ Reps K ω H [a, b] xs ∧ g a b = some d ∧ ∀ H' v, Same H H' → Rep K ω H' d v → Q v H'
/-- a method of a value with one argument -/
def rM (K : KW) (g : D → D → Option D) : V → List V → Hp → VK → Prop := fun x xs H Q => ∃ (ω : Wd) (a b d : D), (∀ a, ω.wr a ≠ none → H a ≠ none) ∧ Rep K ω H a x ∧ Reps K ω H [b] xs ∧ g a b = some d ∧ ∀ H' v, Same H H' → Rep K ω H' d v → Q v H'
section
variable {X : Cx} {K : KW} {ω : Wd} {H : Hp}
theorem callr_imp {f : Value} {r r' : List V → Hp → VK → Prop} (h : CallR X f r) (i : ∀ xs H Q, r' xs H Q → r xs H Q) : CallR X f r' := fun pins s σ H xs us Q I rx q => h pins s σ H xs us Q I rx (i xs H Q q)
theorem mtr_imp {id : String} {r r' : V → List V → Hp → VK → Prop} (h : MtR X id r) (i : ∀ x xs H Q, r' x xs H Q → r x xs H Q) : MtR X id r' := fun pins s σ H x xs v us Q I rx rs q => h pins s σ H x xs v us Q I rx rs (i x xs H Q q)
theorem sq_fls {a : Addr} {vs : List V} (q : (H a = some (.lst vs) ∧ ω.wr a = none) ∨ (∃ o, H a = some (.frz o (.lst vs))) ∨ ∃ (o : Obj) (its : Array Value) (n : Nat), K.K.lookup a = some o ∧ o.cls = .type "list" ∧ o.dict = none ∧ o.data = .seq its n ∧ its.size ≤ sizeLine ∧ Vals vs its.toList) : SqL K H a vs := by
  rcases q with ⟨q, _⟩ | ⟨o, q⟩ | q
  · exact .inl (.inl q)
  · exact .inl (.inr ⟨o, q⟩)
  · exact .inr q
theorem reps_ints : ∀ {ds : List D} {ns : List Int} {vs : List V}, intsOf ds = some ns → Reps K ω H ds vs → vs = ns.map V.int
  | [], ns, vs, e, h => by cases e; exact h
  | d :: ds, ns, vs, e, h => by
    obtain ⟨v, r, rfl, h1, h2⟩ := h
    cases d <;> first | (simp [intsOf] at e; done) | skip
    rename_i i
    simp only [intsOf, Option.map_eq_some_iff] at e
    obtain ⟨ms, e1, rfl⟩ := e
    rw [reps_ints e1 h2, show v = .int i from h1]
    rfl
theorem reps_bls : ∀ {ds : List D} {ns : List Bool} {vs : List V}, blsOf ds = some ns → Reps K ω H ds vs → vs = ns.map V.bl
  | [], ns, vs, e, h => by cases e; exact h
  | d :: ds, ns, vs, e, h => by
    obtain ⟨v, r, rfl, h1, h2⟩ := h
    cases d <;> first | (simp [blsOf] at e; done) | skip
    rename_i i
    simp only [blsOf, Option.map_eq_some_iff] at e
    obtain ⟨ms, e1, rfl⟩ := e
    rw [reps_bls e1 h2, show v = .bl i from h1]
    rfl
theorem reps_strs : ∀ {ds : List D} {ns : List Str} {vs : List V}, strsOf ds = some ns → Reps K ω H ds vs → vs = ns.map V.str
  | [], ns, vs, e, h => by cases e; exact h
  | d :: ds, ns, vs, e, h => by
    obtain ⟨v, r, rfl, h1, h2⟩ := h
    cases d <;> first | (simp [strsOf] at e; done) | skip
    rename_i i
    simp only [strsOf, Option.map_eq_some_iff] at e
    obtain ⟨ms, e1, rfl⟩ := e
    rw [reps_strs e1 h2, show v = .str i from h1.1]
    rfl
theorem reps_strs_le : ∀ {ds : List D} {ns : List Str} {vs : List V}, strsOf ds = some ns → Reps K ω H ds vs → ∀ x ∈ ns, x.length ≤ sizeLine
  | [], ns, vs, e, h => by cases e; simp
  | d :: ds, ns, vs, e, h => by
    obtain ⟨v, r, rfl, h1, h2⟩ := h
    cases d <;> first | (simp [strsOf] at e; done) | skip
    rename_i i
    simp only [strsOf, Option.map_eq_some_iff] at e
    obtain ⟨ms, e1, rfl⟩ := e
    intro x hx
    rcases List.mem_cons.mp hx with rfl | hx
    · exact h1.2
    · exact reps_strs_le e1 h2 x hx
theorem reps_of_strs : ∀ {ns : List Str}, (∀ x ∈ ns, x.length ≤ sizeLine) → Reps K ω H (ns.map D.str) (ns.map V.str)
  | [], _ => rfl
  | x :: ns, h => ⟨.str x, _, rfl, ⟨rfl, h x List.mem_cons_self⟩, reps_of_strs fun y hy => h y (List.mem_cons_of_mem _ hy)⟩

theorem cr_len : CallR X (.builtin "len") (rC X.kw (o1 .len)) := by
  refine callr_imp (call_len_seq.or call_len_str) ?_
  rintro xs H Q ⟨ω, a, d, tr, ra0, e, q⟩
  obtain ⟨v, rfl, ra⟩ := ra0.one
  clear ra0
  cases a with
  | tup ds =>
    cases e
    obtain ⟨_, a1, vs, rfl, s1, r1⟩ := ra
    refine .inl ⟨a1, vs, rfl, .inr s1, ?_⟩
    rw [r1.length]
    exact q H _ same_refl rfl
  | lst ds =>
    cases e
    obtain ⟨_, a1, vs, rfl, s1, w1, r1⟩ := ra
    refine .inl ⟨a1, vs, rfl, .inl (SqL.of s1), ?_⟩
    rw [r1.length]
    exact q H _ same_refl rfl
  | fls ds =>
    cases e
    obtain ⟨_, a1, vs, rfl, s1, r1⟩ := ra
    refine .inl ⟨a1, vs, rfl, .inl (sq_fls (K := X.kw) s1), ?_⟩
    rw [r1.length]
    exact q H _ same_refl rfl
  | str x =>
    cases e
    obtain ⟨rfl, l1⟩ := ra
    exact .inr ⟨x, rfl, l1, q H _ same_refl rfl⟩
  | _ => cases e
theorem cr_tuple : CallR X (.type "tuple") (rC X.kw (o1 .tuple)) := by
  refine callr_imp call_tuple_of ?_
  rintro xs H Q ⟨ω, a, d, tr, ra0, e, q⟩
  obtain ⟨v, rfl, ra⟩ := ra0.one
  clear ra0
  cases a with
  | tup ds =>
    cases e
    obtain ⟨l1, a1, vs, rfl, s1, r1⟩ := ra
    exact ⟨a1, vs, rfl, .inr ⟨s1, q H _ same_refl ⟨l1, a1, vs, rfl, s1, r1⟩⟩⟩
  | lst ds =>
    cases e
    obtain ⟨l1, a1, vs, rfl, s1, w1, r1⟩ := ra
    exact ⟨a1, vs, rfl, .inl ⟨SqL.of s1, fun p hp => q _ _ (same_new hp _) (rep_new_tup hp r1 l1)⟩⟩
  | _ => cases e
theorem cr_list : CallR X (.type "list") (rC X.kw (o1 .list)) := by
  refine callr_imp call_list_of ?_
  rintro xs H Q ⟨ω, a, d, tr, ra0, e, q⟩
  obtain ⟨v, rfl, ra⟩ := ra0.one
  clear ra0
  cases a with
  | tup ds =>
    cases e
    obtain ⟨l1, a1, vs, rfl, s1, r1⟩ := ra
    exact ⟨a1, vs, rfl, .inr s1, fun p hp => q _ _ (same_new hp _) (rep_new_lst tr hp r1 l1)⟩
  | lst ds =>
    cases e
    obtain ⟨l1, a1, vs, rfl, s1, w1, r1⟩ := ra
    exact ⟨a1, vs, rfl, .inl (SqL.of s1), fun p hp => q _ _ (same_new hp _) (rep_new_lst tr hp r1 l1)⟩
  | _ => cases e
theorem cr_dsum (hc : X.calm = true) : CallR X (.builtin "sum") (rC X.kw (o1 .sum)) := by
  refine callr_imp (cr_sum hc) ?_
  rintro xs H Q ⟨ω, a, d, tr, ra0, e, q⟩
  obtain ⟨v, rfl, ra⟩ := ra0.one
  clear ra0
  cases a with
  | lst ds =>
    simp only [o1, Option.map_eq_some_iff] at e
    obtain ⟨ns, e1, rfl⟩ := e
    obtain ⟨l1, a1, vs, rfl, s1, w1, r1⟩ := ra
    have z := reps_ints e1 r1
    subst z
    exact ⟨a1, ns, rfl, SqL.of s1, q H _ same_refl rfl⟩
  | _ => cases e
theorem cr_dall (hc : X.calm = true) : CallR X (.builtin "all") (rC X.kw (o1 .all)) := by
  refine callr_imp (L2.cr_all hc) ?_
  rintro xs H Q ⟨ω, a, d, tr, ra0, e, q⟩
  obtain ⟨v, rfl, ra⟩ := ra0.one
  clear ra0
  cases a with
  | lst ds =>
    simp only [o1, Option.map_eq_some_iff] at e
    obtain ⟨ns, e1, rfl⟩ := e
    obtain ⟨l1, a1, vs, rfl, s1, w1, r1⟩ := ra
    have z := reps_bls e1 r1
    subst z
    exact ⟨a1, ns, rfl, SqL.of s1, q H _ same_refl rfl⟩
  | _ => cases e
theorem maxL_mem : ∀ {ns : List Int}, ns ≠ [] → maxL ns ∈ ns ∧ ∀ y ∈ ns, y ≤ maxL ns
  | [], h => absurd rfl h
  | [x], _ => by simp [maxL]
  | x :: y :: r, _ => by
    obtain ⟨h1, h2⟩ := maxL_mem (ns := y :: r) (by simp)
    show (if maxL (y :: r) > x then maxL (y :: r) else x) ∈ _ ∧ _
    show (if maxL (y :: r) > x then maxL (y :: r) else x) ∈ _ ∧ ∀ z ∈ x :: y :: r, z ≤ (if maxL (y :: r) > x then maxL (y :: r) else x)
    split
    · refine ⟨List.mem_cons_of_mem _ h1, fun z hz => ?_⟩
      rcases List.mem_cons.mp hz with rfl | hz
      · omega
      · exact h2 z hz
    · refine ⟨List.mem_cons_self, fun z hz => ?_⟩
      rcases List.mem_cons.mp hz with rfl | hz
      · exact Int.le_refl _
      · have := h2 z hz
        omega
theorem minL_mem : ∀ {ns : List Int}, ns ≠ [] → minL ns ∈ ns ∧ ∀ y ∈ ns, minL ns ≤ y
  | [], h => absurd rfl h
  | [x], _ => by simp [minL]
  | x :: y :: r, _ => by
    obtain ⟨h1, h2⟩ := minL_mem (ns := y :: r) (by simp)
    show (if minL (y :: r) < x then minL (y :: r) else x) ∈ _ ∧ ∀ z ∈ x :: y :: r, (if minL (y :: r) < x then minL (y :: r) else x) ≤ z
    split
    · refine ⟨List.mem_cons_of_mem _ h1, fun z hz => ?_⟩
      rcases List.mem_cons.mp hz with rfl | hz
      · omega
      · exact h2 z hz
    · refine ⟨List.mem_cons_self, fun z hz => ?_⟩
      rcases List.mem_cons.mp hz with rfl | hz
      · exact Int.le_refl _
      · have := h2 z hz
        omega
theorem cr_dmax (hc : X.calm = true) : CallR X (.builtin "max") (rC X.kw (o1 .max)) := by
  refine callr_imp (L2.cr_max hc) ?_
  rintro xs H Q ⟨ω, a, d, tr, ra0, e, q⟩
  obtain ⟨v, rfl, ra⟩ := ra0.one
  clear ra0
  cases a with
  | lst ds =>
    simp only [o1, Option.bind_eq_some_iff] at e
    obtain ⟨ns, e1, e⟩ := e
    split at e
    · cases e
    · rename_i hn
      cases e
      obtain ⟨l1, a1, vs, rfl, s1, w1, r1⟩ := ra
      have z := reps_ints e1 r1
      subst z
      refine ⟨a1, ns, rfl, SqL.of s1, List.length_pos_iff.mpr hn, fun m hm hy => ?_⟩
      obtain ⟨h1, h2⟩ := maxL_mem hn
      have : m = maxL ns := Int.le_antisymm (h2 m hm) (hy _ h1)
      rw [this]
      exact q H _ same_refl rfl
  | _ => cases e
theorem cr_dmin (hc : X.calm = true) : CallR X (.builtin "min") (rC X.kw (o1 .min)) := by
  refine callr_imp (L2.cr_min hc) ?_
  rintro xs H Q ⟨ω, a, d, tr, ra0, e, q⟩
  obtain ⟨v, rfl, ra⟩ := ra0.one
  clear ra0
  cases a with
  | lst ds =>
    simp only [o1, Option.bind_eq_some_iff] at e
    obtain ⟨ns, e1, e⟩ := e
    split at e
    · cases e
    · rename_i hn
      cases e
      obtain ⟨l1, a1, vs, rfl, s1, w1, r1⟩ := ra
      have z := reps_ints e1 r1
      subst z
      refine ⟨a1, ns, rfl, SqL.of s1, List.length_pos_iff.mpr hn, fun m hm hy => ?_⟩
      obtain ⟨h1, h2⟩ := minL_mem hn
      have : m = minL ns := Int.le_antisymm (hy _ h1) (h2 m hm)
      rw [this]
      exact q H _ same_refl rfl
  | _ => cases e
theorem cr_dint : CallR X (.type "int") (rC X.kw (o1 .int)) := by
  refine callr_imp (call_int1.or call_int_txt) ?_
  rintro xs H Q ⟨ω, a, d, tr, ra0, e, q⟩
  obtain ⟨v, rfl, ra⟩ := ra0.one
  clear ra0
  cases a with
  | int i => cases e; cases ra; exact .inl (.inl ⟨i, rfl, q H _ same_refl rfl⟩)
  | bl b => cases e; cases ra; exact .inl (.inr ⟨b, rfl, q H _ same_refl rfl⟩)
  | str x =>
    simp only [o1] at e
    split at e
    · rename_i cc hx
      split at e
      · rename_i hc
        cases e
        have ex : x = ⟨#[48 + (cc - 48)]⟩ := by
          obtain ⟨⟨l⟩⟩ := x
          have : l = [cc] := hx
          rw [this, show 48 + (cc - 48) = cc by omega]
        have z := intText_fig ⟨cc - 48, by omega⟩
        dsimp only at z
        rw [← ex] at z
        exact .inr ⟨x, _, by rw [show v = .str x from ra.1], z, (by rw [ex]; show (1 : Nat) ≤ 640; decide), q H _ same_refl rfl⟩
      · cases e
    · cases e
  | _ => cases e
theorem cr_dstr : CallR X (.type "str") (rC X.kw (o1 .str)) := by
  refine callr_imp (call_str_int.or call_str_txt) ?_
  rintro xs H Q ⟨ω, a, d, tr, ra0, e, q⟩
  obtain ⟨v, rfl, ra⟩ := ra0.one
  clear ra0
  cases a with
  | str x =>
    cases e
    obtain rfl : v = .str x := ra.1
    exact .inr ⟨x, rfl, q H _ same_refl ra⟩
  | int i =>
    simp only [o1] at e
    split at e
    · rename_i hc
      cases e
      cases ra
      exact .inl ⟨i, rfl, hc.1, q H _ same_refl ⟨rfl, hc.2⟩⟩
    · cases e
  | _ => cases e
theorem cr_dmax2 (hc : X.calm = true) : CallR X (.builtin "max") (rC2 X.kw (o2 .max)) := by
  refine callr_imp (call_max2 hc) ?_
  rintro xs H Q ⟨ω, a, b, d, tr, r, e, q⟩
  obtain ⟨v, w, rfl, ra, rb⟩ := r.two
  unfold o2 at e
  split at e <;> try cases e
  all_goals try contradiction
  all_goals
    cases ra; cases rb
    exact ⟨_, _, rfl, q H _ same_refl rfl⟩
theorem cr_dmin2 (hc : X.calm = true) : CallR X (.builtin "min") (rC2 X.kw (o2 .min)) := by
  refine callr_imp (call_min2 hc) ?_
  rintro xs H Q ⟨ω, a, b, d, tr, r, e, q⟩
  obtain ⟨v, w, rfl, ra, rb⟩ := r.two
  unfold o2 at e
  split at e <;> try cases e
  all_goals try contradiction
  all_goals
    cases ra; cases rb
    exact ⟨_, _, rfl, q H _ same_refl rfl⟩
/-- the type of data -/
def tyD : D → Option String
  | .non => some "NoneType"
  | .bl _ => some "bool"
  | .int _ => some "int"
  | .str _ => some "str"
  | .tup _ => some "tuple"
  | .lst _ => some "list"
  | _ => none
theorem rep_ty {d : D} {v : V} {T : String} (h : Rep K ω H d v) (e : tyD d = some T) : TyX K H v (.type T) := by
  cases d <;> cases e
  · rw [show v = .non from h]; exact .base .non
  · rw [show v = .bl _ from h]; exact .base (.bl _)
  · rw [show v = .int _ from h]; exact .base (.int _)
  · rw [show v = .str _ from h.1]; exact .base (.str _)
  · obtain ⟨l1, a1, vs, rfl, s1, r1⟩ := h
    rcases s1 with (s1 | ⟨o, s1⟩) | ⟨o, its, n, s1, s2, _⟩
    · exact .base (.tup s1)
    · exact .fTuple s1
    · exact .kTuple s1 s2
  · obtain ⟨l1, a1, vs, rfl, s1, w1, r1⟩ := h
    exact .base (.lst s1)
def isO : String → Option O1
  | "str" => some .isStr
  | "int" => some .isInt
  | "bool" => some .isBool
  | "tuple" => some .isTuple
  | _ => none
theorem isO_ty {T : String} {o : O1} {a d : D} (h : isO T = some o) (e : o1 o a = some d) : ∃ T' b, tyD a = some T' ∧ kitB T' T = some b ∧ d = .bl b := by
  unfold isO at h
  split at h <;> cases h
  all_goals (cases a <;> cases e <;> exact ⟨_, _, rfl, (by decide +kernel), rfl⟩)
/-- isinstance(x, T) -/
theorem cr_isi {T : String} {o : O1} (h : isO T = some o) : CallR X (.builtin "isinstance") (fun xs H Q => ∃ v, xs = [v, .ty T] ∧ rC X.kw (o1 o) [v] H Q) := by
  refine callr_imp call_isi ?_
  rintro xs H Q ⟨v, rfl, ω, a, d, tr, ra0, e, q⟩
  obtain ⟨v', e', ra⟩ := ra0.one
  clear ra0
  cases e'
  obtain ⟨T', b, e1, e2, rfl⟩ := isO_ty h e
  exact ⟨v, .ty T, .type T', .type T, b, rfl, .ty T, rep_ty ra e1, kit_ty e2, q H _ same_refl rfl⟩
theorem mt_dJoin : MtR X "str.join" (rM X.kw (o2 .join)) := by
  refine mtr_imp mt_join ?_
  rintro x xs H Q ⟨ω, a, b, d, tr, ra, rb0, e, q⟩
  obtain ⟨v, rfl, rb⟩ := rb0.one
  clear rb0
  unfold o2 at e
  split at e <;> try cases e
  all_goals try contradiction
  rename_i s ds _
  simp only [Option.bind_eq_some_iff] at e
  obtain ⟨ys, e1, e⟩ := e
  split at e
  · rename_i hc
    cases e
    obtain ⟨rfl, _⟩ := ra
    obtain ⟨l1, a1, vs, rfl, s1, w1, r1⟩ := rb
    have z := reps_strs e1 r1
    subst z
    exact ⟨_, a1, ys, rfl, rfl, .inl (SqL.of s1), hc.1, q H _ same_refl ⟨rfl, hc.2⟩⟩
  · cases e
theorem mt_dSplit : MtR X "str.split" (rM X.kw (o2 .split)) := by
  refine mtr_imp mt_split ?_
  rintro x xs H Q ⟨ω, a, b, d, tr, ra, rb0, e, q⟩
  obtain ⟨v, rfl, rb⟩ := rb0.one
  clear rb0
  unfold o2 at e
  split at e <;> try cases e
  all_goals try contradiction
  split at e
  · rename_i hc
    cases e
    obtain ⟨rfl, _⟩ := ra
    obtain ⟨rfl, _⟩ := rb
    refine ⟨_, _, rfl, rfl, hc.1, hc.2.1, fun p hp => ?_⟩
    refine q _ _ (same_new hp _) (rep_new_lst tr hp (reps_of_strs fun x hx => ?_) (by rw [List.length_map]; exact hc.2.2.1))
    exact of_decide_eq_true (List.all_eq_true.mp hc.2.2.2 x hx)
  · cases e
theorem rep_strs {ns : List Str} (h : ∀ x ∈ ns, x.length ≤ sizeLine) : Reps K ω H (ns.map D.str) (ns.map V.str) := reps_of_strs h
theorem cr_dsorted : CallR X (.builtin "sorted") (rC X.kw (o1 .sorted)) := by
  refine callr_imp L2.cr_sortedS ?_
  rintro xs H Q ⟨ω, a, d, tr, ra0, e, q⟩
  obtain ⟨v, rfl, ra⟩ := ra0.one
  clear ra0
  cases a with
  | lst ds =>
    simp only [o1, Option.bind_eq_some_iff] at e
    obtain ⟨ns, e1, e⟩ := e
    split at e
    · rename_i hl
      cases e
      obtain ⟨l1, a1, vs, rfl, s1, w1, r1⟩ := ra
      have z := reps_strs e1 r1
      have le := reps_strs_le e1 r1
      subst z
      refine ⟨a1, ns, rfl, SqL.of s1, hl, fun ys p hp hs hn => ?_⟩
      have e2 := TStr.sorted_eq hp hs
      subst e2
      refine q _ _ (same_new hn _) (rep_new_lst tr hn (rep_strs fun x hx => le x (hp.mem_iff.mp hx)) ?_)
      rw [List.length_map, hp.length_eq, sizeLine_eq]
      omega
    · cases e
  | _ => cases e
/-- sorted(set(x)) -/
def rSrt (X : Cx) : V → Hp → VK → Prop := fun v H Q => TStr.rSet X [v] H fun u H1 => TStr.rSort X [u] H1 Q
theorem srt_of {d z : D} {v : V} {Q : VK} (tr : ∀ a, ω.wr a ≠ none → H a ≠ none) (r : Rep X.kw ω H d v) (e : o1 .sortedSet d = some z) (q : ∀ H' v', Same H H' → Rep X.kw ω H' z v' → Q v' H') : rSrt X v H Q := by
  have key : ∀ (c : Addr) (xs : List Str), v = .ref c → (SqL X.K H c (xs.map V.str) ∨ SqT X.K H c (xs.map V.str)) → xs.length < 64 → (∀ x ∈ xs, x.length ≤ sizeLine) → z = .lst ((sortS (dedS xs)).map .str) → rSrt X v H Q := by
    rintro c xs rfl hs h64 le rfl
    refine ⟨c, xs, rfl, hs, h64, fun p l hp nd ln mem => ⟨p, l, rfl, upd_same, Nat.lt_of_le_of_lt ln h64, fun p2 hp2 => ?_⟩⟩
    have pm : l.Perm (dedS xs) := by
      refine (TStr.perm_of_sub nd (fun x hx => (TStr.dedS_mem _).mpr ((mem x).mp hx)) ?_).symm
      have : (dedS xs).Nodup := TStr.dedS_nodup _
      exact (TStr.perm_of_sub_le this fun x hx => (mem x).mpr ((TStr.dedS_mem _).mp hx))
    rw [TStr.sortS_of_perm pm]
    have ne : p2 ≠ p := fun e => by rw [e, upd_same] at hp2; cases hp2
    have hn : H p2 = none := by rw [upd_ne ne] at hp2; exact hp2
    have s1 : Same H (upd H p (TStr.SetS X.prog X.w p l)) := same_new hp _
    have s2 : Same (upd H p (TStr.SetS X.prog X.w p l)) (upd (upd H p (TStr.SetS X.prog X.w p l)) p2 (.lst ((sortS (dedS xs)).map V.str))) := same_new hp2 _
    have tr2 : ∀ a, ω.wr a ≠ none → upd H p (TStr.SetS X.prog X.w p l) a ≠ none := fun a ha z => by
      have := tr a ha
      cases y : H a with
      | none => exact this y
      | some o => rw [s1 _ _ y] at z; cases z
    refine q _ _ (fun b u y => s2 b u (s1 b u y)) (rep_new_lst tr2 hp2 (rep_strs fun x hx => le x ?_) ?_)
    · exact (TStr.dedS_mem _).mp ((TStr.sortS_perm _).mem_iff.mp hx)
    · rw [List.length_map, (TStr.sortS_perm _).length_eq, ← pm.length_eq, sizeLine_eq]
      omega
  cases d with
  | lst ds =>
    simp only [o1, Option.bind_eq_some_iff] at e
    obtain ⟨ns, e1, e⟩ := e
    split at e
    · rename_i hl
      cases e
      obtain ⟨l1, a1, vs, rfl, s1, w1, r1⟩ := r
      have z := reps_strs e1 r1
      have le := reps_strs_le e1 r1
      subst z
      exact key a1 ns rfl (.inl (SqL.of s1)) hl le rfl
    · cases e
  | tup ds =>
    simp only [o1, Option.bind_eq_some_iff] at e
    obtain ⟨ns, e1, e⟩ := e
    split at e
    · rename_i hl
      cases e
      obtain ⟨l1, a1, vs, rfl, s1, r1⟩ := r
      have z := reps_strs e1 r1
      have le := reps_strs_le e1 r1
      subst z
      exact key a1 ns rfl (.inr s1) hl le rfl
    · cases e
  | _ => cases e
theorem pys_get : ∀ {ds : List D} {j : Nat}, (pys ds)[j]? = (ds[j]?).map D.py
  | [], j => by simp [pys]
  | d :: ds, 0 => by simp [pys]
  | d :: ds, j + 1 => by simp [pys, pys_get]
theorem mt_dIndex (hu : X.A.units + 65 < cLine) : MtR X "list.index" (rM X.kw (o2 .index)) := by
  refine mtr_imp (L2.mt_indexD hu) ?_
  rintro x xs H Q ⟨ω, a, b, d, tr, ra, rb0, e, q⟩
  obtain ⟨v, rfl, rb⟩ := rb0.one
  clear rb0
  unfold o2 at e
  split at e <;> try cases e
  all_goals try contradiction
  rename_i b _ _ _ ds _
  split at e
  · rename_i hc
    rw [Bool.and_eq_true] at hc
    obtain ⟨j, hj, rfl⟩ := Option.map_eq_some_iff.mp e
    obtain ⟨h1, h2, h3⟩ := List.findIdx?_eq_some_iff_getElem.mp hj
    have ra' := ra
    obtain ⟨l1, a1, vs, rfl, s1, w1, r1⟩ := ra
    refine ⟨a1, v, b.py, pys ds, j, ds[j].py, rfl, rfl, Rep.dp _ _ (.inl hc.2) ra', Rep.dp b v (.inl hc.1) rb, hc.2, hc.1, ?_, h2, fun m z hm hz => ?_, q H _ same_refl rfl⟩
    · rw [pys_get, List.getElem?_eq_getElem h1]
      rfl
    · have hml : m < ds.length := Nat.lt_trans hm h1
      rw [pys_get, List.getElem?_eq_getElem hml] at hz
      cases hz
      exact Bool.eq_false_iff.mpr (h3 m hm)
  · cases e
end
end TL

namespace TL
open PySem L2 PyProof.Rows

mutual
def deq : D → D → Bool
  | .non, .non => true
  | .bl a, .bl b => a == b
  | .int a, .int b => a == b
  | .str a, .str b => decide (a = b)
  | .tup a, .tup b => deqs a b
  | _, _ => false
def deqs : List D → List D → Bool
  | [], [] => true
  | a :: as, b :: bs => deq a b && deqs as bs
  | _, _ => false
end
mutual
theorem deq_eq : ∀ (a b : D), deq a b = true → a = b
  | .non, b, h => by cases b <;> first | rfl | (simp [deq] at h)
  | .bl x, b, h => by cases b <;> first | (simp [deq] at h; done) | (simp only [deq, beq_iff_eq] at h; rw [h])
  | .int x, b, h => by cases b <;> first | (simp [deq] at h; done) | (simp only [deq, beq_iff_eq] at h; rw [h])
  | .str x, b, h => by cases b <;> first | (simp [deq] at h; done) | (simp only [deq, decide_eq_true_eq] at h; rw [h])
  | .tup x, b, h => by cases b <;> first | (simp [deq] at h; done) | (simp only [deq] at h; rw [deqs_eq _ _ h])
  | .lst x, b, h => by simp [deq] at h
  | .fls x, b, h => by simp [deq] at h
  | .dic x, b, h => by simp [deq] at h
  | .ref x, b, h => by simp [deq] at h
  | .clo x y, b, h => by simp [deq] at h
  | .mlst x, b, h => by simp [deq] at h
  | .mset x, b, h => by simp [deq] at h
  | .mdic x, b, h => by simp [deq] at h
  | .ins x y, b, h => by simp [deq] at h
theorem deqs_eq : ∀ (a b : List D), deqs a b = true → a = b
  | [], b, h => by cases b <;> first | rfl | (simp [deqs] at h)
  | a :: as, b, h => by
    cases b with
    | nil => simp [deqs] at h
    | cons b bs =>
      simp only [deqs, Bool.and_eq_true] at h
      rw [deq_eq _ _ h.1, deqs_eq _ _ h.2]
end

/-- a class: its name, the fields of its things, its methods, its __init__ -/
structure CT where
  name : Str
  flds : List Str
  meths : List (Str × Nat)
  init : Nat
structure GT where
  fns : List Str
  consts : List (Str × D)
  blt : List Str
  cls : List CT
  excs : List Str
  subs : List (Nat × Nat × Bool)
/-- what a def promises: what its code gives -/
def spC (K : KW) (C : Cal) (cls : Nat → Value) (f : Nat) : Sp := fun vs H Q E => ∃ (ω : Wd) (st : Sto) (ds : List D) (dp : Nat), StoOk K ω st H ∧ Reps K ω H ds vs ∧ match C f ds st with
  | .ok d st' => ∀ ω' v H', Ext dp ω H ω' H' → StoOk K ω' st' H' → Rep K ω' H' d v → Q v H'
  | .exc c st' => ∀ ω' H', Ext dp ω H ω' H' → StoOk K ω' st' H' → E (cls c) none H'
  | .fail => False
structure Cok (X : Cx) (G : GT) (k : Nat) (C : Cal) (cls : Nat → Value) (N : List Str) (sc : Scope) (W : WX) : Prop where
  hN : X.N = N
  nd : N.Nodup
  hsc : X.env.scope = sc
  calm : X.calm = true
  room : Room k X.A
  tk : Takes X W
  fns : ∀ (i : Nat) (x : Str), G.fns[i]? = some x → x ≠ "" → ∃ (f : Addr) (fd : FuncData) (ps : List Str), FnOk X.prog X.w X.kw X.mg X.base (L2.CX X.prog X.w) k f fd ps (spC X.kw C cls i) ∧ X.mg x = some (.ref f) ∧ PySem.W.keepIn X.kw (.ref f) = true ∧ Binds X.kw fd ps []
  cst : ∀ (x : Str) (d : D), G.consts.lookup x = some d → ∃ u v, X.mg x = some u ∧ RelV v u ∧ ∀ ω H, Rep X.kw ω H d v
  blt : ∀ x ∈ G.blt, X.mg x = none
  room1 : Room (k + 1) X.A
  clss : ∀ ct ∈ G.cls, ∃ Ca, X.mg ct.name = some (.ref Ca) ∧ PySem.W.nsIn X.K mainGlobals ct.name = some (some (.ref Ca)) ∧ Cls X.K Ca ∧ (∀ f ∈ ct.flds, NoAttr X.K Ca f) ∧
    (∀ m i, (m, i) ∈ ct.meths → ∃ (g : Addr) (fd : FuncData) (ps : List Str), Meth X.K Ca m g ∧ FnOk X.prog X.w X.kw X.mg X.base (L2.CX X.prog X.w) k g fd ps (spC X.kw C cls i) ∧ Binds X.kw fd ps []) ∧
    ∃ (g : Addr) (fd : FuncData) (ps : List Str), Mk X.K Ca g ∧ FnOk X.prog X.w X.kw X.mg X.base (L2.CX X.prog X.w) k g fd ps (spC X.kw C cls ct.init) ∧ Binds X.kw fd ps []

def notStar : Expr → Bool
  | .Starred .. => false
  | _ => true
def attrOk : Expr → Bool
  | .Call (.Name ..) [] [] _ => false
  | _ => true
def notSlice : Expr → Bool
  | .Slice .. => false
  | _ => true
def notSet : Expr → Bool
  | .Set .. => false
  | _ => true
def notComp : Expr → Bool
  | .ListComp .. | .SetComp .. | .DictComp .. => false
  | _ => true
def plainTest : Expr → Bool
  | .UnaryOp .Not _ _ | .BoolOp .. | .IfExp .. | .Compare .. => false
  | _ => true
theorem star_of {e : Expr} (h : notStar e = true) (es : List Expr) (env : PySem.Env) : starEach (e :: es) env = (false, eval e env) :: starEach es env := by
  cases e <;> first | rfl | (simp [notStar] at h)
theorem stars_of {env : PySem.Env} {pos : Pos} : ∀ {es : List Expr}, es.all notStar = true → (backTo pos (starEach es env)).any (·.1) = false
  | [], _ => rfl
  | e :: es, h => by
    rw [List.all_cons, Bool.and_eq_true] at h
    rw [star_of h.1]
    show (false || (backTo pos (starEach es env)).any (·.1)) = false
    rw [stars_of h.2]
    rfl
theorem attr_ok {o : Expr} (h : attrOk o = true) (m : Str) (env : PySem.Env) : attributeBase o m env (eval o env) = eval o env := by
  unfold attributeBase
  split
  · simp [attrOk] at h
  · rfl
theorem slice_ok {b : Expr} (h : notSlice b = true) : PlainIx b := by
  intro o i
  cases b <;> first | rfl | (simp [notSlice] at h)
theorem set_ok {op : CmpOp} {b : Expr} (h : notSet b = true) : behindInMarks op b = false := by
  cases b <;> first | rfl | (simp [notSet] at h)
theorem swap_ok {e : Expr} (h : notComp e = true) (t : Option Expr) (l : Nat) (env : PySem.Env) : swapsWith e t l env = pure false := by
  cases e <;> first | rfl | (simp [notComp] at h)
theorem fold_ok {e : Expr} (h : notSet e = true) (env : PySem.Env) (x : Value) : foldedSetIterable e env x = pure x := by
  cases e <;> first | rfl | (simp [notSet] at h)
theorem test_ok {e : Expr} (h : plainTest e = true) (env : PySem.Env) (whole : Sem Value) : isTrue e env whole = (do let v ← whole; standAt e.pos; holding [v] (truthy v)) := by
  cases e with
  | UnaryOp op a p => cases op <;> first | rfl | (simp [plainTest] at h)
  | _ => first | rfl | (simp [plainTest] at h)

def vis (sc : Scope) (x : Str) : Bool := match sc.names.lookup x with
  | some .local | some .cell | some .free => true
  | _ => false
def glb (sc : Scope) (x : Str) : Bool := match sc.names.lookup x with
  | some .globalImplicit => true
  | _ => false
def nameOk (x : Str) : Bool := !(x == ("__debug__" : Str)) && !(x == ("__classdict__" : Str)) && !decide (x = "__name__")
theorem vis_of {X : Cx} {sc : Scope} {x : Str} (e : X.env.scope = sc) (h : vis sc x = true) : Vis X.env.scope x := by
  rw [e]
  unfold vis at h
  unfold Vis
  split at h
  · rename_i q; exact .inl q
  · rename_i q; exact .inr (.inl q)
  · rename_i q; exact .inr (.inr q)
  · cases h
theorem glb_of {X : Cx} {sc : Scope} {x : Str} (e : X.env.scope = sc) (h : glb sc x = true) : Gl X x := by
  unfold glb at h
  unfold Gl Env.kindOf
  rw [e]
  split at h
  · rename_i q; exact q
  · cases h
structure NameOk (x : Str) : Prop where
  d : (x == ("__debug__" : Str)) = false
  c : (x == ("__classdict__" : Str)) = false
  n : x ≠ "__name__"
theorem nameOk_of {x : Str} (h : nameOk x = true) : NameOk x := by
  unfold nameOk at h
  simp only [Bool.and_eq_true, Bool.not_eq_true', decide_eq_false_iff_not] at h
  exact ⟨h.1.1, h.1.2, h.2⟩
def conOk : D → Const → Bool
  | .non, .none => true
  | .bl b, .bool c => b == c
  | .int i, .int j => i == j
  | .str x, .str y => decide (x = y) && decide (x.length ≤ sizeLine)
  | _, _ => false
/-- a dict display's keys: texts -/
def dicKeys : List Str → List (Option Expr) → Bool
  | [], [] => true
  | k :: ks, some (.Constant (.str x) _ _) :: es => decide (x = k) && decide (k.length ≤ sizeLine) && dicKeys ks es
  | _, _ => false
def binOf : O2 → Option Operator
  | .add => some .Add | .sub => some .Sub | .mul => some .Mult | .div => some .FloorDiv | .mod => some .Mod
  | _ => none
def cmpOf : O2 → Option CmpOp
  | .eq => some .Eq | .ne => some .NotEq | .lt => some .Lt | .le => some .LtE | .gt => some .Gt | .ge => some .GtE | .isIn => some .In | .notIn => some .NotIn | .isB => some .Is | .isNotB => some .IsNot
  | _ => none
def o1Call : O1 → Option Str
  | .len => some "len" | .tuple => some "tuple" | .list => some "list" | .sum => some "sum" | .all => some "all" | .int => some "int" | .str => some "str" | .sorted => some "sorted" | .max => some "max" | .min => some "min"
  | _ => none
def o2Call : O2 → Option Str
  | .max => some "max" | .min => some "min"
  | _ => none
def o2Meth : O2 → Option Str
  | .join => some "join" | .split => some "split"
  | _ => none
def o2LMeth : O2 → Option Str
  | .index => some "index"
  | _ => none
def isiOf : O1 → Option (String × Str)
  | .isStr => some ("str", "str") | .isInt => some ("int", "int") | .isBool => some ("bool", "bool") | .isTuple => some ("tuple", "tuple")
  | _ => none
def ikNames : IK → Option Str
  | .rng => some "range" | .enumT => some "enumerate" | .enumL => some "enumerate"
  | _ => none
/-- a name that may be stored to: a local one; in a def's own frame also one that others see -/
def lcl (df : Bool) (sc : Scope) (x : Str) : Bool := match sc.names.lookup x with
  | some .local => true
  | some .cell => df
  | _ => false
def tgOk (df : Bool) (N : List Str) (sc : Scope) (own : List Nat) : T → Expr → Bool
  | .nm i, .Name x _ => decide (N[i]? = some x) && decide (i ∈ own) && lcl df sc x
  | .tp is, .Tuple es _ _ => tgs is es
  | _, _ => false
where tgs : List Nat → List Expr → Bool
  | [], [] => true
  | i :: is, .Name x _ :: es => decide (N[i]? = some x) && decide (i ∈ own) && lcl df sc x && tgs is es
  | _, _ => false
def fre (G : GT) (sc : Scope) (x : Str) : Bool := glb sc x && decide (x ∈ G.blt) && nameOk x
/-- what a for walks: the expressions to be looked at -/
def itArgs (G : GT) (sc : Scope) : IK → T → Expr → Option (List Expr)
  | .rng, _, .Call (.Name y _) es [] _ => if decide (y = "range") && fre G sc y && (decide (es.length = 1) || decide (es.length = 2)) then some es else none
  | .enumT, .tp _, .Call (.Name y _) es [] _ => if decide (y = "enumerate") && fre G sc y && decide (es.length = 1) then some es else none
  | .enumL, .tp _, .Call (.Name y _) es [] _ => if decide (y = "enumerate") && fre G sc y && decide (es.length = 1) then some es else none
  | .tup, _, it => some [it]
  | .lst, _, it => some [it]
  | .fls, _, it => some [it]
  | .str, _, it => some [it]
  | _, _, _ => none
mutual
def chkE (N : List Str) (G : GT) : E → Scope → Expr → Bool
  | .var i, sc, e => match e with
    | .Name x _ => decide (N[i]? = some x) && vis sc x && nameOk x
    | _ => false
  | .con d, sc, e => match e with
    | .Constant c _ _ => conOk d c
    | .Name x _ => glb sc x && nameOk x && (match G.consts.lookup x with
      | some d' => deq d' d
      | none => false)
    | .UnaryOp .USub (.Constant (.int j) _ _) _ => (match d with | .int i => decide (i = -j) | _ => false)
    | _ => false
  | .tup ms, sc, e => match e with
    | .Tuple es _ _ => decide (es.length ≤ 1000) && chkEs N G ms sc es
    | _ => false
  | .lst ms, sc, e => match e with
    | .List es _ => decide (es.length ≤ 1000) && chkEs N G ms sc es
    | _ => false
  | .dic ks ms, sc, e => match e with
    | .Dict keys values _ => dicKeys ks keys && chkEs N G ms sc values && !ks.isEmpty && decide (ks.length ≤ 15) && decide (ks.length = ms.length) && decide ks.Nodup
    | _ => false
  | .o1 o m, sc, e => match e with
    | .Call (.Name x _) [a] [] _ => (match o1Call o with | some y => decide (x = y) | none => false) && fre G sc x && chkE N G m sc a && notStar a
    | .Call (.Name x _) [a, .Name y _] [] _ => decide (x = "isinstance") && fre G sc x && (match isiOf o with | some p => decide (y = p.2) | none => false) && fre G sc y && chkE N G m sc a && notStar a
    | .Compare a [.Is] [.Constant .none _ _] _ => (match o with | .isNone => true | _ => false) && chkE N G m sc a
    | .Compare a [.IsNot] [.Constant .none _ _] _ => (match o with | .notNone => true | _ => false) && chkE N G m sc a
    | .Subscript a (.Slice none none (some (.UnaryOp .USub (.Constant (.int j) _ _) _)) _) _ => (match o with | .rev => decide (j = 1) | _ => false) && chkE N G m sc a
    | _ => false
  | .o2 o m n, sc, e => match e with
    | .BinOp a op b _ => decide (binOf o = some op) && chkE N G m sc a && chkE N G n sc b
    | .Compare a [op] [b] _ => decide (cmpOf o = some op) && notSet b && chkE N G m sc a && chkE N G n sc b
    | .Subscript a b _ => (match o with | .ix => true | _ => false) && notSlice b && chkE N G m sc a && chkE N G n sc b
    | .Call (.Name x _) [a, b] [] _ => (match o2Call o with | some y => decide (x = y) | none => false) && fre G sc x && chkE N G m sc a && notStar a && chkE N G n sc b && notStar b
    | _ => false
  | .sm o m n, sc, e => match e with
    | .Call (.Attribute a x apos) [b] [] pos => (match o2Meth o with | some y => decide (x = y) | none => false) && attrOk a && (apos.endLine == pos.line) && chkE N G m sc a && chkE N G n sc b && notStar b
    | _ => false
  | .chain o o' m n k, sc, e => match e with
    | .Compare a [op, op'] [b, c] _ => decide (cmpOf o = some op) && decide (cmpOf o' = some op') && notSet b && notSet c && chkE N G m sc a && chkE N G n sc b && chkE N G k sc c
    | _ => false
  | .and ms, sc, e => match e with
    | .BoolOp .And es _ => chkEs N G ms sc es && !es.isEmpty
    | _ => false
  | .or ms, sc, e => match e with
    | .BoolOp .Or es _ => chkEs N G ms sc es && !es.isEmpty
    | _ => false
  | .not m, sc, e => match e with
    | .UnaryOp .Not a _ => chkE N G m sc a
    | _ => false
  | .ife m n k, sc, e => match e with
    | .IfExp c a b _ => chkE N G m sc c && chkE N G n sc a && chkE N G k sc b
    | _ => false
  | .call f ms, sc, e => match e with
    | .Call (.Name x _) es [] _ => decide (G.fns[f]? = some x) && glb sc x && nameOk x && !es.isEmpty && chkEs N G ms sc es && decide (x ≠ "")
    | _ => false
  | .sl m lo hi, sc, e => match e with
    | .Subscript a (.Slice none none none _) _ => lo.isEmpty && hi.isEmpty && chkE N G m sc a
    | .Subscript a (.Slice (some l) none none _) _ => (decide (lo.length = 1)) && hi.isEmpty && chkE N G m sc a && chkEs N G lo sc [l]
    | .Subscript a (.Slice none (some h) none _) _ => lo.isEmpty && (decide (hi.length = 1)) && chkE N G m sc a && chkEs N G hi sc [h]
    | .Subscript a (.Slice (some l) (some h) none _) _ => (decide (lo.length = 1)) && (decide (hi.length = 1)) && chkE N G m sc a && chkEs N G lo sc [l] && chkEs N G hi sc [h]
    | _ => false
  | .dget m n k, sc, e => match e with
    | .Call (.Attribute a x apos) [b, f] [] pos => decide (x = "get") && attrOk a && (apos.endLine == pos.line) && chkE N G m sc a && chkE N G n sc b && notStar b && chkE N G k sc f && notStar f
    | _ => false
  | .lc elt tg ik ie cond own, sc, e => match e with
    | .ListComp x [⟨t, it, ifs, 0⟩] scope _ => blkC N sc scope (own.map fun (i : Nat) => ((N[i]?).getD ("" : Str), i)) && tgOk false N (relS scope sc) own tg t && notSet it && decide (cond.length = ifs.length) && decide (ifs.length ≤ 1) &&
        chkE N G elt (relS scope sc) x && chkEs N G cond (relS scope sc) ifs &&
        (match itArgs G sc ik tg it with
          | some es => chkEs N G ie sc es
          | none => false)
    | _ => false
  | .inOwn neg m i, sc, e => match e with
    | .Compare a [op] [.Name x _] _ => decide (op = if neg then .NotIn else .In) && chkE N G m sc a && decide (N[i]? = some x) && vis sc x && nameOk x
    | _ => false
  | .srt m, sc, e => match e with
    | .Call (.Name x _) [.Call (.Name y _) [a] [] _] [] _ => decide (x = "sorted") && fre G sc x && decide (y = "set") && fre G sc y && chkE N G m sc a && notStar a
    | _ => false
  | .fld c m f, sc, e => match e with
    | .Attribute a f' pos => decide (f' = f) && attrOk a && (G.cls.any fun ct => decide (ct.name = c) && decide (f ∈ ct.flds)) && chkE N G m sc a
    | _ => false
  | .meth i c mn m ms, sc, e => match e with
    | .Call (.Attribute (.Name x p) f' apos) es [] pos => decide (f' = mn) && (apos.endLine == pos.line) && decide (es.length < 29) && (G.cls.any fun ct => decide (ct.name = c) && decide ((mn, i) ∈ ct.meths)) && chkE N G m sc (.Name x p) && chkEs N G ms sc es
    | _ => false
  | .make i c ms, sc, e => match e with
    | .Call (.Name x p) es [] pos => decide (x = c) && glb sc x && nameOk x && !es.isEmpty && (G.cls.any fun ct => decide (ct.name = c) && decide (ct.init = i)) && chkEs N G ms sc es
    | _ => false
  | .minN m, sc, e => match e with
    | .Call (.Name x _) [a] [⟨some nm, .Constant .none _ _, _⟩] _ => decide (x = "min") && fre G sc x && decide (nm = "default") && chkE N G m sc a && notStar a
    | _ => false
  | .lm o m n, sc, e => match e with
    | .Call (.Attribute a x apos) [b] [] pos => (match o2LMeth o with | some y => decide (x = y) | none => false) && attrOk a && (apos.endLine == pos.line) && chkE N G m sc a && chkE N G n sc b && notStar b
    | _ => false
def chkEs (N : List Str) (G : GT) : List E → Scope → List Expr → Bool
  | [], _, es => es.isEmpty
  | m :: ms, sc, es => match es with
    | e :: es => chkE N G m sc e && notStar e && chkEs N G ms sc es
    | [] => false
end
end TL

namespace TL
open PySem L2 PyProof.Rows

/-- a reading by what is done -/
def tEf (K : KW) (dp : Nat) (W : WX) (cls : Nat → Value) (f : Env → Sto → R D) : TE := fun σ H Q => ∃ ω ρ st, Loc K ω dp ρ σ H ∧ StoOk K ω st H ∧
  Post K dp W cls σ ω H (f ρ st) fun d _ ω' H' => ∀ v, Rep K ω' H' d v → Q v H'
def tTf (K : KW) (dp : Nat) (W : WX) (cls : Nat → Value) (f : Env → Sto → R D) : TT := fun σ H Q => ∃ ω ρ st, Loc K ω dp ρ σ H ∧ StoOk K ω st H ∧
  Post K dp W cls σ ω H (f ρ st) fun d _ ω' H' => ∃ b, d = .bl b ∧ Q b H'
def SndE (N : List Str) (G : GT) (k : Nat) (C : Cal) (cls : Nat → Value) (dp : Nat) (m : E) : Prop := ∀ (X : Cx) (sc : Scope) (W : WX) (e : Expr), Cok X G k C cls N sc W → chkE N G m sc e = true → PE X e (tE X.kw C dp W cls m) ∧ PT X e (tT X.kw C dp W cls m)
def SndEs (N : List Str) (G : GT) (k : Nat) (C : Cal) (cls : Nat → Value) (dp : Nat) (ms : List E) : Prop := ∀ (X : Cx) (sc : Scope) (W : WX) (es : List Expr), Cok X G k C cls N sc W → chkEs N G ms sc es = true → PA X es (tEs X.kw C dp W cls ms) ∧ es.all notStar = true

section
variable {X : Cx} {N : List Str} {G : GT} {k : Nat} {C : Cal} {cls : Nat → Value} {dp : Nat} {sc : Scope} {W : WX} {e : Expr} {es : List Expr} {m a b : E} {ms : List E}
theorem pt_of {f : Env → Sto → R D} (h : PE X e (tEf X.kw dp W cls f)) (p : plainTest e = true) : PT X e (tTf X.kw dp W cls f) := by
  refine pt_imp (pt_val h (test_ok p X.env)) ?_
  rintro σ H Q ⟨ω, ρ, st, hl, hs, hp⟩
  refine ⟨ω, ρ, st, hl, hs, hp.mono ?_⟩
  rintro d st' ω' H' x s ⟨b, rfl, q⟩ v r
  exact ⟨b, r, q⟩
theorem both_of (h : PE X e (tE X.kw C dp W cls m)) (p : plainTest e = true) : PE X e (tE X.kw C dp W cls m) ∧ PT X e (tT X.kw C dp W cls m) := ⟨h, pt_of h p⟩
theorem units_of (c : Cok X G k C cls N sc W) : X.A.units + 65 < cLine := by have := c.room.un; omega

theorem snd_var (i : Nat) : SndE N G k C cls dp (.var i) := by
  intro X sc W e c h
  unfold chkE at h
  split at h
  · rename_i x pos
    simp only [Bool.and_eq_true, decide_eq_true_eq] at h
    have nm := nameOk_of h.2
    refine both_of (pe_imp (pe_var (X := X) (i := i) (by rw [c.hN]; exact h.1.1) (vis_of c.hsc h.1.2) nm.d nm.c) ?_) rfl
    rintro σ H Q ⟨ω, ρ, st, hl, hs, hp⟩
    unfold ev at hp
    split at hp
    · rename_i d hd
      split at hp
      · exact hp.elim
      · rename_i ho
        obtain ⟨v, e1, r⟩ := hl.at_ i d hd
        exact ⟨v, e1, hp ω H .refl hs v (r.rep (by simpa using ho))⟩
    · exact hp.elim
  · cases h
theorem snd_con (d : D) : SndE N G k C cls dp (.con d) := by
  intro X sc W e c h
  unfold chkE at h
  have fin : ∀ (v : V), (∀ ω H, Rep X.kw ω H d v) → PE X e (tC v) → PE X e (tE X.kw C dp W cls (.con d)) := fun v r h => pe_imp h (by
    rintro σ H Q ⟨ω, ρ, st, hl, hs, hp⟩
    unfold ev at hp
    exact hp ω H .refl hs v (r ω H))
  split at h
  · rename_i cc j pos
    cases d <;> cases cc <;> first | (simp [conOk] at h; done) | skip
    · exact both_of (fin .non (fun _ _ => rfl) pe_non) rfl
    · simp only [conOk, beq_iff_eq] at h
      subst h
      exact both_of (fin (.bl _) (fun _ _ => rfl) pe_bl) rfl
    · simp only [conOk, beq_iff_eq] at h
      subst h
      exact both_of (fin (.int _) (fun _ _ => rfl) pe_int) rfl
    · simp only [conOk, Bool.and_eq_true, decide_eq_true_eq] at h
      obtain ⟨h1, h2⟩ := h
      subst h1
      exact both_of (fin (.str _) (fun _ _ => ⟨rfl, h2⟩) pe_str) rfl
  · rename_i x pos
    simp only [Bool.and_eq_true] at h
    have nm := nameOk_of h.1.2
    cases q : G.consts.lookup x with
    | none => rw [q] at h; simp at h
    | some d' =>
      rw [q] at h
      have e1 := deq_eq _ _ h.2
      subst e1
      obtain ⟨u, v, hm, r, hr⟩ := c.cst x d' q
      exact both_of (fin v hr (pe_glob (glb_of c.hsc h.1.1) hm r nm.d)) rfl
  · rename_i j jj p1 p2
    cases d <;> first | (cases h; done) | skip
    simp only [decide_eq_true_eq] at h
    subst h
    refine both_of (pe_imp (pe_un un_neg pe_int) ?_) rfl
    rintro σ H Q ⟨ω, ρ, st, hl, hs, hp⟩
    unfold ev at hp
    exact ⟨j, rfl, hp ω H .refl hs _ rfl⟩
  · cases h

theorem snd_es : ∀ {ms : List E}, (∀ m ∈ ms, SndE N G k C cls dp m) → SndEs N G k C cls dp ms
  | [], _ => by
    intro X sc W es c h
    unfold chkEs at h
    have e : es = [] := by cases es <;> first | rfl | simp at h
    subst e
    refine ⟨pa_imp pa_nil ?_, rfl⟩
    rintro σ H Q ⟨ω, ρ, st, hl, hs, hp⟩
    unfold evs at hp
    exact hp ω H .refl hs [] rfl
  | m :: ms, hm => by
    intro X sc W es c h
    unfold chkEs at h
    cases es with
    | nil => cases h
    | cons e es =>
      simp only [Bool.and_eq_true] at h
      obtain ⟨h1, h2⟩ := snd_es (fun m h => hm m (List.mem_cons_of_mem _ h)) X sc W es c h.2
      refine ⟨pa_imp (pa_cons (hm m List.mem_cons_self X sc W e c h.1.1).1 h1 (star_of h.1.2 es X.env)) ?_, by rw [List.all_cons, h.1.2, h2]; rfl⟩
      rintro σ H Q ⟨ω, ρ, st, hl, hs, hp⟩
      unfold evs at hp
      refine ⟨ω, ρ, st, hl, hs, (Post.bind hp).mono fun d st1 ω1 H1 x1 s1 q1 v r1 => ⟨ω1, ρ, st1, hl.ext x1, s1, (Post.bind q1).mono fun ds st2 ω2 H2 x2 s2 q2 vs r2 => ?_⟩⟩
      exact q2 ω2 H2 .refl s2 (v :: vs) ⟨v, vs, rfl, r1.ext x2, r2⟩

theorem evs_length {C : Cal} : ∀ {ms : List E} {ρ : Env} {st st' : Sto} {ds : List D}, evs C ms ρ st = .ok ds st' → ds.length = ms.length
  | [], ρ, st, st', ds, h => by
    unfold evs at h
    cases h
    rfl
  | m :: ms, ρ, st, st', ds, h => by
    unfold evs at h
    cases q : ev C m ρ st with
    | ok d st1 =>
      rw [q] at h
      cases q2 : evs C ms ρ st1 with
      | ok ds2 st2 =>
        have h : (R.bind (evs C ms ρ st1) fun ds st => .ok (d :: ds) st) = .ok ds st' := h
        rw [q2] at h
        cases h
        rw [List.length_cons, List.length_cons, evs_length q2]
      | exc c st2 =>
        have h : (R.bind (evs C ms ρ st1) fun ds st => .ok (d :: ds) st) = .ok ds st' := h
        rw [q2] at h; cases h
      | fail =>
        have h : (R.bind (evs C ms ρ st1) fun ds st => .ok (d :: ds) st) = .ok ds st' := h
        rw [q2] at h; cases h
    | exc c st1 => rw [q] at h; cases h
    | fail => rw [q] at h; cases h
theorem chkEs_length : ∀ {ms : List E} {es : List Expr}, chkEs N G ms sc es = true → es.length = ms.length
  | [], es, h => by
    unfold chkEs at h
    cases es <;> first | rfl | simp at h
  | m :: ms, es, h => by
    unfold chkEs at h
    cases es with
    | nil => cases h
    | cons e es =>
      simp only [Bool.and_eq_true] at h
      rw [List.length_cons, List.length_cons, chkEs_length h.2]
/-- the length of what is told, too -/
theorem Post.len {ω : Wd} {H : Hp} {σ : L2.St} {K : KW} {ρ : Env} {st : Sto} {P : List D → Sto → Wd → Hp → Prop} (h : Post K dp W cls σ ω H (evs C ms ρ st) P) :
    Post K dp W cls σ ω H (evs C ms ρ st) fun ds st' ω' H' => ds.length = ms.length ∧ P ds st' ω' H' := by
  cases q : evs C ms ρ st with
  | ok ds st' =>
    rw [q] at h
    exact fun ω' H' x s => ⟨evs_length q, h ω' H' x s⟩
  | exc c st' => rw [q] at h; exact h
  | fail => rw [q] at h; exact h
theorem le_line {n : Nat} (h : n ≤ 1000) : n ≤ sizeLine := by rw [sizeLine_eq]; omega
theorem snd_tup (hm : ∀ m ∈ ms, SndE N G k C cls dp m) : SndE N G k C cls dp (.tup ms) := by
  intro X sc W e c h
  unfold chkE at h
  split at h
  · simp only [Bool.and_eq_true, decide_eq_true_eq] at h
    obtain ⟨h1, h2⟩ := snd_es hm X sc W _ c h.2
    have hl := chkEs_length h.2
    refine both_of (pe_imp (pe_tup h1) ?_) rfl
    rintro σ H Q ⟨ω, ρ, st, hl1, hs, hp⟩
    unfold ev at hp
    refine ⟨ω, ρ, st, hl1, hs, (Post.bind hp).len.mono fun ds st1 ω1 H1 x1 s1 ⟨ln, q1⟩ vs r1 => ⟨?_, fun p hp => ?_⟩⟩
    · rw [r1.length, ln, ← hl]
      exact le_line h.1
    · exact q1 ω1 (upd H1 p (.tup vs)) (.ofGrow s1 (same_new hp _)) (s1.grow (same_new hp _)) _ (rep_new_tup hp r1 (by rw [ln, ← hl]; exact le_line h.1))
  · cases h
theorem snd_lst (hm : ∀ m ∈ ms, SndE N G k C cls dp m) : SndE N G k C cls dp (.lst ms) := by
  intro X sc W e c h
  unfold chkE at h
  split at h
  · simp only [Bool.and_eq_true, decide_eq_true_eq] at h
    obtain ⟨h1, h2⟩ := snd_es hm X sc W _ c h.2
    have hl := chkEs_length h.2
    refine both_of (pe_imp (pe_lst h1) ?_) rfl
    rintro σ H Q ⟨ω, ρ, st, hl1, hs, hp⟩
    unfold ev at hp
    refine ⟨ω, ρ, st, hl1, hs, (Post.bind hp).len.mono fun ds st1 ω1 H1 x1 s1 ⟨ln, q1⟩ vs r1 => ⟨?_, fun p hp => ?_⟩⟩
    · rw [r1.length, ln, ← hl]
      exact le_line h.1
    · exact q1 ω1 (upd H1 p (.lst vs)) (.ofGrow s1 (same_new hp _)) (s1.grow (same_new hp _)) _ (rep_new_lst s1.trk hp r1 (by rw [ln, ← hl]; exact le_line h.1))
  · cases h

/-- an operator's reading -/
theorem rB_of {K : KW} {σ : L2.St} {ω : Wd} {H : Hp} {st : Sto} {g : D → D → Option D} {x y : D} {v w : V} {Q : VK} {P : D → Sto → Wd → Hp → Prop} (s : StoOk K ω st H) (rx : Rep K ω H x v) (ry : Rep K ω H y w)
    (h : Post K dp W cls σ ω H (R.lift st (g x y)) P) (i : ∀ d ω' H', Ext (dp + 1) ω H ω' H' → StoOk K ω' st H' → P d st ω' H' → ∀ v, Rep K ω' H' d v → Q v H') : rB K g v w H Q := by
  obtain ⟨d, e, q⟩ := Post.lift h
  exact ⟨ω, x, y, d, s.trk, rx, ry, e, fun H' v' gr r => i d ω H' (.ofGrow s gr) (s.grow gr) (q ω H' (.ofGrow s gr) (s.grow gr)) v' r⟩
theorem rC_of {K : KW} {σ : L2.St} {ω : Wd} {H : Hp} {st : Sto} {g : D → Option D} {x : D} {v : V} {Q : VK} {P : D → Sto → Wd → Hp → Prop} (s : StoOk K ω st H) (rx : Rep K ω H x v)
    (h : Post K dp W cls σ ω H (R.lift st (g x)) P) (i : ∀ d ω' H', Ext (dp + 1) ω H ω' H' → StoOk K ω' st H' → P d st ω' H' → ∀ v, Rep K ω' H' d v → Q v H') : rC K g [v] H Q := by
  obtain ⟨d, e, q⟩ := Post.lift h
  exact ⟨ω, x, d, s.trk, ⟨v, [], rfl, rx, rfl⟩, e, fun H' v' gr r => i d ω H' (.ofGrow s gr) (s.grow gr) (q ω H' (.ofGrow s gr) (s.grow gr)) v' r⟩

theorem o1_call {o : O1} {x : Str} (c : Cok X G k C cls N sc W) (h : o1Call o = some x) : (∃ id, bootBuiltins x = some (.builtin id) ∧ CallR X (.builtin id) (rC X.kw (o1 o))) ∨ ∃ T, bootBuiltins x = some (.type T) ∧ CallR X (.type T) (rC X.kw (o1 o)) := by
  cases o <;> cases h
  · exact .inl ⟨_, PySem.boot_len, cr_len⟩
  · exact .inr ⟨_, by decide +kernel, cr_tuple⟩
  · exact .inr ⟨_, by decide +kernel, cr_list⟩
  · exact .inl ⟨_, by decide +kernel, cr_dsum c.calm⟩
  · exact .inl ⟨_, by decide +kernel, cr_dall c.calm⟩
  · exact .inr ⟨_, by decide +kernel, cr_dint⟩
  · exact .inr ⟨_, by decide +kernel, cr_dstr⟩
  · exact .inl ⟨_, by decide +kernel, cr_dsorted⟩
  · exact .inl ⟨_, by decide +kernel, cr_dmax c.calm⟩
  · exact .inl ⟨_, by decide +kernel, cr_dmin c.calm⟩
structure Fre (X : Cx) (x : Str) : Prop where
  g : Gl X x
  m : X.mg x = none
  n : NameOk x
theorem fre_of {x : Str} (c : Cok X G k C cls N sc W) (h : fre G sc x = true) : Fre X x := by
  unfold fre at h
  simp only [Bool.and_eq_true, decide_eq_true_eq] at h
  exact ⟨glb_of c.hsc h.1.1, c.blt x h.1.2, nameOk_of h.2⟩
theorem isi_of {o : O1} {p : String × Str} (h : isiOf o = some p) : isO p.1 = some o ∧ bootBuiltins p.2 = some (.type p.1) := by
  cases o <;> cases h <;> exact ⟨rfl, by decide +kernel⟩
theorem boot_isinstance' : bootBuiltins "isinstance" = some (.builtin "isinstance") := by decide +kernel
theorem snd_o1 {o : O1} (hm : SndE N G k C cls dp m) : SndE N G k C cls dp (.o1 o m) := by
  intro X sc W e c h
  unfold chkE at h
  split at h
  · rename_i x p1 a p2
    simp only [Bool.and_eq_true] at h
    obtain ⟨⟨⟨h1, h2⟩, h3⟩, h4⟩ := h
    have F := fre_of c h2
    cases q : o1Call o with
    | none => rw [q] at h1; cases h1
    | some y =>
      rw [q] at h1
      have e1 : x = y := of_decide_eq_true h1
      subst e1
      have A : PA X [a] (tCons (tE X.kw C dp W cls m) tNil) := pa_cons (hm X sc W a c h3).1 pa_nil (star_of h4 [] X.env)
      have fin : ∀ σ H Q, tE X.kw C dp W cls (.o1 o m) σ H Q → tCB (rC X.kw (o1 o)) (tCons (tE X.kw C dp W cls m) tNil) σ H Q := by
        rintro σ H Q ⟨ω, ρ, st, hl, hs, hp⟩
        unfold ev at hp
        refine ⟨ω, ρ, st, hl, hs, (Post.bind hp).mono fun d st1 ω1 H1 x1 s1 q1 v r1 => ?_⟩
        exact rC_of s1 r1 q1 fun d ω' H' x' s' P => P
      rcases o1_call c q with ⟨id, hb, hc⟩ | ⟨T, hb, hc⟩
      · exact both_of (pe_imp (pe_callB hc F.g F.m hb A F.n.n F.n.d (star_of h4 [] X.env) rfl) fin) rfl
      · exact both_of (pe_imp (pe_callTy hc F.g F.m hb A F.n.n F.n.d (star_of h4 [] X.env) rfl) fin) rfl
  · rename_i x p1 a y p2 p3
    simp only [Bool.and_eq_true, decide_eq_true_eq] at h
    obtain ⟨⟨⟨⟨⟨h0, h1⟩, h2⟩, h3⟩, h4⟩, h5⟩ := h
    subst h0
    have F := fre_of c h1
    have F2 := fre_of c h3
    cases q : isiOf o with
    | none => rw [q] at h2; cases h2
    | some p =>
      rw [q] at h2
      have e1 : y = p.2 := of_decide_eq_true h2
      obtain ⟨i1, i2⟩ := isi_of q
      rw [← e1] at i2
      have B : PE X (.Name y p2) (tC (.ty p.1)) := pe_bltn F2.g F2.m i2 rfl F2.n.n F2.n.d
      have A : PA X [a, .Name y p2] (tCons (tE X.kw C dp W cls m) (tCons (tC (.ty p.1)) tNil)) := pa_cons (hm X sc W a c h4).1 (pa_cons B pa_nil rfl) (star_of h5 _ X.env)
      refine both_of (pe_imp (pe_callB (cr_isi i1) F.g F.m boot_isinstance' A F.n.n F.n.d (star_of h5 _ X.env) rfl) ?_) rfl
      rintro σ H Q ⟨ω, ρ, st, hl, hs, hp⟩
      unfold ev at hp
      refine ⟨ω, ρ, st, hl, hs, (Post.bind hp).mono fun d st1 ω1 H1 x1 s1 q1 v r1 => ?_⟩
      exact ⟨v, rfl, rC_of s1 r1 q1 fun d ω' H' x' s' P => P⟩
  · rename_i a j p1 p2
    simp only [Bool.and_eq_true] at h
    cases o <;> first | (simp at h; done) | skip
    have key : ∀ σ H Q, tE X.kw C dp W cls (.o1 .isNone m) σ H Q → tIsN (tE X.kw C dp W cls m) σ H Q := by
      rintro σ H Q ⟨ω, ρ, st, hl, hs, hp⟩
      unfold ev at hp
      refine ⟨ω, ρ, st, hl, hs, (Post.bind hp).mono fun d st1 ω1 H1 x1 s1 q1 v r1 => ?_⟩
      obtain ⟨d2, e2, q2⟩ := Post.lift q1
      have q3 := q2 ω1 H1 .refl s1
      cases d <;> first | (cases e2; done) | (cases e2; first | (cases r1; exact q3 _ rfl) | (obtain ⟨rfl, _⟩ := r1; exact q3 _ rfl) | (obtain ⟨_, a, vs, rfl, _⟩ := r1; exact q3 _ rfl) | (obtain ⟨a, _, rfl⟩ := r1; exact q3 _ rfl) | exact r1.elim)
    refine ⟨pe_imp (pe_cmp (pc_isN (hm X sc W a c h.2).1) (set_ok rfl)) key, pt_imp (pt_cmp (pc_isN (hm X sc W a c h.2).1) (set_ok rfl)) ?_⟩
    rintro σ H Q ⟨ω, ρ, st, hl, hs, hp⟩
    refine key σ H _ ⟨ω, ρ, st, hl, hs, hp.mono ?_⟩
    rintro d st' ω' H' x s ⟨b, rfl, q⟩ v r
    exact ⟨b, r, q⟩
  · rename_i a j p1 p2
    simp only [Bool.and_eq_true] at h
    cases o <;> first | (simp at h; done) | skip
    have key : ∀ σ H Q, tE X.kw C dp W cls (.o1 .notNone m) σ H Q → tNotN (tE X.kw C dp W cls m) σ H Q := by
      rintro σ H Q ⟨ω, ρ, st, hl, hs, hp⟩
      unfold ev at hp
      refine ⟨ω, ρ, st, hl, hs, (Post.bind hp).mono fun d st1 ω1 H1 x1 s1 q1 v r1 => ?_⟩
      obtain ⟨d2, e2, q2⟩ := Post.lift q1
      have q3 := q2 ω1 H1 .refl s1
      cases d <;> first | (cases e2; done) | (cases e2; first | (cases r1; exact q3 _ rfl) | (obtain ⟨rfl, _⟩ := r1; exact q3 _ rfl) | (obtain ⟨_, a, vs, rfl, _⟩ := r1; exact q3 _ rfl) | (obtain ⟨a, _, rfl⟩ := r1; exact q3 _ rfl) | exact r1.elim)
    refine ⟨pe_imp (pe_cmp (pc_notN (hm X sc W a c h.2).1) (set_ok rfl)) key, pt_imp (pt_cmp (pc_notN (hm X sc W a c h.2).1) (set_ok rfl)) ?_⟩
    rintro σ H Q ⟨ω, ρ, st, hl, hs, hp⟩
    refine key σ H _ ⟨ω, ρ, st, hl, hs, hp.mono ?_⟩
    rintro d st' ω' H' x s ⟨b, rfl, q⟩ v r
    exact ⟨b, r, q⟩
  · rename_i a j jj p1 p2 p3 p4
    simp only [Bool.and_eq_true] at h
    cases o <;> first | (simp at h; done) | skip
    simp only [decide_eq_true_eq] at h
    obtain ⟨rfl, h2⟩ := h
    refine both_of (pe_imp (pe_back (hm X sc W a c h2).1) ?_) rfl
    rintro σ H Q ⟨ω, ρ, st, hl, hs, hp⟩
    unfold ev at hp
    refine ⟨ω, ρ, st, hl, hs, (Post.bind hp).mono fun d st1 ω1 H1 x1 s1 q1 v r1 => ?_⟩
    obtain ⟨d2, e2, q2⟩ := Post.lift q1
    cases d <;> first | (cases e2; done) | skip
    cases e2
    obtain ⟨ln, a2, vs, rfl, sq, rs⟩ := r1
    refine ⟨a2, vs, rfl, sq, fun p hp => ?_⟩
    exact q2 ω1 _ (.ofGrow s1 (same_new hp _)) (s1.grow (same_new hp _)) _ (rep_new_tup hp rs.reverse (by rw [List.length_reverse]; exact ln))
  · cases h
/-- min(xs, default=None), whole numbers -/
theorem minOf_int : ∀ (ys : List Int) (y : Int), (PySem.W.minOf y ys = y ∨ PySem.W.minOf y ys ∈ ys) ∧ PySem.W.minOf y ys ≤ y ∧ ∀ z ∈ ys, PySem.W.minOf y ys ≤ z
  | [], y => ⟨.inl rfl, Int.le_refl _, fun _ h => nomatch h⟩
  | x :: ys, y => by
    have e : PySem.W.minOf y (x :: ys) = PySem.W.minOf (if decide (x < y) = true then x else y) ys := rfl
    obtain ⟨a, b, c⟩ := minOf_int ys (if decide (x < y) = true then x else y)
    rw [e]
    by_cases h : x < y
    · rw [if_pos (decide_eq_true h)] at a b c ⊢
      refine ⟨.inr (a.elim (fun a => by rw [a]; exact List.mem_cons_self ..) fun a => List.mem_cons_of_mem _ a), by omega, fun z hz => ?_⟩
      rcases List.mem_cons.mp hz with rfl | hz
      · exact b
      · exact c z hz
    · rw [if_neg (by simpa using h)] at a b c ⊢
      refine ⟨a.imp id (List.mem_cons_of_mem _), b, fun z hz => ?_⟩
      rcases List.mem_cons.mp hz with rfl | hz
      · omega
      · exact c z hz
def rMinD (K : PySem.W.Frag) : List V → List V → Hp → VK → Prop := fun vs zs H Q => ∃ a ns, vs = [V.ref a] ∧ zs = [V.non] ∧ SqL K H a (ns.map V.int) ∧ (ns = [] → Q .non H) ∧ (∀ m ∈ ns, (∀ y ∈ ns, m ≤ y) → Q (.int m) H)
theorem cr_minD {X : Cx} (hc : X.calm = true) (hu : X.A.units + 65 < cLine) : CallRK X (.builtin "min") [Str.ofString "default"] (rMinD X.K) := by
  intro pins s σ H vs zs us ws Q I r rz h
  obtain ⟨a, ns, rfl, rfl, hs, q0, q⟩ := h
  obtain rfl := Vals.ref1 r
  obtain ⟨w1, rfl, e1⟩ := vals1 rz
  obtain rfl : w1 = Value.none := e1
  obtain ⟨its, rv, hl, _⟩ := I.list hs
  have ha : PySem.W.HoldAll (α := Int) s.heap its.toArray.toList ns := PySem.W.HoldAll.of_ints (vs := its) rv.ints
  refine PySem.W.min_list_datum_default (α := Int) (xs := ns) (I.ok.hd hc) hl.isList ha (by show X.A.units + 1 + 0 < cLine; omega) (fun e h' tk hk => ⟨.non, H, I.kept hk, rfl, q0 e⟩) fun y ys i v h' tk e hi hm hk => ?_
  obtain ⟨t, rfl⟩ := PySem.W.int_of_holds hm
  obtain ⟨m1, m2, m3⟩ := minOf_int ys y
  refine ⟨.int _, H, I.kept hk, ⟨t, rfl⟩, q _ ?_ fun z hz => ?_⟩
  · rw [e]
    rcases m1 with m1 | m1
    · rw [m1]; exact List.mem_cons_self ..
    · exact List.mem_cons_of_mem _ m1
  · rw [e] at hz
    rcases List.mem_cons.mp hz with rfl | hz
    · exact m2
    · exact m3 z hz
theorem boot_sorted' : bootBuiltins "sorted" = some (.builtin "sorted") := by decide +kernel
theorem boot_set' : bootBuiltins "set" = some (.type "set") := by decide +kernel
theorem boot_min5 : bootBuiltins "min" = some (.builtin "min") := PyProof.Rows.boot_min
theorem snd_minN (hm : SndE N G k C cls dp m) : SndE N G k C cls dp (.minN m) := by
  intro X sc W e c h
  unfold chkE at h
  split at h
  · rename_i x p1 a nm j p2 p3 p4
    simp only [Bool.and_eq_true, decide_eq_true_eq] at h
    obtain ⟨⟨⟨⟨rfl, h1⟩, rfl⟩, h3⟩, h4⟩ := h
    have F := fre_of c h1
    have A : PA X [a] (tCons (tE X.kw C dp W cls m) tNil) := pa_cons (hm X sc W a c h3).1 pa_nil (star_of h4 [] X.env)
    have Kw : PK X [⟨some (Str.ofString "default"), .Constant .none j p2, p3⟩] (tCons (tC .non) tNil) := pk_cons pe_non pk_nil
    refine both_of (pe_imp (pe_callBK (cr_minD (X := X) c.calm (units_of c)) F.g F.m boot_min5 A Kw F.n.n F.n.d (by rw [star_of h4 [] X.env]; rfl) (by rw [star_of h4 [] X.env]; rfl)) ?_) rfl
    rintro σ H Q ⟨ω, ρ, st, hl, hs, hp⟩
    unfold ev at hp
    refine ⟨ω, ρ, st, hl, hs, (Post.bind hp).mono fun d st1 ω1 H1 x1 s1 q1 v r1 => ?_⟩
    obtain ⟨z, e, q⟩ := Post.lift q1
    cases d <;> first | (cases e; done) | skip
    rename_i ds
    cases e1 : intsOf ds with
    | none => simp [o1, e1] at e
    | some ns =>
      simp only [o1, e1, Option.map] at e
      obtain ⟨l1, a1, vs, rfl, s1', w1, r1⟩ := r1
      have z' := reps_ints e1 r1
      subst z'
      refine ⟨a1, ns, rfl, rfl, SqL.of s1', fun hn => ?_, fun m hm hy => ?_⟩
      · rw [if_pos hn] at e
        cases e
        exact q ω1 H1 .refl s1 _ rfl
      · have hn : ns ≠ [] := List.ne_nil_of_mem hm
        rw [if_neg hn] at e
        cases e
        obtain ⟨h1, h2⟩ := TL.minL_mem hn
        have : m = minL ns := Int.le_antisymm (hy _ h1) (h2 m hm)
        rw [this]
        exact q ω1 H1 .refl s1 _ rfl
  · cases h
theorem snd_srt (hm : SndE N G k C cls dp m) : SndE N G k C cls dp (.srt m) := by
  intro X sc W e c h
  unfold chkE at h
  split at h
  · rename_i x p1 y p2 a p3 p4
    simp only [Bool.and_eq_true, decide_eq_true_eq] at h
    obtain ⟨⟨⟨⟨⟨rfl, h1⟩, rfl⟩, h2⟩, h3⟩, h4⟩ := h
    have F := fre_of c h1
    have F2 := fre_of c h2
    have A : PA X [a] (tCons (tE X.kw C dp W cls m) tNil) := pa_cons (hm X sc W a c h3).1 pa_nil (star_of h4 [] X.env)
    have B := pe_callTy (TStr.cr_setS (X := X) c.calm) F2.g F2.m boot_set' A F2.n.n F2.n.d (star_of h4 [] X.env) rfl (pos := p3) (p := p2)
    refine both_of (pe_imp (pe_callB (TStr.cr_sortS (X := X) c.calm) F.g F.m boot_sorted' (pa_cons B pa_nil rfl) F.n.n F.n.d rfl rfl) ?_) rfl
    rintro σ H Q ⟨ω, ρ, st, hl, hs, hp⟩
    unfold ev at hp
    refine ⟨ω, ρ, st, hl, hs, (Post.bind hp).mono fun d st1 ω1 H1 x1 s1 q1 v r1 => ?_⟩
    obtain ⟨z, e, q⟩ := Post.lift q1
    exact srt_of (X := X) s1.trk r1 e fun H' v' gr r => q ω1 H' (.ofGrow s1 gr) (s1.grow gr) v' r
  · cases h
end
end TL

namespace TL
open PySem L2 PyProof.Rows

mutual
theorem nk_depth : ∀ d : D, hsb d = true → (nk d).depth = d.py.depth
  | .non, _ => rfl
  | .int _, _ => rfl
  | .str _, _ => rfl
  | .tup ds, h => by
    simp only [hsb] at h
    simp only [nk, NestedKey.depth, D.py, PyData.depth]
    rw [nks_depth ds h]
  | .bl _, h => by cases h
  | .lst _, h => by cases h
  | .fls _, h => by cases h
  | .dic _, h => by cases h
  | .ref _, h => by cases h
  | .clo _ _, h => by cases h
  | .mlst _, h => by cases h
  | .mset _, h => by cases h
  | .mdic _, h => by cases h
  | .ins _ _, h => by cases h
theorem nks_depth : ∀ ds : List D, hsbs ds = true → NestedKey.depthAll (nks ds) = PyData.depthAll (pys ds)
  | [], _ => rfl
  | d :: ds, h => by
    simp only [hsbs, Bool.and_eq_true] at h
    simp only [nks, NestedKey.depthAll, pys, PyData.depthAll]
    rw [nk_depth d h.1, nks_depth ds h.2]
end
mutual
theorem nk_eqv : ∀ a b : D, hsb a = true → hsb b = true → PyData.eqv a.py b.py = NestedKey.beq (nk a) (nk b)
  | .non, b, _, h => by cases b <;> first | (cases h; done) | rfl
  | .int _, b, _, h => by cases b <;> first | (cases h; done) | (simp only [D.py, nk, PyData.eqv, NestedKey.beq]; apply Bool.eq_iff_iff.mpr; simp) | (simp [D.py, nk, PyData.eqv, NestedKey.beq])
  | .str _, b, _, h => by cases b <;> first | (cases h; done) | (simp only [D.py, nk, PyData.eqv, NestedKey.beq]; apply Bool.eq_iff_iff.mpr; simp) | (simp [D.py, nk, PyData.eqv, NestedKey.beq])
  | .tup as, b, h1, h => by
    cases b <;> first | (cases h; done) | (simp [D.py, nk, PyData.eqv, NestedKey.beq]; done) | skip
    rename_i bs
    simp only [hsb] at h1 h
    simp only [D.py, nk, PyData.eqv, NestedKey.beq]
    exact nks_eqv as bs h1 h
  | .bl _, _, h, _ => by cases h
  | .lst _, _, h, _ => by cases h
  | .fls _, _, h, _ => by cases h
  | .dic _, _, h, _ => by cases h
  | .ref _, _, h, _ => by cases h
  | .clo _ _, _, h, _ => by cases h
  | .mlst _, _, h, _ => by cases h
  | .mset _, _, h, _ => by cases h
  | .mdic _, _, h, _ => by cases h
  | .ins _ _, _, h, _ => by cases h
theorem nks_eqv : ∀ as bs : List D, hsbs as = true → hsbs bs = true → PyData.eqvAll (pys as) (pys bs) = NestedKey.beqAll (nks as) (nks bs)
  | [], [], _, _ => rfl
  | [], _ :: _, _, _ => rfl
  | _ :: _, [], _, _ => rfl
  | a :: as, b :: bs, h1, h2 => by
    simp only [hsbs, Bool.and_eq_true] at h1 h2
    simp only [pys, nks, PyData.eqvAll, NestedKey.beqAll]
    rw [nk_eqv a b h1.1 h2.1, nks_eqv as bs h1.2 h2.2]
end
theorem isKey_tup {d : D} (h : isKey d = true) : ∃ ds, d = .tup ds := by
  unfold isKey at h
  cases d <;> first | exact ⟨_, rfl⟩ | (simp at h)
theorem isKey_hsb {d : D} (h : isKey d = true) : hsb d = true ∧ (nk d).depth ≤ 8 := by
  unfold isKey at h
  simp only [Bool.and_eq_true, decide_eq_true_eq] at h
  exact ⟨h.1.2, by rw [nk_depth d h.1.2]; exact h.2⟩
section
variable {X : Cx} {pins : List (Addr × Obj)} {σ : L2.St} {H : Hp} {s : Shared} {ω : Wd}
mutual
theorem nested_of (I : Inv X pins σ H s) : ∀ (d : D) (v : V) (u : Value), hsb d = true → Rep X.kw ω H d v → RelV v u → NestedIs s.heap (nk d) u
  | .non, v, u, _, r, ru => by rw [show v = .non from r] at ru; cases (show u = Value.none from ru); exact .none
  | .int i, v, u, _, r, ru => by
    rw [show v = .int i from r] at ru
    obtain ⟨t, rfl⟩ := (show ∃ t, u = Value.int i t from ru)
    exact .int _ _
  | .str x, v, u, _, r, ru => by
    rw [show v = .str x from r.1] at ru
    obtain ⟨t, rfl⟩ := (show ∃ t, u = Value.str x t from ru)
    exact .text _ _
  | .tup ds, v, u, h, r, ru => by
    obtain ⟨_, a, vs, rfl, q, rs⟩ := r
    cases (show u = Value.ref a from ru)
    obtain ⟨its, rv, ⟨o, e1, e2, n, e3⟩, _⟩ := I.tuple q
    exact .tup e1 e2 e3 (nesteds_of I ds vs _ h rs (by simpa using rv))
  | .bl _, _, _, h, _, _ => by cases h
  | .lst _, _, _, h, _, _ => by cases h
  | .fls _, _, _, h, _, _ => by cases h
  | .dic _, _, _, h, _, _ => by cases h
  | .ref _, _, _, h, _, _ => by cases h
  | .clo _ _, _, _, h, _, _ => by cases h
  | .mlst _, _, _, h, _, _ => by cases h
  | .mset _, _, _, h, _, _ => by cases h
  | .mdic _, _, _, h, _, _ => by cases h
  | .ins _ _, _, _, h, _, _ => by cases h
theorem nesteds_of (I : Inv X pins σ H s) : ∀ (ds : List D) (vs : List V) (us : List Value), hsbs ds = true → Reps X.kw ω H ds vs → Vals vs us → NestedAll s.heap (nks ds) us
  | [], vs, us, _, r, ru => by
    rw [show vs = [] from r] at ru
    cases ru
    exact .nil
  | d :: ds, vs, us, h, r, ru => by
    obtain ⟨v, r', rfl, r1, r2⟩ := r
    simp only [hsbs, Bool.and_eq_true] at h
    cases ru with
    | cons p q => exact .cons (nested_of I d v _ h.1 r1 p) (nesteds_of I ds r' _ h.2 r2 q)
end
theorem key_is (I : Inv X pins σ H s) {d : D} {b : Addr} (h : isKey d = true) (r : Rep X.kw ω H d (.ref b)) : (nestedKind X.prog X.w).is s.heap (nk d) b :=
  ⟨nested_of I d (.ref b) (.ref b) (isKey_hsb h).1 r rfl, (isKey_hsb h).2⟩
/-- the dict, as the library tells it -/
def full (xs : List (NestedKey × Addr)) : List (NestedKey × Addr × Value) := xs.map fun x => (x.1, x.2, .bool true)
theorem full_entry {xs : List (NestedKey × Addr)} : (full xs).map (entryOfKey (nestedKind X.prog X.w)) = xs.map (fun x => (⟨x.1.hash X.w, .ref x.2, .bool true⟩ : DictEntry)) := by
  unfold full
  rw [List.map_map]
  rfl
theorem full_keys {xs : List (NestedKey × Addr)} : (full xs).map (·.1) = xs.map (·.1) := by
  unfold full
  rw [List.map_map]
  rfl
theorem keysR_is (I : Inv X pins σ H s) : ∀ {ds : List D} {xs : List (NestedKey × Addr)}, KeysR X.kw ω H ds xs → ∀ x ∈ full xs, (nestedKind X.prog X.w).is s.heap x.1 x.2.1
  | [], xs, h, x, hx => by
    rw [show xs = [] from h] at hx
    cases hx
  | d :: ds, xs, h, x, hx => by
    obtain ⟨b, r, rfl, i, h1, h2⟩ := h
    rcases List.mem_cons.mp (show x ∈ (nk d, b, Value.bool true) :: full r from hx) with rfl | hx
    · exact key_is I i h1
    · exact keysR_is I h2 x hx
theorem mset_dict (I : Inv X pins σ H s) {a : Addr} {ds : List D} {xs : List (NestedKey × Addr)} (e : H a = some (msetO X.w a xs)) (h : KeysR X.kw ω H ds xs) : (a == sysModules) = false ∧ s.heap.DictOfH (nestedKind X.prog X.w) a (full xs) := by
  obtain ⟨⟨hm, o, es, ep, h1, h2, h3, h4, h5⟩, _⟩ := (show ObjOk X.prog X.w H s.heap a (msetO X.w a xs) from I.hok a _ e)
  exact ⟨hm, o, es, ep, h1, h2, h3, by rw [full_entry]; exact h4, keysR_is I h, by rw [full_keys]; exact h5⟩
theorem keysR_len : ∀ {ds : List D} {xs : List (NestedKey × Addr)}, KeysR X.kw ω H ds xs → xs.length = ds.length
  | [], xs, h => by rw [show xs = [] from h]; rfl
  | d :: ds, xs, h => by
    obtain ⟨b, r, rfl, i, h1, h2⟩ := h
    rw [List.length_cons, List.length_cons, keysR_len h2]
theorem atKey_any {x : D} (hx : isKey x = true) : ∀ {ds : List D} {xs : List (NestedKey × Addr)}, KeysR X.kw ω H ds xs → (atKey (full xs) (nk x)).isSome = ds.any fun y => y.eqv x
  | [], xs, h => by rw [show xs = [] from h]; rfl
  | d :: ds, xs, h => by
    obtain ⟨b, r, rfl, i, h1, h2⟩ := h
    have ih := atKey_any hx h2
    have e : d.eqv x = NestedKey.beq (nk d) (nk x) := nk_eqv d x (isKey_hsb i).1 (isKey_hsb hx).1
    rw [List.any_cons, e, ← ih, ← NestedKey.decide_eq]
    show (atKey ((nk d, b, Value.bool true) :: full r) (nk x)).isSome = _
    unfold atKey
    rw [List.find?_cons]
    by_cases q : nk d = nk x
    · simp [q]
    · simp [q]
theorem mset_ok {P : Program} {w : World} {H' : Hp} {h' : Heap} {a : Addr} {xs : List (NestedKey × Addr)} (hm : (a == sysModules) = false) (d : h'.DictOfH (nestedKind P w) a (full xs)) : ObjOk P w H' h' a (msetO w a xs) := by
  obtain ⟨o, es, ep, h1, h2, h3, h4, _, h5⟩ := d
  refine ⟨⟨hm, o, es, ep, h1, h2, h3, ?_, ?_⟩, ⟨o, h1⟩, ?_⟩
  · rw [h4]
    unfold full
    rw [List.map_map]
    rfl
  · have : (full xs).map (·.1) = xs.map (·.1) := by
      unfold full
      rw [List.map_map]
      rfl
    rw [← this]
    exact h5
  · rintro h1 h2 ⟨z, o, es, ep, q1, q2⟩ k
    exact ⟨z, o, es, ep, k _ q1, q2⟩
/-- x in d -/
def rMset (K : KW) (neg : Bool) : R2 := fun x y H Q => ∃ (ω : Wd) (d : D) (ds : List D) (a b : Addr) (xs : List (NestedKey × Addr)), x = .ref b ∧ y = .ref a ∧ Rep K ω H d (.ref b) ∧ isKey d = true ∧ H a = some (msetO K.w a xs) ∧ KeysR K ω H ds xs ∧
  Q (.bl (if neg then !(ds.any fun y => y.eqv d) else ds.any fun y => y.eqv d)) H
theorem room_mset {A : Around} (hu : A.units + 65 < cLine) : (nestedKind X.prog X.w).room A.in1 := by
  show A.units + 1 + 8 < cLine
  omega
theorem op_inMset (hu : X.A.units + 65 < cLine) : OpR X (compareOp .In) (rMset X.kw false) := by
  intro pins s σ H x y v u Q I rx ry h
  obtain ⟨ω, d, ds, a, b, xs, rfl, rfl, rd, ik, ha, kr, q⟩ := h
  cases rx
  cases ry
  obtain ⟨hm, dd⟩ := mset_dict I ha kr
  refine wpAny_in_heap (room_mset hu) (key_is I ik rd) hm dd ?_
  rw [atKey_any ik kr]
  exact ⟨.bl _, H, I.tok _, rfl, q⟩
theorem op_notInMset (hu : X.A.units + 65 < cLine) : OpR X (compareOp .NotIn) (rMset X.kw true) := by
  intro pins s σ H x y v u Q I rx ry h
  obtain ⟨ω, d, ds, a, b, xs, rfl, rfl, rd, ik, ha, kr, q⟩ := h
  cases rx
  cases ry
  obtain ⟨hm, dd⟩ := mset_dict I ha kr
  refine wpAny_notIn_heap (room_mset hu) (key_is I ik rd) hm dd ?_
  rw [atKey_any ik kr]
  exact ⟨.bl _, H, I.tok _, rfl, q⟩
/-- d[x] = True -/
def tSetM (K : KW) : TSet := fun o i v H Q => ∃ (ω : Wd) (d : D) (ds : List D) (a b : Addr) (xs : List (NestedKey × Addr)), o = .ref a ∧ i = .ref b ∧ v = .bl true ∧ Rep K ω H d (.ref b) ∧ isKey d = true ∧ H a = some (msetO K.w a xs) ∧ KeysR K ω H ds xs ∧ ds.length < sizeLine ∧
  Q (upd H a (msetO K.w a (if (ds.any fun y => y.eqv d) = true then xs else xs ++ [(nk d, b)])))
theorem put_same {xs : List (NestedKey × Addr)} {k : NestedKey} : (full xs).map (putAt k (.bool true)) = full xs := by
  unfold full
  rw [List.map_map]
  refine List.map_congr_left fun x _ => ?_
  show putAt k (Value.bool true) (x.1, x.2, Value.bool true) = _
  unfold putAt
  split <;> rfl
theorem pset_mset (hu : X.A.units + 65 < cLine) : PSet X (tSetM X.kw) := by
  intro pins s σ H o i v ov iv u Q I ro ri rv h
  obtain ⟨ω, d, ds, a, b, xs, rfl, rfl, rfl, rd, ik, ha, kr, hl, q⟩ := h
  cases ro
  cases ri
  cases rv
  obtain ⟨hm, dd⟩ := mset_dict I ha kr
  have hz : (full xs).length ≤ sizeLine := by
    unfold full
    rw [List.length_map, keysR_len kr]
    exact Nat.le_of_lt hl
  have e : storedH (full xs) (nk d) b (.bool true) = full (if (ds.any fun y => y.eqv d) = true then xs else xs ++ [(nk d, b)]) := by
    unfold storedH
    rw [atKey_any ik kr]
    split
    · exact put_same
    · unfold full
      rw [List.map_append]
      rfl
  refine wpAny_setItem_heap (hsz := hz) (room_mset hu) (key_is I ik rd) dd fun h' dd' hs => ⟨_, ?_, q⟩
  rw [e] at dd'
  have he : ∃ q, h'.get? a = some q := let ⟨q, _, _, hq, _⟩ := dd'; ⟨q, hq⟩
  exact d_write I (by rw [ha]; exact True.intro) hs he (mset_ok hm dd')
theorem mset_empty {P : Program} {w : World} {H : Hp} (h : Heap) (hb : sysModules < h.objs.size) : ObjOk P w H (h.push { cls := .type "dict", data := .dict #[] }) h.objs.size (msetO w h.objs.size []) :=
  mset_ok (by
    rw [beq_eq_false_iff_ne]
    intro e
    rw [e] at hb
    exact Nat.lt_irrefl _ hb) (.new h)
/-- {k: True} -/
def tDispM (K : KW) (tk : TE) : TE := fun σ H Q => ∀ p, H p = none → tk σ (upd H p (msetO K.w p [])) fun x H1 => ∃ (ω : Wd) (d : D) (b : Addr), x = .ref b ∧ Rep K ω H1 d (.ref b) ∧ isKey d = true ∧ H1 p = some (msetO K.w p []) ∧ Q (.ref p) (upd H1 p (msetO K.w p [(nk d, b)]))
theorem pe_dispM {pos p2 : Pos} {j : Nat} {kx : Expr} {tk : TE} (hu : X.A.units + 65 < cLine) (hk : PE X kx tk) : PE X (.Dict [some kx] [.Constant (.bool true) j p2] pos) (tDispM X.kw tk) := by
  refine ⟨fun pins s σ H Q I q => ?_⟩
  have hn := I.hok.fresh (Nat.le_refl s.heap.objs.size)
  have I1 := I.laid (a := s.heap.objs.size) (o := msetO X.w s.heap.objs.size []) (h' := s.heap.push { cls := .type "dict", data := .dict #[] }) (t' := s.toks) (fun _ _ q => Heap.get?_push_of_some _ q) (Nat.le_refl _) (mset_empty s.heap I.big)
  have hshape := zip_pairTrees [some kx] [.Constant (.bool true) j p2] X.env pos rfl rfl
  rw [arm_eval_Dict, hshape, dictDisplay_pairs (pairTrees [some kx] [.Constant (.bool true) j p2] X.env pos) (by simp [pairTrees]) (by simp [pairTrees])]
  refine wpAny_bind (wpAny_standAt (wpAny_bind (wpAny_subDictH (knd := nestedKind X.prog X.w) (Q := fun d s' => wpAny (model X.prog X.w) X.A (pure (Value.ref d)) (EP X pins σ Q) X.xe s') (by show X.A.units + 8 < cLine; omega) (by simp [pairTrees]) ?_)))
  refine pairTrees_cons_walk (thn (hk.run pins _ σ _ _ I1 (q _ hn)) fun v s1 ⟨x, H1, I2, rx, q1⟩ => Constant_bool (pairTrees_nil_walk ?_))
  obtain ⟨ω, d, b, rfl, rd, ik, hp, q2⟩ := q1
  cases rx
  obtain ⟨hm, dd⟩ := mset_dict (ω := ω) (ds := []) I2 hp rfl
  refine ⟨[(nk d, b, .bool true)], ⟨rfl, rfl, key_is I2 ik rd, trivial⟩, dd, fun h' tk dd' hs => wpAny_pure ⟨.ref s.heap.objs.size, _, ?_, rfl, q2⟩⟩
  have he : ∃ q, h'.get? s.heap.objs.size = some q := let ⟨q, _, _, hq, _⟩ := dd'; ⟨q, hq⟩
  exact d_write I2 (by rw [hp]; exact True.intro) hs he (mset_ok hm dd')
end
end TL

namespace TL
open PySem L2 PyProof.Rows
section
variable {X : Cx} {N : List Str} {G : GT} {k : Nat} {C : Cal} {cls : Nat → Value} {dp : Nat} {sc : Scope} {W : WX} {e : Expr} {es : List Expr} {m n l a b : E} {ms : List E}
theorem op_bin {o : O2} {op : Operator} (h : binOf o = some op) : OpR X (binaryOp op) (rB X.kw (o2 o)) := by
  cases o <;> cases h
  · exact op_dAdd
  · exact op_dSub
  · exact op_dMul
  · exact op_dDiv
  · exact op_dMod
theorem op_cmp {o : O2} {op : CmpOp} (c : Cok X G k C cls N sc W) (h : cmpOf o = some op) : OpR X (compareOp op) (rB X.kw (o2 o)) := by
  have u := units_of c
  cases o <;> cases h
  · exact op_dEq (by omega)
  · exact op_dNe (by omega)
  · exact op_dLt
  · exact op_dLe
  · exact op_dGt
  · exact op_dGe
  · exact op_dIn u
  · exact op_dNotIn u
  · exact op_dIsB
  · exact op_dIsNotB
theorem op_ix (hu : X.A.units + 65 < cLine) : IxR X (rB X.kw (o2 .ix)) := op_dIx hu
/-- two expressions, an operation of their values -/
theorem tOp_of {o : O2} {σ : L2.St} {H : Hp} {Q : VK} (h : tE X.kw C dp W cls (.o2 o m n) σ H Q) : tOp (rB X.kw (o2 o)) (tE X.kw C dp W cls m) (tE X.kw C dp W cls n) σ H Q := by
  obtain ⟨ω, ρ, st, hl, hs, hp⟩ := h
  unfold ev at hp
  refine ⟨ω, ρ, st, hl, hs, (Post.bind hp).mono fun x st1 ω1 H1 x1 s1 q1 v r1 => ⟨ω1, ρ, st1, hl.ext x1, s1, (Post.bind q1).mono fun y st2 ω2 H2 x2 s2 q2 w r2 => ?_⟩⟩
  exact rB_of s2 (r1.ext x2) r2 q2 fun d ω' H' x' s' P => P
theorem tTest_of {t : TE} {σ : L2.St} {H : Hp} {Q : Bool → Hp → Prop} (h : tT X.kw C dp W cls m σ H Q) (i : ∀ σ H Q, tE X.kw C dp W cls m σ H Q → t σ H Q) : t σ H fun x H' => ∃ k, x = .bl k ∧ Q k H' := by
  refine i σ H _ ?_
  obtain ⟨ω, ρ, st, hl, hs, hp⟩ := h
  refine ⟨ω, ρ, st, hl, hs, hp.mono ?_⟩
  rintro d st' ω' H' x s ⟨b, rfl, q⟩ v r
  exact ⟨b, r, q⟩
theorem boot_max' : bootBuiltins "max" = some (.builtin "max") := PyProof.Rows.boot_max
theorem boot_min' : bootBuiltins "min" = some (.builtin "min") := PyProof.Rows.boot_min
theorem snd_o2 {o : O2} (hm : SndE N G k C cls dp m) (hn : SndE N G k C cls dp n) : SndE N G k C cls dp (.o2 o m n) := by
  intro X sc W e c h
  unfold chkE at h
  split at h
  · simp only [Bool.and_eq_true, decide_eq_true_eq] at h
    exact both_of (pe_imp (pe_op (op_bin h.1.1) (hm X sc W _ c h.1.2).1 (hn X sc W _ c h.2).1) fun σ H Q q => tOp_of q) rfl
  · simp only [Bool.and_eq_true, decide_eq_true_eq] at h
    have A := (hm X sc W _ c h.1.2).1
    have B := (hn X sc W _ c h.2).1
    exact ⟨pe_imp (pe_cmpR (op_cmp c h.1.1.1) A B (set_ok h.1.1.2)) fun σ H Q q => tOp_of q, pt_imp (pt_cmpR (op_cmp c h.1.1.1) A B (set_ok h.1.1.2)) fun σ H Q q => tTest_of q fun σ H Q => tOp_of⟩
  · simp only [Bool.and_eq_true, decide_eq_true_eq] at h
    obtain ⟨⟨⟨h1, h2⟩, h3⟩, h4⟩ := h
    cases o <;> first | (simp at h1; done) | skip
    exact both_of (pe_imp (pe_ix (op_ix (units_of c)) (hm X sc W _ c h3).1 (hn X sc W _ c h4).1 (slice_ok h2)) fun σ H Q q => tOp_of q) rfl
  · rename_i x p1 a b p2
    simp only [Bool.and_eq_true, decide_eq_true_eq] at h
    obtain ⟨⟨⟨⟨⟨h1, h2⟩, h3⟩, h4⟩, h5⟩, h6⟩ := h
    have F := fre_of c h2
    have P : PA X [a, b] (tCons (tE X.kw C dp W cls m) (tCons (tE X.kw C dp W cls n) tNil)) := pa_cons (hm X sc W _ c h3).1 (pa_cons (hn X sc W _ c h5).1 pa_nil (star_of h6 [] X.env)) (star_of h4 _ X.env)
    have sb : (backTo p2 (starEach [b] X.env)).any (·.1) = false := stars_of (by rw [List.all_cons, h6]; rfl)
    have fin : ∀ σ H Q, tE X.kw C dp W cls (.o2 o m n) σ H Q → tCB (rC2 X.kw (o2 o)) (tCons (tE X.kw C dp W cls m) (tCons (tE X.kw C dp W cls n) tNil)) σ H Q := by
      rintro σ H Q ⟨ω, ρ, st, hl, hs, hp⟩
      unfold ev at hp
      refine ⟨ω, ρ, st, hl, hs, (Post.bind hp).mono fun x st1 ω1 H1 x1 s1 q1 v r1 => ⟨ω1, ρ, st1, hl.ext x1, s1, (Post.bind q1).mono fun y st2 ω2 H2 x2 s2 q2 w r2 => ?_⟩⟩
      obtain ⟨d, e, q⟩ := Post.lift q2
      exact ⟨ω2, x, y, d, s2.trk, ⟨v, _, rfl, r1.ext x2, w, _, rfl, r2, rfl⟩, e, fun H' v' gr r => q ω2 H' (.ofGrow s2 gr) (s2.grow gr) v' r⟩
    cases o <;> first | (simp [o2Call] at h1; done) | skip
    · simp only [o2Call, decide_eq_true_eq] at h1
      subst h1
      exact both_of (pe_imp (pe_callB (cr_dmax2 c.calm) F.g F.m boot_max' P F.n.n F.n.d (star_of h4 _ X.env) sb) fin) rfl
    · simp only [o2Call, decide_eq_true_eq] at h1
      subst h1
      exact both_of (pe_imp (pe_callB (cr_dmin2 c.calm) F.g F.m boot_min' P F.n.n F.n.d (star_of h4 _ X.env) sb) fin) rfl
  · cases h
theorem snd_sm {o : O2} (hm : SndE N G k C cls dp m) (hn : SndE N G k C cls dp n) : SndE N G k C cls dp (.sm o m n) := by
  intro X sc W e c h
  unfold chkE at h
  split at h
  · rename_i a x apos b pos
    simp only [Bool.and_eq_true] at h
    obtain ⟨⟨⟨⟨⟨h1, h2⟩, h3⟩, h4⟩, h5⟩, h6⟩ := h
    have P : PA X [b] (tCons (tE X.kw C dp W cls n) tNil) := pa_cons (hn X sc W _ c h5).1 pa_nil (star_of h6 [] X.env)
    have few : ((backTo pos (starEach [b] X.env)).all (fun x => !x.1) && (backToKw pos (keywordEach [] X.env)).all (fun x => x.1.isSome)
      && decide (([b] : List Expr).length + ([] : List Keyword).length + (if ([] : List Keyword).isEmpty then 0 else 1) < 30)) = true := by
      rw [star_of h6 [] X.env]; rfl
    have fin : ∀ σ H Q, tE X.kw C dp W cls (.sm o m n) σ H Q → tBM X.kw "str" (rM X.kw (o2 o)) (tE X.kw C dp W cls m) (tCons (tE X.kw C dp W cls n) tNil) σ H Q := by
      rintro σ H Q ⟨ω, ρ, st, hl, hs, hp⟩
      unfold ev at hp
      refine ⟨ω, ρ, st, hl, hs, (Post.bind hp).mono fun x st1 ω1 H1 x1 s1 q1 v r1 => ?_⟩
      cases x <;> first | exact q1.elim | skip
      rename_i z
      have ev' : v = .str z := r1.1
      refine ⟨by rw [ev']; exact rfl, ω1, ρ, st1, hl.ext x1, s1, (Post.bind q1).mono fun y st2 ω2 H2 x2 s2 q2 w r2 => ?_⟩
      obtain ⟨d, e, q⟩ := Post.lift q2
      exact ⟨ω2, _, y, d, s2.trk, r1.ext x2, ⟨w, _, rfl, r2, rfl⟩, e, fun H' v' gr r => q ω2 H' (.ofGrow s2 gr) (s2.grow gr) v' r⟩
    cases o <;> first | (simp [o2Meth] at h1; done) | skip
    · simp only [o2Meth, decide_eq_true_eq] at h1
      subst h1
      exact both_of (pe_imp (pe_bm PySem.F.plainAttrs_str PySem.F.slot_str_join PySem.F.type_str_join mt_dJoin (hm X sc W _ c h4).1 P (attr_ok h2 _ _) few h3 (star_of h6 [] X.env) rfl) fin) rfl
    · simp only [o2Meth, decide_eq_true_eq] at h1
      subst h1
      exact both_of (pe_imp (pe_bm PySem.F.plainAttrs_str PySem.F.slot_str_split PySem.F.type_str_split mt_dSplit (hm X sc W _ c h4).1 P (attr_ok h2 _ _) few h3 (star_of h6 [] X.env) rfl) fin) rfl
  · cases h
theorem snd_lm {o : O2} (hm : SndE N G k C cls dp m) (hn : SndE N G k C cls dp n) : SndE N G k C cls dp (.lm o m n) := by
  intro X sc W e c h
  unfold chkE at h
  split at h
  · rename_i a x apos b pos
    simp only [Bool.and_eq_true] at h
    obtain ⟨⟨⟨⟨⟨h1, h2⟩, h3⟩, h4⟩, h5⟩, h6⟩ := h
    have P : PA X [b] (tCons (tE X.kw C dp W cls n) tNil) := pa_cons (hn X sc W _ c h5).1 pa_nil (star_of h6 [] X.env)
    have few : ((backTo pos (starEach [b] X.env)).all (fun x => !x.1) && (backToKw pos (keywordEach [] X.env)).all (fun x => x.1.isSome)
      && decide (([b] : List Expr).length + ([] : List Keyword).length + (if ([] : List Keyword).isEmpty then 0 else 1) < 30)) = true := by
      rw [star_of h6 [] X.env]; rfl
    have fin : ∀ σ H Q, tE X.kw C dp W cls (.lm o m n) σ H Q → tBM X.kw "list" (rM X.kw (o2 o)) (tE X.kw C dp W cls m) (tCons (tE X.kw C dp W cls n) tNil) σ H Q := by
      rintro σ H Q ⟨ω, ρ, st, hl, hs, hp⟩
      unfold ev at hp
      refine ⟨ω, ρ, st, hl, hs, (Post.bind hp).mono fun x st1 ω1 H1 x1 s1 q1 v r1 => ?_⟩
      cases x <;> first | exact q1.elim | skip
      rename_i z
      have r1' := r1
      obtain ⟨_, ad, vs, rfl, sq, wr, rs⟩ := r1'
      refine ⟨.inl ⟨rfl, _, SqL.of sq⟩, ω1, ρ, st1, hl.ext x1, s1, (Post.bind q1).mono fun y st2 ω2 H2 x2 s2 q2 w r2 => ?_⟩
      obtain ⟨d, e, q⟩ := Post.lift q2
      exact ⟨ω2, _, y, d, s2.trk, r1.ext x2, ⟨w, _, rfl, r2, rfl⟩, e, fun H' v' gr r => q ω2 H' (.ofGrow s2 gr) (s2.grow gr) v' r⟩
    have u := units_of c
    cases o <;> first | (simp [o2LMeth] at h1; done) | skip
    · simp only [o2LMeth, decide_eq_true_eq] at h1
      subst h1
      exact both_of (pe_imp (pe_bm PySem.F.plainAttrs_list PySem.F.slot_list_index PySem.F.type_list_index (mt_dIndex u) (hm X sc W _ c h4).1 P (attr_ok h2 _ _) few h3 (star_of h6 [] X.env) rfl) fin) rfl
  · cases h
theorem snd_chain {o o' : O2} (hm : SndE N G k C cls dp m) (hn : SndE N G k C cls dp n) (hl : SndE N G k C cls dp l) : SndE N G k C cls dp (.chain o o' m n l) := by
  intro X sc W e c h
  unfold chkE at h
  split at h
  · rename_i a op op' b c' pos
    simp only [Bool.and_eq_true, decide_eq_true_eq] at h
    obtain ⟨⟨⟨⟨⟨⟨h1, h2⟩, h3⟩, h4⟩, h5⟩, h6⟩, h7⟩ := h
    have A := (hm X sc W _ c h5).1
    have B := (hn X sc W _ c h6).1
    have D := (hl X sc W _ c h7).1
    have lm : lastMarks [op, op'] [b, c'] = false := set_ok h4
    have key : ∀ σ H Q, tE X.kw C dp W cls (.chain o o' m n l) σ H Q → tChain (rB X.kw (o2 o)) (rB X.kw (o2 o')) (tE X.kw C dp W cls m) (tE X.kw C dp W cls n) (tE X.kw C dp W cls l) σ H Q := by
      rintro σ H Q ⟨ω, ρ, st, hl, hs, hp⟩
      unfold ev at hp
      refine ⟨ω, ρ, st, hl, hs, (Post.bind hp).mono fun x st1 ω1 H1 x1 s1 q1 v r1 => ⟨ω1, ρ, st1, hl.ext x1, s1, (Post.bind q1).mono fun y st2 ω2 H2 x2 s2 q2 w r2 => ?_⟩⟩
      unfold R.bool at q2
      refine rB_of s2 (r1.ext x2) r2 (Post.bind q2) ?_
      intro d ω3 H3 x3 s3 q3 z rz
      cases d <;> first | exact q3.elim | skip
      rename_i kk
      refine ⟨kk, rz, ?_⟩
      cases kk with
      | true =>
        rw [if_pos rfl]
        refine ⟨ω3, ρ, st2, (hl.ext x1).ext (x2.trans x3), s3, (Post.bind q3).mono fun u st4 ω4 H4 x4 s4 q4 t r4 => ?_⟩
        exact rB_of s4 (r2.ext (x3.trans x4)) r4 q4 fun d ω' H' x' s' P => P
      | false =>
        rw [if_neg Bool.false_ne_true]
        exact q3 ω3 H3 .refl s3 _ rfl
    exact ⟨pe_imp (pe_chain (op_cmp c h1) (op_cmp c h2) A B D lm) key, pt_imp (pt_chain (op_cmp c h1) (op_cmp c h2) A B D lm) fun σ H Q q => tTest_of q key⟩
  · cases h

theorem Post.bool {σ : L2.St} {ω : Wd} {H : Hp} {K : KW} {r : R D} {f : Bool → Sto → R D} {P : D → Sto → Wd → Hp → Prop} (h : Post K dp W cls σ ω H (r.bool f) P) :
    Post K dp W cls σ ω H r fun d st1 ω1 H1 => ∃ b, d = .bl b ∧ Post K dp W cls σ ω1 H1 (f b st1) P := by
  unfold R.bool at h
  refine (Post.bind h).mono ?_
  intro d st1 ω1 H1 x s q
  cases d <;> first | exact q.elim | skip
  exact ⟨_, rfl, q⟩
theorem pw_of {f : Env → Sto → R D} {pos : Pos} {op : BoolOp} (h : PT X e (tTf X.kw dp W cls f)) (hw : ∀ {t : TT}, PT X e t → PW X (.BoolOp op [e] pos) t) : PW X (.BoolOp op [e] pos) (tTf X.kw dp W cls f) := hw h
theorem snd_and (hm : ∀ m ∈ ms, SndE N G k C cls dp m) : ∀ (es : List Expr) (pos : Pos), Cok X G k C cls N sc W → chkEs N G ms sc es = true → es ≠ [] →
    PE X (.BoolOp .And es pos) (tEf X.kw dp W cls fun ρ st => evAnd C ms ρ st) ∧ PW X (.BoolOp .And es pos) (tTf X.kw dp W cls fun ρ st => evAnd C ms ρ st) := by
  induction ms with
  | nil =>
    intro es pos c h n
    unfold chkEs at h
    exact absurd (List.isEmpty_iff.mp h) n
  | cons m ms ih =>
    intro es pos c h n
    unfold chkEs at h
    cases es with
    | nil => cases h
    | cons e es =>
      simp only [Bool.and_eq_true] at h
      obtain ⟨A, B⟩ := hm m List.mem_cons_self X sc W e c h.1.1
      cases ms with
      | nil =>
        have h2 := h.2
        unfold chkEs at h2
        have e1 := List.isEmpty_iff.mp h2
        subst e1
        refine ⟨pe_imp (pe_one A) ?_, ?_⟩
        · rintro σ H Q ⟨ω, ρ, st, hl, hs, hp⟩
          unfold evAnd at hp
          exact ⟨ω, ρ, st, hl, hs, hp⟩
        · refine ⟨fun whole pins s σ H Q I q => (pw_and1 B).run whole pins s σ H Q I ?_⟩
          obtain ⟨ω, ρ, st, hl, hs, hp⟩ := q
          unfold evAnd at hp
          exact ⟨ω, ρ, st, hl, hs, hp⟩
      | cons m2 ms =>
        cases es with
        | nil =>
          have h2 := h.2
          unfold chkEs at h2
          cases h2
        | cons e2 es =>
          obtain ⟨A2, B2⟩ := ih (fun m h => hm m (List.mem_cons_of_mem _ h)) (e2 :: es) pos c h.2 (by simp)
          refine ⟨pe_imp (pe_and A A2) ?_, ?_⟩
          · rintro σ H Q ⟨ω, ρ, st, hl, hs, hp⟩
            unfold evAnd at hp
            refine ⟨ω, ρ, st, hl, hs, (Post.bool hp).mono ?_⟩
            rintro d st1 ω1 H1 x1 s1 ⟨b, rfl, q1⟩ v r
            refine ⟨b, r, ?_⟩
            cases b with
            | true => exact ⟨ω1, ρ, st1, hl.ext x1, s1, q1⟩
            | false => exact q1 ω1 H1 .refl s1 _ rfl
          · refine ⟨fun whole pins s σ H Q I q => (pw_and B B2).run whole pins s σ H Q I ?_⟩
            obtain ⟨ω, ρ, st, hl, hs, hp⟩ := q
            unfold evAnd at hp
            refine ⟨ω, ρ, st, hl, hs, (Post.bool hp).mono ?_⟩
            rintro d st1 ω1 H1 x1 s1 ⟨b, rfl, q1⟩
            refine ⟨b, rfl, ?_⟩
            cases b with
            | true => exact ⟨ω1, ρ, st1, hl.ext x1, s1, q1⟩
            | false =>
              obtain ⟨b', e', q'⟩ := q1 ω1 H1 .refl s1
              cases e'
              exact q'
theorem snd_or (hm : ∀ m ∈ ms, SndE N G k C cls dp m) : ∀ (es : List Expr) (pos : Pos), Cok X G k C cls N sc W → chkEs N G ms sc es = true → es ≠ [] →
    PE X (.BoolOp .Or es pos) (tEf X.kw dp W cls fun ρ st => evOr C ms ρ st) ∧ PW X (.BoolOp .Or es pos) (tTf X.kw dp W cls fun ρ st => evOr C ms ρ st) := by
  induction ms with
  | nil =>
    intro es pos c h n
    unfold chkEs at h
    exact absurd (List.isEmpty_iff.mp h) n
  | cons m ms ih =>
    intro es pos c h n
    unfold chkEs at h
    cases es with
    | nil => cases h
    | cons e es =>
      simp only [Bool.and_eq_true] at h
      obtain ⟨A, B⟩ := hm m List.mem_cons_self X sc W e c h.1.1
      cases ms with
      | nil =>
        have h2 := h.2
        unfold chkEs at h2
        have e1 := List.isEmpty_iff.mp h2
        subst e1
        refine ⟨pe_imp (pe_one A) ?_, ?_⟩
        · rintro σ H Q ⟨ω, ρ, st, hl, hs, hp⟩
          unfold evOr at hp
          exact ⟨ω, ρ, st, hl, hs, hp⟩
        · refine ⟨fun whole pins s σ H Q I q => (pw_or1 B).run whole pins s σ H Q I ?_⟩
          obtain ⟨ω, ρ, st, hl, hs, hp⟩ := q
          unfold evOr at hp
          exact ⟨ω, ρ, st, hl, hs, hp⟩
      | cons m2 ms =>
        cases es with
        | nil =>
          have h2 := h.2
          unfold chkEs at h2
          cases h2
        | cons e2 es =>
          obtain ⟨A2, B2⟩ := ih (fun m h => hm m (List.mem_cons_of_mem _ h)) (e2 :: es) pos c h.2 (by simp)
          refine ⟨pe_imp (pe_or A A2) ?_, ?_⟩
          · rintro σ H Q ⟨ω, ρ, st, hl, hs, hp⟩
            unfold evOr at hp
            refine ⟨ω, ρ, st, hl, hs, (Post.bool hp).mono ?_⟩
            rintro d st1 ω1 H1 x1 s1 ⟨b, rfl, q1⟩ v r
            refine ⟨b, r, ?_⟩
            cases b with
            | false => exact ⟨ω1, ρ, st1, hl.ext x1, s1, q1⟩
            | true => exact q1 ω1 H1 .refl s1 _ rfl
          · refine ⟨fun whole pins s σ H Q I q => (pw_or B B2).run whole pins s σ H Q I ?_⟩
            obtain ⟨ω, ρ, st, hl, hs, hp⟩ := q
            unfold evOr at hp
            refine ⟨ω, ρ, st, hl, hs, (Post.bool hp).mono ?_⟩
            rintro d st1 ω1 H1 x1 s1 ⟨b, rfl, q1⟩
            refine ⟨b, rfl, ?_⟩
            cases b with
            | false => exact ⟨ω1, ρ, st1, hl.ext x1, s1, q1⟩
            | true =>
              obtain ⟨b', e', q'⟩ := q1 ω1 H1 .refl s1
              cases e'
              exact q'
theorem snd_andE (hm : ∀ m ∈ ms, SndE N G k C cls dp m) : SndE N G k C cls dp (.and ms) := by
  intro X sc W e c h
  unfold chkE at h
  split at h
  · simp only [Bool.and_eq_true] at h
    obtain ⟨A, B⟩ := snd_and hm _ _ c h.1 (fun z => by rw [z] at h; simp at h)
    refine ⟨pe_imp A ?_, pt_imp B.pt ?_⟩
    · rintro σ H Q ⟨ω, ρ, st, hl, hs, hp⟩
      unfold ev at hp
      exact ⟨ω, ρ, st, hl, hs, hp⟩
    · rintro σ H Q ⟨ω, ρ, st, hl, hs, hp⟩
      unfold ev at hp
      exact ⟨ω, ρ, st, hl, hs, hp⟩
  · cases h
theorem snd_orE (hm : ∀ m ∈ ms, SndE N G k C cls dp m) : SndE N G k C cls dp (.or ms) := by
  intro X sc W e c h
  unfold chkE at h
  split at h
  · simp only [Bool.and_eq_true] at h
    obtain ⟨A, B⟩ := snd_or hm _ _ c h.1 (fun z => by rw [z] at h; simp at h)
    refine ⟨pe_imp A ?_, pt_imp B.pt ?_⟩
    · rintro σ H Q ⟨ω, ρ, st, hl, hs, hp⟩
      unfold ev at hp
      exact ⟨ω, ρ, st, hl, hs, hp⟩
    · rintro σ H Q ⟨ω, ρ, st, hl, hs, hp⟩
      unfold ev at hp
      exact ⟨ω, ρ, st, hl, hs, hp⟩
  · cases h
theorem snd_not (hm : SndE N G k C cls dp m) : SndE N G k C cls dp (.not m) := by
  intro X sc W e c h
  unfold chkE at h
  split at h
  · obtain ⟨A, B⟩ := hm X sc W _ c h
    refine ⟨pe_imp (pe_not A) ?_, pt_imp (pt_not B) ?_⟩
    · rintro σ H Q ⟨ω, ρ, st, hl, hs, hp⟩
      unfold ev at hp
      refine ⟨ω, ρ, st, hl, hs, (Post.bool hp).mono ?_⟩
      rintro d st1 ω1 H1 x1 s1 ⟨b, rfl, q1⟩ v r
      exact ⟨b, r, q1 ω1 H1 .refl s1 _ rfl⟩
    · rintro σ H Q ⟨ω, ρ, st, hl, hs, hp⟩
      unfold ev at hp
      refine ⟨ω, ρ, st, hl, hs, (Post.bool hp).mono ?_⟩
      rintro d st1 ω1 H1 x1 s1 ⟨b, rfl, q1⟩
      obtain ⟨b', e', q'⟩ := q1 ω1 H1 .refl s1
      cases e'
      exact ⟨b, rfl, q'⟩
  · cases h
theorem isTrue_ife {f : Expr} {pos : Pos} {tc ta tb : TT} {a b : Expr} (hc : PT X f tc) (ha : PT X a ta) (hb : PT X b tb) : PT X (.IfExp f a b pos) (fun σ H Q => tc σ H fun d H1 => if d = true then ta σ H1 Q else tb σ H1 Q) := by
  refine ⟨fun pins s σ H Q I h => ?_⟩
  show wpAny _ _ (do if ← isTrue f X.env (eval f X.env) then isTrue a X.env (eval a X.env) else isTrue b X.env (eval b X.env)) _ _ _
  refine wpAny_bind (thn (hc.run pins s σ H _ I h) fun d s1 ⟨H1, I1, q1⟩ => ?_)
  cases d with
  | true =>
    rw [if_pos rfl]
    exact ha.run pins s1 σ H1 Q I1 q1
  | false =>
    rw [if_neg Bool.false_ne_true]
    exact hb.run pins s1 σ H1 Q I1 q1
theorem snd_ife (hm : SndE N G k C cls dp m) (hn : SndE N G k C cls dp n) (hl : SndE N G k C cls dp l) : SndE N G k C cls dp (.ife m n l) := by
  intro X sc W e c h
  unfold chkE at h
  split at h
  · simp only [Bool.and_eq_true] at h
    obtain ⟨A, B⟩ := hm X sc W _ c h.1.1
    obtain ⟨A1, B1⟩ := hn X sc W _ c h.1.2
    obtain ⟨A2, B2⟩ := hl X sc W _ c h.2
    refine ⟨pe_imp (pe_ifExp B A1 A2) ?_, pt_imp (isTrue_ife B B1 B2) ?_⟩
    · rintro σ H Q ⟨ω, ρ, st, hl, hs, hp⟩
      unfold ev at hp
      refine ⟨ω, ρ, st, hl, hs, (Post.bool hp).mono ?_⟩
      rintro d st1 ω1 H1 x1 s1 ⟨b, rfl, q1⟩
      refine ⟨b, rfl, ?_⟩
      cases b with
      | true => exact ⟨ω1, ρ, st1, hl.ext x1, s1, q1⟩
      | false => exact ⟨ω1, ρ, st1, hl.ext x1, s1, q1⟩
    · rintro σ H Q ⟨ω, ρ, st, hl, hs, hp⟩
      unfold ev at hp
      refine ⟨ω, ρ, st, hl, hs, (Post.bool hp).mono ?_⟩
      rintro d st1 ω1 H1 x1 s1 ⟨b, rfl, q1⟩
      refine ⟨b, rfl, ?_⟩
      cases b with
      | true => exact ⟨ω1, ρ, st1, hl.ext x1, s1, q1⟩
      | false => exact ⟨ω1, ρ, st1, hl.ext x1, s1, q1⟩
  · cases h

theorem snd_call {f : Nat} (hm : ∀ m ∈ ms, SndE N G k C cls dp m) : SndE N G k C cls dp (.call f ms) := by
  intro X sc W e c h
  unfold chkE at h
  split at h
  · rename_i x p es pos
    simp only [Bool.and_eq_true, decide_eq_true_eq] at h
    obtain ⟨⟨⟨⟨⟨h1, h2⟩, h3⟩, h4⟩, h5⟩, h6⟩ := h
    obtain ⟨A, B⟩ := snd_es hm X sc W es c h5
    obtain ⟨fa, fd, ps, F, hmg, kp, hb⟩ := c.fns f x h1 h6
    have nm := nameOk_of h3
    cases es with
    | nil => simp at h4
    | cons e es =>
      rw [List.all_cons, Bool.and_eq_true] at B
      refine both_of (pe_imp (pe_callS F c.room (glb_of c.hsc h2) hmg kp hb (fun σ => passAt c.tk σ) A nm.d (star_of B.1 es X.env) (stars_of B.2)) ?_) rfl
      rintro σ H Q ⟨ω, ρ, st, hl, hs, hp⟩
      unfold ev at hp
      refine ⟨ω, ρ, st, hl, hs, (Post.bind hp).mono fun ds st1 ω1 H1 x1 s1 q1 vs r1 => ?_⟩
      refine ⟨ω1, st1, ds, dp + 1, s1, r1, ?_⟩
      revert q1
      cases C f ds st1 with
      | ok d st2 => exact fun q1 ω2 v H2 x2 s2 r2 => q1 ω2 H2 x2 s2 v r2
      | exc cc st2 => exact fun q1 ω2 H2 x2 s2 => q1 ω2 H2 x2 s2
      | fail => exact fun q1 => q1
  · cases h
end
end TL

namespace TL
open PySem L2 PyProof.Rows
section
variable {X : Cx} {N : List Str} {G : GT} {k : Nat} {C : Cal} {cls : Nat → Value} {dp : Nat} {sc : Scope} {W : WX} {e : Expr} {es : List Expr} {m n l a b : E} {ms : List E}
theorem cut_reps {K : KW} {ω : Wd} {H : Hp} {ds : List D} {vs : List V} (r : Reps K ω H ds vs) (lo hi : Option Int) : Reps K ω H (cutD ds lo hi) (cutV vs lo hi) := by
  unfold cutD cutV
  rw [r.length]
  exact Reps.take _ (Reps.drop _ r)
theorem cutD_le {α : Type} (xs : List α) (lo hi : Option Int) : (cutD xs lo hi).length ≤ xs.length := by
  unfold cutD
  rw [List.length_take, List.length_drop]
  omega
theorem cutD_whole {α : Type} {xs : List α} {lo hi : Option Int} (h : HT.sIx xs.length 0 lo = 0 ∧ HT.sIx xs.length xs.length hi = xs.length) : cutD xs lo hi = xs := by
  unfold cutD
  rw [h.1, h.2]
  simp
theorem sl_dCut : SlR X (fun x lo hi H Q => ∃ (ω : Wd) (a d : D), (∀ a, ω.wr a ≠ none → H a ≠ none) ∧ Rep X.kw ω H a x ∧ dCut a lo hi = some d ∧ ∀ H' v, Same H H' → Rep X.kw ω H' d v → Q v H') := by
  have h := (sl_tupA (X := X)).or ((sl_list (X := X)).or (sl_str (X := X)))
  intro pins s σ H x v vl vu lo hi sl Q I rx hs pl pu q0
  refine h pins s σ H x v vl vu lo hi sl Q I rx hs pl pu ?_
  obtain ⟨ω, a, d, tr, ra, e, q⟩ := q0
  unfold dCut at e
  split at e
  · cases e
    obtain ⟨l1, a1, vs, rfl, s1, r1⟩ := ra
    refine .inl ⟨a1, vs, rfl, s1, fun w => ?_, fun w p hp => ?_⟩
    · rw [r1.length] at w
      rw [cutD_whole w] at q
      exact q H _ same_refl ⟨l1, a1, vs, rfl, s1, r1⟩
    · exact q _ _ (same_new hp _) (rep_new_tup hp (cut_reps r1 _ _) (Nat.le_trans (cutD_le _ _ _) l1))
  · cases e
    obtain ⟨l1, a1, vs, rfl, s1, w1, r1⟩ := ra
    refine .inr (.inl ⟨a1, vs, rfl, SqL.of s1, fun p hp => ?_⟩)
    exact q _ _ (same_new hp _) (rep_new_lst tr hp (cut_reps r1 _ _) (Nat.le_trans (cutD_le _ _ _) l1))
  · cases e
    obtain ⟨rfl, l1⟩ := ra
    refine .inr (.inr ⟨_, rfl, l1, q H _ same_refl ⟨?_, ?_⟩⟩)
    · unfold cutS cutD
      rw [Array.length_toList]
      rfl
    · show (List.toArray (cutD _ lo hi)).size ≤ sizeLine
      rw [List.size_toArray]
      refine Nat.le_trans (cutD_le _ _ _) ?_
      rw [Array.length_toList]
      exact l1
  · cases e
/-- a part of a slice -/
def tPartE (K : KW) (C : Cal) (dp : Nat) (W : WX) (cls : Nat → Value) (ms : List E) : TO := fun σ H Q => ∃ ω ρ st, Loc K ω dp ρ σ H ∧ StoOk K ω st H ∧
  Post K dp W cls σ ω H ((evs C ms ρ st).bind fun l st => R.lift st (optI l)) fun o _ ω' H' => Q o H'
theorem po_imp {o : Option Expr} {t t' : TO} (h : PO X o t) (i : ∀ σ H Q, t' σ H Q → t σ H Q) : PO X o t' := ⟨fun pins s σ H Q I q => h.run pins s σ H Q I (i σ H Q q)⟩
theorem po_nil' : PO X none (tPartE X.kw C dp W cls []) := po_imp po_none (by
  rintro σ H Q ⟨ω, ρ, st, hl, hs, hp⟩
  unfold evs at hp
  exact hp ω H .refl hs)
theorem po_one' (h : PE X e (tE X.kw C dp W cls m)) : PO X (some e) (tPartE X.kw C dp W cls [m]) := po_imp (po_some h) (by
  rintro σ H Q ⟨ω, ρ, st, hl, hs, hp⟩
  unfold evs at hp
  refine ⟨ω, ρ, st, hl, hs, (Post.bind (Post.bind hp)).mono fun d st1 ω1 H1 x1 s1 q1 v r1 => ?_⟩
  unfold evs at q1
  have q1 : ∀ ω' H', Ext (dp + 1) ω1 H1 ω' H' → StoOk X.kw ω' st1 H' → Post X.kw dp W cls σ ω' H' (R.lift st1 (optI [d])) _ := q1
  obtain ⟨o, eo, q2⟩ := Post.lift (q1 ω1 H1 .refl s1)
  unfold optI at eo
  split at eo
  · rename_i z; cases z
  · rename_i z; cases z; cases eo
    exact ⟨_, r1, q2 ω1 H1 .refl s1⟩
  · cases eo)
theorem bind_assoc' {α β γ : Type} (r : R α) (f : α → Sto → R β) (g : β → Sto → R γ) : (r.bind f).bind g = r.bind fun a st => (f a st).bind g := by cases r <;> rfl
theorem snd_sl_core {lo hi : List E} {p2 pos : Pos} {el eh : Option Expr} {x : Expr} (A : PE X x (tE X.kw C dp W cls m)) (L : PO X el (tPartE X.kw C dp W cls lo)) (U : PO X eh (tPartE X.kw C dp W cls hi)) :
    PE X (.Subscript x (.Slice el eh none p2) pos) (tE X.kw C dp W cls (.sl m lo hi)) := by
  refine pe_imp (pe_slice sl_dCut A L U) ?_
  rintro σ H Q ⟨ω, ρ, st, hl, hs, hp⟩
  unfold ev at hp
  refine ⟨ω, ρ, st, hl, hs, (Post.bind hp).mono fun d st1 ω1 H1 x1 s1 q1 v r1 => ⟨ω1, ρ, st1, hl.ext x1, s1, ?_⟩⟩
  rw [← bind_assoc'] at q1
  refine (Post.bind q1).mono fun l st2 ω2 H2 x2 s2 q2 => ⟨ω2, ρ, st2, (hl.ext x1).ext x2, s2, ?_⟩
  rw [← bind_assoc'] at q2
  refine (Post.bind q2).mono fun u st3 ω3 H3 x3 s3 q3 => ?_
  obtain ⟨z, ez, q⟩ := Post.lift q3
  exact ⟨ω3, d, z, s3.trk, r1.ext (x2.trans x3), ez, fun H' v' gr r => q ω3 H' (.ofGrow s3 gr) (s3.grow gr) v' r⟩
theorem snd_sl {lo hi : List E} (hm : SndE N G k C cls dp m) (hlo : ∀ m ∈ lo, SndE N G k C cls dp m) (hhi : ∀ m ∈ hi, SndE N G k C cls dp m) : SndE N G k C cls dp (.sl m lo hi) := by
  intro X sc W e c h
  unfold chkE at h
  have one : ∀ {ms : List E} {x : Expr}, (∀ m ∈ ms, SndE N G k C cls dp m) → ms.length = 1 → chkEs N G ms sc [x] = true → PO X (some x) (tPartE X.kw C dp W cls ms) := by
    intro ms x hms l1 hc
    match ms, l1 with
    | [m], _ =>
      unfold chkEs at hc
      simp only [Bool.and_eq_true] at hc
      exact po_one' (hms m List.mem_cons_self X sc W x c hc.1.1).1
  have nil : ∀ {ms : List E}, ms.isEmpty = true → PO X none (tPartE X.kw C dp W cls ms) := by
    intro ms h0
    rw [List.isEmpty_iff.mp h0]
    exact po_nil'
  split at h
  · simp only [Bool.and_eq_true] at h
    exact both_of (snd_sl_core (hm X sc W _ c h.2).1 (nil h.1.1) (nil h.1.2)) rfl
  · simp only [Bool.and_eq_true, decide_eq_true_eq] at h
    exact both_of (snd_sl_core (hm X sc W _ c h.1.2).1 (one hlo h.1.1.1 h.2) (nil h.1.1.2)) rfl
  · simp only [Bool.and_eq_true, decide_eq_true_eq] at h
    exact both_of (snd_sl_core (hm X sc W _ c h.1.2).1 (nil h.1.1.1) (one hhi h.1.1.2 h.2)) rfl
  · simp only [Bool.and_eq_true, decide_eq_true_eq] at h
    exact both_of (snd_sl_core (hm X sc W _ c h.1.1.2).1 (one hlo h.1.1.1.1 h.1.2) (one hhi h.1.1.1.2 h.2)) rfl
  · cases h

structure Feeds (K : KW) (J : It) (ds : List D) (ω : Wd) (H : Hp) : Prop where
  len : ds.length ≤ sizeLine
  go : ∀ ω' H', Kept ω H ω' H' → ∀ i, i < ds.length → J.go i H'
  yld : ∀ ω' H', Kept ω H ω' H' → ∀ (i : Nat) (x : V) (H2 : Hp) (d : D), ds[i]? = some d → J.yld i H' x H2 → Same H' H2 ∧ Rep K ω' H2 d x
  stop : ∀ ω' H', Kept ω H ω' H' → J.stop ds.length H'
def tI (K : KW) (C : Cal) (dp : Nat) (W : WX) (cls : Nat → Value) (ik : IK) (ie : List E) : TI := fun σ H R => ∃ ω ρ st, Loc K ω dp ρ σ H ∧ StoOk K ω st H ∧
  Post K dp W cls σ ω H (evs C ie ρ st) fun ds _ ω' H' => ∃ xs, items ik ds = some xs ∧ ∀ J, Feeds K J xs ω' H' → R J H'
theorem pi_imp {tg it : Expr} {t t' : TI} (h : PI X tg it t) (i : ∀ σ H Q, t' σ H Q → t σ H Q) : PI X tg it t' := ⟨fun pins s σ H Q I q => h.run pins s σ H Q I (i σ H Q q)⟩
theorem feeds_tup {K : KW} {ω : Wd} {H : Hp} {a : Addr} {vs : List V} {ds : List D} (s : SqT K H a vs) (r : Reps K ω H ds vs) (l : ds.length ≤ sizeLine) : Feeds K (Itt K a) ds ω H where
  len := l
  go := fun ω' H' x i hi => by
    obtain ⟨v, e, _⟩ := r.get (List.getElem?_eq_getElem hi)
    exact ⟨vs, v, x.sqT s, e⟩
  yld := fun ω' H' x i v H2 d e y => by
    obtain ⟨rfl, y⟩ := y
    obtain ⟨v', e', r'⟩ := r.get e
    have := y vs (x.sqT s)
    rw [e'] at this
    cases this
    exact ⟨same_refl, Rep.kept x d _ r'⟩
  stop := fun ω' H' x => ⟨vs, x.sqT s, Nat.le_of_eq r.length⟩
theorem feeds_lst {K : KW} {ω : Wd} {H : Hp} {a : Addr} {vs : List V} {ds : List D} (s : ∀ ω' H', Kept ω H ω' H' → SqL K H' a vs) (r : Reps K ω H ds vs) (l : ds.length ≤ sizeLine) : Feeds K (Itl K a) ds ω H where
  len := l
  go := fun ω' H' x i hi => by
    obtain ⟨v, e, _⟩ := r.get (List.getElem?_eq_getElem hi)
    exact ⟨vs, v, s ω' H' x, e⟩
  yld := fun ω' H' x i v H2 d e y => by
    obtain ⟨rfl, y⟩ := y
    obtain ⟨v', e', r'⟩ := r.get e
    have := y vs (s ω' H2 x)
    rw [e'] at this
    cases this
    exact ⟨same_refl, Rep.kept x d _ r'⟩
  stop := fun ω' H' x => ⟨vs, s ω' H' x, Nat.le_of_eq r.length⟩
theorem feeds_str {K : KW} {ω : Wd} {H : Hp} {z : Str} (l : z.length ≤ sizeLine) : Feeds K (Its z) (z.cps.toList.map sign) ω H where
  len := by rw [List.length_map, Array.length_toList]; exact l
  go := fun ω' H' x i hi => by
    rw [List.length_map, Array.length_toList] at hi
    exact hi
  yld := fun ω' H' x i v H2 d e y => by
    obtain ⟨rfl, c, e1, rfl⟩ := y
    rw [List.getElem?_map, Array.getElem?_toList, e1] at e
    cases e
    exact ⟨same_refl, rfl, by show 1 ≤ sizeLine; rw [sizeLine_eq]; decide⟩
  stop := fun ω' H' x => by
    rw [List.length_map, Array.length_toList]
    exact Nat.le_refl _
theorem feeds_rng {K : KW} {ω : Wd} {H : Hp} {lo : Int} {n : Nat} (l : n ≤ sizeLine) : Feeds K (Itr lo n) ((List.range n).map fun (i : Nat) => D.int (lo + (i : Int))) ω H where
  len := by rw [List.length_map, List.length_range]; exact l
  go := fun ω' H' x i hi => by
    rw [List.length_map, List.length_range] at hi
    exact hi
  yld := fun ω' H' x i v H2 d e y => by
    obtain ⟨rfl, rfl⟩ := y
    rw [List.getElem?_map] at e
    cases q : (List.range n)[i]? with
    | none => rw [q] at e; cases e
    | some j =>
      rw [q] at e
      cases e
      have : j = i := by
        obtain ⟨h1, h2⟩ := List.getElem?_eq_some_iff.mp q
        rw [List.getElem_range] at h2
        exact h2.symm
      subst this
      exact ⟨same_refl, rfl⟩
  stop := fun ω' H' x => by
    rw [List.length_map, List.length_range]
    exact Nat.le_refl _
theorem feeds_enumL {K : KW} {ω : Wd} {H : Hp} {a : Addr} {vs : List V} {ds : List D} (s : ∀ ω' H', Kept ω H ω' H' → SqL K H' a vs) (r : Reps K ω H ds vs) (l : ds.length ≤ sizeLine) :
    Feeds K (Ite K a) (ds.zipIdx.map fun p => D.tup [.int (p.2 : Nat), p.1]) ω H where
  len := by rw [List.length_map, List.length_zipIdx]; exact l
  go := fun ω' H' x i hi => by
    rw [List.length_map, List.length_zipIdx] at hi
    obtain ⟨v, e, _⟩ := r.get (List.getElem?_eq_getElem hi)
    exact ⟨vs, v, s ω' H' x, e⟩
  yld := fun ω' H' x i v H2 d e y => by
    obtain ⟨T, z, rfl, hT, rfl, y⟩ := y
    rw [List.getElem?_map, List.getElem?_zipIdx] at e
    cases q : ds[i]? with
    | none => rw [q] at e; cases e
    | some d' =>
      rw [q] at e
      cases e
      obtain ⟨v', e', r'⟩ := r.get q
      have := y vs (s ω' H' x)
      rw [e'] at this
      cases this
      refine ⟨same_new hT _, rep_new_tup hT ⟨_, _, rfl, by show V.int _ = V.int _; rw [Nat.zero_add], _, _, rfl, Rep.kept x _ _ r', rfl⟩ (by show 2 ≤ sizeLine; rw [sizeLine_eq]; decide)⟩
  stop := fun ω' H' x => ⟨vs, s ω' H' x, by rw [List.length_map, List.length_zipIdx]; exact Nat.le_of_eq r.length⟩
end
end TL

namespace TL
open PySem L2 PyProof.Rows
section
variable {X : Cx} {N : List Str} {G : GT} {k : Nat} {C : Cal} {cls : Nat → Value} {dp : Nat} {sc : Scope} {W : WX} {e : Expr} {es : List Expr} {m n l a b : E} {ms : List E}
theorem feeds_enumT {K : KW} {ω : Wd} {H : Hp} {a : Addr} {vs : List V} {ds : List D} (s : SqT K H a vs) (r : Reps K ω H ds vs) (l : ds.length ≤ sizeLine) :
    Feeds K (IteT K a) (ds.zipIdx.map fun p => D.tup [.int (p.2 : Nat), p.1]) ω H where
  len := by rw [List.length_map, List.length_zipIdx]; exact l
  go := fun ω' H' x i hi => by
    rw [List.length_map, List.length_zipIdx] at hi
    obtain ⟨v, e, _⟩ := r.get (List.getElem?_eq_getElem hi)
    exact ⟨vs, v, x.sqT s, e⟩
  yld := fun ω' H' x i v H2 d e y => by
    obtain ⟨T, z, rfl, hT, rfl, y⟩ := y
    rw [List.getElem?_map, List.getElem?_zipIdx] at e
    cases q : ds[i]? with
    | none => rw [q] at e; cases e
    | some d' =>
      rw [q] at e
      cases e
      obtain ⟨v', e', r'⟩ := r.get q
      have := y vs (x.sqT s)
      rw [e'] at this
      cases this
      refine ⟨same_new hT _, rep_new_tup hT ⟨_, _, rfl, by show V.int _ = V.int _; rw [Nat.zero_add], _, _, rfl, Rep.kept x _ _ r', rfl⟩ (by show 2 ≤ sizeLine; rw [sizeLine_eq]; decide)⟩
  stop := fun ω' H' x => ⟨vs, x.sqT s, by rw [List.length_map, List.length_zipIdx]; exact Nat.le_of_eq r.length⟩
theorem ie_one {it : Expr} {ie : List E} (h : chkEs N G ie sc [it] = true) : ∃ m, ie = [m] ∧ chkE N G m sc it = true := by
  have l := chkEs_length h
  match ie, l with
  | [m], _ =>
    unfold chkEs at h
    simp only [Bool.and_eq_true] at h
    exact ⟨m, rfl, h.1.1⟩
/-- one expression, walked -/
theorem post_one {σ : L2.St} {ω : Wd} {H : Hp} {K : KW} {ρ : Env} {st : Sto} {P : List D → Sto → Wd → Hp → Prop} (h : Post K dp W cls σ ω H (evs C [m] ρ st) P) :
    Post K dp W cls σ ω H (ev C m ρ st) fun d st' ω' H' => P [d] st' ω' H' := by
  unfold evs at h
  refine (Post.bind h).mono fun d st1 ω1 H1 x1 s1 q1 => ?_
  unfold evs at q1
  have q1 : ∀ ω' H', Ext (dp + 1) ω1 H1 ω' H' → StoOk K ω' st1 H' → P [d] st1 ω' H' := q1
  exact q1 ω1 H1 .refl s1
theorem snd_it {ik : IK} {tg : T} {t it : Expr} {ie : List E} {own : List Nat} (hm : ∀ m ∈ ie, SndE N G k C cls dp m) (c : Cok X G k C cls N sc W) (h : itArgs G sc ik tg it = some es) (h2 : chkEs N G ie sc es = true)
    (h3 : ∀ is, tg = .tp is → ∃ es kk p, t = .Tuple es kk p) : PI X t it (tI X.kw C dp W cls ik ie) := by
  unfold itArgs at h
  have seqs : ∀ {t' : TI}, (∀ m, ie = [m] → PE X it (tE X.kw C dp W cls m) → PI X t it t') → es = [it] → PI X t it t' := by
    intro t' f e1
    subst e1
    obtain ⟨m, rfl, hc⟩ := ie_one h2
    exact f m rfl (hm m List.mem_cons_self X sc W it c hc).1
  split at h
  · rename_i y p es' pos
    split at h
    · rename_i hc
      cases h
      simp only [Bool.and_eq_true, Bool.or_eq_true, decide_eq_true_eq] at hc
      obtain ⟨⟨rfl, hf⟩, hl⟩ := hc
      have F := fre_of c hf
      obtain ⟨A, B⟩ := snd_es hm X sc W es c h2
      rcases hl with hl | hl
      · match es, hl with
        | [a], _ =>
          rw [List.all_cons, Bool.and_eq_true] at B
          refine pi_imp (pi_range1 F.g F.m A (star_of B.1 [] X.env)) ?_
          rintro σ H R ⟨ω, ρ, st, hl, hs, hp⟩
          refine ⟨ω, ρ, st, hl, hs, hp.len.mono ?_⟩
          rintro ds st' ω' H' x s ⟨ln, xs, e1, q⟩ vs r
          have l2 := chkEs_length h2
          unfold items at e1
          split at e1 <;> try cases e1
          all_goals try contradiction
          · split at e1
            · rename_i hb
              cases e1
              obtain ⟨v, rfl, rv⟩ := r.one
              cases rv
              refine ⟨_, rfl, hb.1, ?_, q _ (feeds_rng ?_)⟩
              · have := hb.2
                rw [sizeLine_eq] at this
                omega
              · have := hb.2
                omega
            · cases e1
          · exact absurd (ln.trans l2.symm) (by simp)
      · match es, hl with
        | [a, b], _ =>
          rw [List.all_cons, List.all_cons, Bool.and_eq_true, Bool.and_eq_true] at B
          refine pi_imp (pi_range2 F.g F.m A (by rw [star_of B.1, star_of B.2.1]; rfl) (star_of B.2.1 [] X.env)) ?_
          rintro σ H R ⟨ω, ρ, st, hl, hs, hp⟩
          refine ⟨ω, ρ, st, hl, hs, hp.len.mono ?_⟩
          rintro ds st' ω' H' x s ⟨ln, xs, e1, q⟩ vs r
          have l2 := chkEs_length h2
          unfold items at e1
          split at e1 <;> try cases e1
          all_goals try contradiction
          · exact absurd (ln.trans l2.symm) (by simp)
          · split at e1
            · rename_i hb
              cases e1
              obtain ⟨v, w, rfl, rv, rw'⟩ := r.two
              cases rv; cases rw'
              refine ⟨_, _, rfl, ⟨hb.1, hb.2.1, hb.2.2.1, hb.2.2.2.1⟩, q _ (feeds_rng ?_)⟩
              have := hb.2.2.2.2
              omega
            · cases e1
    · cases h
  · rename_i is y p es' pos
    split at h
    · rename_i hc
      cases h
      simp only [Bool.and_eq_true, decide_eq_true_eq] at hc
      obtain ⟨⟨rfl, hf⟩, hl⟩ := hc
      have F := fre_of c hf
      obtain ⟨A, B⟩ := snd_es hm X sc W es c h2
      obtain ⟨elts, kk, tp, rfl⟩ := h3 is rfl
      match es, hl with
      | [a], _ =>
        rw [List.all_cons, Bool.and_eq_true] at B
        refine pi_imp (pi_enumT F.g F.m A (star_of B.1 [] X.env)) ?_
        rintro σ H R ⟨ω, ρ, st, hl, hs, hp⟩
        refine ⟨ω, ρ, st, hl, hs, hp.mono ?_⟩
        rintro ds st' ω' H' x s ⟨xs, e1, q⟩ vs r
        unfold items at e1
        split at e1 <;> try cases e1
        all_goals try contradiction
        obtain ⟨v, rfl, l1, a1, ws, rfl, s1, r1⟩ := r.one
        exact ⟨a1, ws, rfl, s1, q _ (feeds_enumT s1 r1 l1)⟩
    · cases h
  · rename_i is y p es' pos
    split at h
    · rename_i hc
      cases h
      simp only [Bool.and_eq_true, decide_eq_true_eq] at hc
      obtain ⟨⟨rfl, hf⟩, hl⟩ := hc
      have F := fre_of c hf
      obtain ⟨A, B⟩ := snd_es hm X sc W es c h2
      obtain ⟨elts, kk, tp, rfl⟩ := h3 is rfl
      match es, hl with
      | [a], _ =>
        rw [List.all_cons, Bool.and_eq_true] at B
        refine pi_imp (pi_enum F.g F.m A (star_of B.1 [] X.env)) ?_
        rintro σ H R ⟨ω, ρ, st, hl, hs, hp⟩
        refine ⟨ω, ρ, st, hl, hs, hp.mono ?_⟩
        rintro ds st' ω' H' x s ⟨xs, e1, q⟩ vs r
        unfold items at e1
        split at e1 <;> try cases e1
        all_goals try contradiction
        obtain ⟨v, rfl, l1, a1, ws, rfl, s1, w1, r1⟩ := r.one
        exact ⟨a1, ws, rfl, SqL.of s1, q _ (feeds_enumL (fun ω2 H2 x => SqL.of (x.lst _ _ s1 w1).1) r1 l1)⟩
    · cases h
  · cases h
    refine seqs (fun m em A => ?_) rfl
    subst em
    refine pi_imp (pi_tup A) ?_
    rintro σ H R ⟨ω, ρ, st, hl, hs, hp⟩
    refine ⟨ω, ρ, st, hl, hs, (post_one hp).mono ?_⟩
    rintro d st' ω' H' x s ⟨xs, e1, q⟩ v r
    cases d <;> first | (simp [items] at e1; done) | skip
    simp only [items, Option.some.injEq] at e1
    subst e1
    obtain ⟨l1, a1, ws, rfl, s1, r1⟩ := r
    exact ⟨a1, rfl, ⟨ws, s1⟩, q _ (feeds_tup s1 r1 l1)⟩
  · cases h
    refine seqs (fun m em A => ?_) rfl
    subst em
    refine pi_imp (pi_list A) ?_
    rintro σ H R ⟨ω, ρ, st, hl, hs, hp⟩
    refine ⟨ω, ρ, st, hl, hs, (post_one hp).mono ?_⟩
    rintro d st' ω' H' x s ⟨xs, e1, q⟩ v r
    cases d <;> first | (simp [items] at e1; done) | skip
    simp only [items, Option.some.injEq] at e1
    subst e1
    obtain ⟨l1, a1, ws, rfl, s1, w1, r1⟩ := r
    exact ⟨a1, rfl, ⟨ws, SqL.of s1⟩, q _ (feeds_lst (fun ω2 H2 x => SqL.of (x.lst _ _ s1 w1).1) r1 l1)⟩
  · cases h
    refine seqs (fun m em A => ?_) rfl
    subst em
    refine pi_imp (pi_list A) ?_
    rintro σ H R ⟨ω, ρ, st, hl, hs, hp⟩
    refine ⟨ω, ρ, st, hl, hs, (post_one hp).mono ?_⟩
    rintro d st' ω' H' x s ⟨xs, e1, q⟩ v r
    cases d <;> first | (simp [items] at e1; done) | skip
    simp only [items, Option.some.injEq] at e1
    subst e1
    obtain ⟨l1, a1, ws, rfl, s1, r1⟩ := r
    refine ⟨a1, rfl, ⟨ws, sq_fls s1⟩, q _ (feeds_lst (fun ω2 H2 x => sq_fls (ω := ω2) ?_) r1 l1)⟩
    rcases s1 with ⟨s1, w1⟩ | ⟨o, s1⟩ | s1
    · exact .inl (x.lst _ _ s1 w1)
    · exact .inr (.inl ⟨o, x.frz _ _ _ s1⟩)
    · exact .inr (.inr s1)
  · cases h
    refine seqs (fun m em A => ?_) rfl
    subst em
    refine pi_imp (pi_str A) ?_
    rintro σ H R ⟨ω, ρ, st, hl, hs, hp⟩
    refine ⟨ω, ρ, st, hl, hs, (post_one hp).mono ?_⟩
    rintro d st' ω' H' x s ⟨xs, e1, q⟩ v r
    cases d <;> first | (simp [items] at e1; done) | skip
    simp only [items, Option.some.injEq] at e1
    subst e1
    obtain ⟨rfl, l1⟩ := r
    exact ⟨_, rfl, q _ (feeds_str l1)⟩
  · cases h

def gNames : List Nat → TGs
  | [] => gNil
  | i :: is => gCons (gName i) (gNames is)
def gT (K : KW) : T → TG
  | .nm i => gName i
  | .tp is => gTup K is.length (gNames is)
theorem Loc.set {K : KW} {ω : Wd} {H : Hp} {ρ : Env} {σ : L2.St} {i : Nat} {d : D} {v : V} (h : Loc K ω dp ρ σ H) (r : OwnR K ω H (.slot dp i) d v) : Loc K ω dp (ρ.set i (some d)) (σ.set i (some v)) H :=
  ⟨by rw [List.length_set, List.length_set]; exact h.len, fun j d' e => by
    by_cases hj : j = i
    · subst hj
      by_cases hl : j < ρ.length
      · rw [List.getElem?_set_self hl] at e
        cases e
        exact ⟨v, List.getElem?_set_self (by rw [h.len]; exact hl), r⟩
      · rw [List.getElem?_eq_none (by rw [List.length_set]; omega)] at e
        cases e
    · rw [List.getElem?_set_ne (Ne.symm hj)] at e
      obtain ⟨v', e', r'⟩ := h.at_ j d' e
      exact ⟨v', by rw [List.getElem?_set_ne (Ne.symm hj)]; exact e', r'⟩⟩
theorem Loc.setNone {K : KW} {ω : Wd} {H : Hp} {ρ : Env} {σ : L2.St} {i : Nat} (h : Loc K ω dp ρ σ H) : Loc K ω dp (ρ.set i none) (σ.set i none) H :=
  ⟨by rw [List.length_set, List.length_set]; exact h.len, fun j d' e => by
    by_cases hj : j = i
    · subst hj
      by_cases hl : j < ρ.length
      · rw [List.getElem?_set_self hl] at e
        cases e
      · rw [List.getElem?_eq_none (by rw [List.length_set]; omega)] at e
        cases e
    · rw [List.getElem?_set_ne (Ne.symm hj)] at e
      obtain ⟨v', e', r'⟩ := h.at_ j d' e
      exact ⟨v', by rw [List.getElem?_set_ne (Ne.symm hj)]; exact e', r'⟩⟩
theorem Loc.wipe {K : KW} {ω : Wd} {H : Hp} {ρ : Env} {σ : L2.St} (h : Loc K ω dp ρ σ H) : ∀ vs : List Nat, Loc K ω dp (wipeE ρ vs) (L2.wipe σ vs) H
  | [] => h
  | v :: vs => (Loc.wipe h vs).setNone
theorem wipe_off : ∀ {own : List Nat} {i : Nat} {x : Option V} {σ : L2.St}, i ∉ own → L2.wipe (σ.set i x) own = (L2.wipe σ own).set i x
  | [], i, x, σ, h => rfl
  | o :: own, i, x, σ, h => by
    simp only [List.mem_cons, not_or] at h
    show (L2.wipe (σ.set i x) own).set o none = ((L2.wipe σ own).set o none).set i x
    rw [wipe_off h.2, List.set_comm _ _ h.1]
theorem wipe_set : ∀ {own : List Nat} {i : Nat} {x : Option V} {σ : L2.St}, i ∈ own → L2.wipe (σ.set i x) own = L2.wipe σ own
  | [], i, x, σ, h => by simp at h
  | o :: own, i, x, σ, h => by
    show (L2.wipe (σ.set i x) own).set o none = (L2.wipe σ own).set o none
    by_cases hi : i ∈ own
    · rw [wipe_set hi]
    · have e : i = o := by
        rcases List.mem_cons.mp h with e | h
        · exact e
        · exact absurd h hi
      subst e
      rw [wipe_off hi, List.set_set]
theorem gNames_of {K : KW} {ω : Wd} {H : Hp} {Q : L2.St → Hp → Prop} : ∀ {is : List Nat} {ds : List D} {vs : List V} {ρ : Env} {σ : L2.St}, Loc K ω dp ρ σ H → Reps K ω H ds vs → ds.length = is.length →
    (∀ σ', Loc K ω dp (setAll is ds ρ) σ' H → (∀ own, (∀ i ∈ is, i ∈ own) → L2.wipe σ' own = L2.wipe σ own) → Q σ' H) → gNames is vs σ H Q
  | [], [], vs, ρ, σ, hl, r, _, q => ⟨r, q σ hl fun _ _ => rfl⟩
  | i :: is, d :: ds, vs, ρ, σ, hl, r, e, q => by
    obtain ⟨v, rr, rfl, r1, r2⟩ := r
    refine ⟨v, rr, rfl, ?_⟩
    refine gNames_of (hl.set (OwnR.of r1)) r2 (by simpa using e) fun σ' hl' hw => q σ' hl' fun own ho => ?_
    rw [hw own fun j hj => ho j (List.mem_cons_of_mem _ hj)]
    exact wipe_set (ho i List.mem_cons_self)
  | [], _ :: _, _, _, _, _, _, e, _ => by simp at e
  | _ :: _, [], _, _, _, _, _, e, _ => by simp at e
/-- a target takes a value -/
theorem gT_of {K : KW} {ω : Wd} {H : Hp} {Q : L2.St → Hp → Prop} {tg : T} {d : D} {v : V} {ρ ρ' : Env} {σ : L2.St} (hl : Loc K ω dp ρ σ H) (r : Rep K ω H d v) (hb : bindT tg d ρ = some ρ')
    (q : ∀ σ', Loc K ω dp ρ' σ' H → (∀ own, (∀ i ∈ (match tg with | .nm i => [i] | .tp is => is), i ∈ own) → L2.wipe σ' own = L2.wipe σ own) → Q σ' H) : gT K tg v σ H Q := by
  cases tg with
  | nm i =>
    simp only [bindT] at hb
    split at hb
    · cases hb
    · cases hb
      exact q _ (hl.set (OwnR.of r)) fun own ho => wipe_set (ho i List.mem_cons_self)
  | tp is =>
    cases d <;> first | (simp [bindT] at hb; done) | skip
    simp only [bindT] at hb
    split at hb
    · rename_i he
      cases hb
      obtain ⟨l1, a1, ws, rfl, s1, r1⟩ := r
      exact ⟨a1, ws, rfl, s1, r1.length.trans he, gNames_of hl r1 he q⟩
    · cases hb
end
end TL

namespace TL
open PySem L2 PyProof.Rows
section
variable {X : Cx} {N : List Str} {G : GT} {k : Nat} {C : Cal} {cls : Nat → Value} {dp : Nat} {sc : Scope} {W : WX} {e : Expr} {es : List Expr} {m n l a b : E} {ms : List E}
theorem lcl_of {df : Bool} {x : Str} (hsc : X.env.scope = sc) (hf : df = true → ∀ y, X.fn y = true) (h : lcl df sc x = true) : L2.Loc X.env.scope x ∧ (X.fn x = true ∨ X.env.scope.names.lookup x = some .local) := by
  unfold lcl at h
  rw [hsc]
  split at h
  · rename_i q; exact ⟨.inl q, .inr q⟩
  · rename_i q; exact ⟨.inr q, .inl (hf h x)⟩
  · cases h
theorem tgs_of {df : Bool} {own is : List Nat} {es : List Expr} (hN : X.N = N) (nd : N.Nodup) (hsc : X.env.scope = sc) (hf : df = true → ∀ y, X.fn y = true) (h : tgOk.tgs df N sc own is es = true) : PGs X es (gNames is) ∧ es.length = is.length ∧ (∀ i ∈ is, i ∈ own) ∧ (assignEach es X.env).findIdx? (·.1) = none ∧ (assignEach es X.env).length = is.length := by
  induction is generalizing es with
  | nil =>
    cases es with
    | nil => exact ⟨pgs_nil, rfl, by simp, rfl, rfl⟩
    | cons e es => simp [tgOk.tgs] at h
  | cons i is ih =>
    cases es with
    | nil => simp [tgOk.tgs] at h
    | cons e es =>
      cases e <;> first | (simp [tgOk.tgs] at h; done) | skip
      rename_i x p
      simp only [tgOk.tgs, Bool.and_eq_true, decide_eq_true_eq] at h
      obtain ⟨⟨⟨h1, h2⟩, h3⟩, h4⟩ := h
      obtain ⟨q1, q2⟩ := lcl_of hsc hf h3
      obtain ⟨A, B, D, F, L⟩ := ih h4
      refine ⟨pgs_cons (pg_name (i := i) (by rw [hN]; exact nd) (by rw [hN]; exact h1) q1 q2) A rfl, by rw [List.length_cons, List.length_cons, B], fun j hj => ?_, ?_, ?_⟩
      · rcases List.mem_cons.mp hj with rfl | hj
        · exact h2
        · exact D j hj
      · show List.findIdx? (·.1) ((false, _) :: assignEach es X.env) = none
        rw [List.findIdx?_cons]
        show Option.map _ _ = none
        rw [F]
        rfl
      · show (_ :: assignEach es X.env).length = _
        rw [List.length_cons, List.length_cons, L]
theorem tg_of {df : Bool} {own : List Nat} {tg : T} {t : Expr} (hN : X.N = N) (nd : N.Nodup) (hsc : X.env.scope = sc) (hf : df = true → ∀ y, X.fn y = true) (hc : X.calm = true) (h : tgOk df N sc own tg t = true) : PG X t (gT X.kw tg) := by
  unfold tgOk at h
  split at h
  · rename_i i x p
    simp only [Bool.and_eq_true, decide_eq_true_eq] at h
    obtain ⟨⟨h1, h2⟩, h3⟩ := h
    obtain ⟨q1, q2⟩ := lcl_of hsc hf h3
    exact pg_name (i := i) (by rw [hN]; exact nd) (by rw [hN]; exact h1) q1 q2
  · obtain ⟨A, B, D, F, L⟩ := tgs_of hN nd hsc hf h
    exact pg_tup hc A L F
  · cases h
theorem tg_sub {df : Bool} {own : List Nat} {tg : T} {t : Expr} (h : tgOk df N sc own tg t = true) : ∀ i ∈ (match tg with | .nm i => [i] | .tp is => is), i ∈ own := by
  unfold tgOk at h
  split at h
  · simp only [Bool.and_eq_true, decide_eq_true_eq] at h
    intro j hj
    rw [List.mem_singleton.mp hj]
    exact h.1.2
  · rename_i is es _ _
    have key : ∀ {is : List Nat} {es : List Expr}, tgOk.tgs df N sc own is es = true → ∀ i ∈ is, i ∈ own := by
      intro is
      induction is with
      | nil => simp
      | cons i is ih =>
        intro es h
        cases es with
        | nil => simp [tgOk.tgs] at h
        | cons e es =>
          cases e <;> first | (simp [tgOk.tgs] at h; done) | skip
          simp only [tgOk.tgs, Bool.and_eq_true, decide_eq_true_eq] at h
          intro j hj
          rcases List.mem_cons.mp hj with rfl | hj
          · exact h.1.1.2
          · exact ih h.2 j hj
    exact key h
  · cases h
theorem tg_shape {df : Bool} {own : List Nat} {tg : T} {t : Expr} (h : tgOk df N sc own tg t = true) : ∀ is, tg = .tp is → ∃ es kk p, t = .Tuple es kk p := by
  rintro is rfl
  cases t <;> first | exact ⟨_, _, _, rfl⟩ | (simp [tgOk] at h)
/-- a comprehension's block -/
theorem Cok.blk (c : Cok X G k C cls N sc W) (s : Shared) (H : Hp) (scope : Scope) (Cc : Addr) (cl : List (Str × Addr)) (fp : List Addr) : Cok (X.blk s H scope (compEnvC scope cl Cc X.env) fp) G k C cls N (relS scope sc) (fun _ _ _ _ => False) where
  hN := c.hN
  nd := c.nd
  hsc := by rw [← c.hsc]; rfl
  calm := c.calm
  room := c.room
  tk := fun u s' ⟨_, _, _, _, _, _, _, _, _, _, _, _, _, _, _, _, w⟩ => w
  fns := c.fns
  cst := c.cst
  blt := c.blt
  room1 := c.room1
  clss := c.clss

def Wd.put (ω : Wd) (a : Addr) (t : Root × List Str) : Wd := { ω with wr := fun b => if b = a then some t else ω.wr b }
def Wd.free (ω : Wd) (a : Addr) : Wd := { ω with wr := fun b => if b = a then none else ω.wr b }
variable {K : KW} {ω ω' ω'' : Wd} {H H' H'' : Hp} {D₀ : Addr} {t : Root × List Str} {o : HO} {st : Sto}
theorem Kept.put (h : H D₀ = none) : Kept ω H (ω.put D₀ t) (upd H D₀ o) where
  mu := List.prefix_refl _
  tup := fun a xs e => by rw [upd_ne (ne_of_none e h)]; exact e
  frz := fun a o u e => by rw [upd_ne (ne_of_none e h)]; exact e
  lst := fun a xs e w => by
    refine ⟨by rw [upd_ne (ne_of_none e h)]; exact e, ?_⟩
    show (if a = D₀ then some t else ω.wr a) = none
    rw [if_neg (ne_of_none e h)]
    exact w
  dic := fun a xs e w => by
    refine ⟨by rw [upd_ne (ne_of_none e h)]; exact e, ?_⟩
    show (if a = D₀ then some t else ω.wr a) = none
    rw [if_neg (ne_of_none e h)]
    exact w
theorem Ext.put {d : Nat} (tr : ∀ a, ω.wr a ≠ none → H a ≠ none) (h : H D₀ = none) : Ext d ω H (ω.put D₀ t) (upd H D₀ o) where
  kept := .put h
  fix := fun a k i p e _ => by
    have ne : a ≠ D₀ := fun z => tr a (by rw [e]; simp) (by rw [z]; exact h)
    refine ⟨?_, upd_ne ne⟩
    show (if a = D₀ then some t else ω.wr a) = ω.wr a
    rw [if_neg ne]
theorem StoOk.put (s : StoOk K ω st H) (h : H D₀ = none) : StoOk K (ω.put D₀ t) st (upd H D₀ o) where
  len := s.len
  trk := fun a e => by
    by_cases q : a = D₀
    · rw [q, upd_same]; simp
    · rw [upd_ne q]
      refine s.trk a ?_
      have e' : (if a = D₀ then some t else ω.wr a) ≠ none := e
      rw [if_neg q] at e'
      exact e'
  at_ := fun l d e => (s.at_ l d e).kept ⟨.put h, fun a p e => by
    have ne : a ≠ D₀ := fun z => s.trk a (by rw [e]; simp) (by rw [z]; exact h)
    refine ⟨?_, upd_ne ne⟩
    show (if a = D₀ then some t else ω.wr a) = ω.wr a
    rw [if_neg ne]⟩
theorem Wd.put_same : (ω.put D₀ t).wr D₀ = some t := by show (if D₀ = D₀ then _ else _) = _; rw [if_pos rfl]
/-- a list that is owned is changed -/
theorem Kept.write {xs : List V} (w : ω.wr D₀ = some t) (h : H D₀ = some (.lst xs)) : Kept ω H ω (upd H D₀ o) where
  mu := List.prefix_refl _
  tup := fun a ys e => by
    have ne : a ≠ D₀ := fun z => by rw [z, h] at e; cases e
    rw [upd_ne ne]; exact e
  frz := fun a o u e => by
    have ne : a ≠ D₀ := fun z => by rw [z, h] at e; cases e
    rw [upd_ne ne]; exact e
  lst := fun a ys e w' => by
    have ne : a ≠ D₀ := fun z => by rw [z, w] at w'; cases w'
    rw [upd_ne ne]; exact ⟨e, w'⟩
  dic := fun a ys e w' => by
    have ne : a ≠ D₀ := fun z => by rw [z, w] at w'; cases w'
    rw [upd_ne ne]; exact ⟨e, w'⟩
/-- what is no tuple, is not known to the object, and is somebody's, is changed -/
structure Chg (ω : Wd) (H : Hp) (D₀ : Addr) : Prop where
  tup : ∀ xs, H D₀ ≠ some (.tup xs)
  frz : ∀ o u, H D₀ ≠ some (.frz o u)
  own : ω.wr D₀ ≠ none
theorem Chg.kept (c : Chg ω H D₀) : Kept ω H ω (upd H D₀ o) where
  mu := List.prefix_refl _
  tup := fun a ys e => by
    have ne : a ≠ D₀ := fun z => by rw [z] at e; exact c.tup _ e
    rw [upd_ne ne]; exact e
  frz := fun a o u e => by
    have ne : a ≠ D₀ := fun z => by rw [z] at e; exact c.frz _ _ e
    rw [upd_ne ne]; exact e
  lst := fun a ys e w' => by
    have ne : a ≠ D₀ := fun z => by rw [z] at w'; exact c.own w'
    rw [upd_ne ne]; exact ⟨e, w'⟩
  dic := fun a ys e w' => by
    have ne : a ≠ D₀ := fun z => by rw [z] at w'; exact c.own w'
    rw [upd_ne ne]; exact ⟨e, w'⟩
theorem StoOk.write {d i : Nat} {p : List Str} (s : StoOk K ω st H) (w : ω.wr D₀ = some (.slot d i, p)) (kp : Kept ω H ω (upd H D₀ o)) : StoOk K ω st (upd H D₀ o) where
  len := s.len
  trk := fun a e => by
    by_cases q : a = D₀
    · rw [q, upd_same]; simp
    · rw [upd_ne q]
      exact s.trk a e
  at_ := fun l d e => (s.at_ l d e).kept ⟨kp, fun a p e => ⟨rfl, upd_ne fun z => by rw [z, w] at e; cases e⟩⟩
/-- .. seen from where it was not there yet -/
theorem Ext.writeNew {d : Nat} (tr : ∀ a, ω.wr a ≠ none → H a ≠ none) (x : Ext d ω H ω' H') (h : H D₀ = none) : Ext d ω H ω' (upd H' D₀ o) where
  kept := {
    mu := x.kept.mu
    tup := fun a xs e => by rw [upd_ne (ne_of_none e h)]; exact x.kept.tup a xs e
    frz := fun a o u e => by rw [upd_ne (ne_of_none e h)]; exact x.kept.frz a o u e
    lst := fun a xs e w => by rw [upd_ne (ne_of_none e h)]; exact x.kept.lst a xs e w
    dic := fun a xs e w => by rw [upd_ne (ne_of_none e h)]; exact x.kept.dic a xs e w }
  fix := fun a k i p e hk => by
    have ne : a ≠ D₀ := fun z => tr a (by rw [e]; simp) (by rw [z]; exact h)
    rw [upd_ne ne]
    exact x.fix a k i p e hk
theorem Kept.free : Kept ω H (ω.free D₀) H where
  mu := List.prefix_refl _
  tup := fun a xs e => e
  frz := fun a o u e => e
  lst := fun a xs e w => by
    refine ⟨e, ?_⟩
    show (if a = D₀ then none else ω.wr a) = none
    split
    · rfl
    · exact w
  dic := fun a xs e w => by
    refine ⟨e, ?_⟩
    show (if a = D₀ then none else ω.wr a) = none
    split
    · rfl
    · exact w
theorem StoOk.free {d i : Nat} {p : List Str} (s : StoOk K ω st H) (w : ω.wr D₀ = some (.slot d i, p)) : StoOk K (ω.free D₀) st H where
  len := s.len
  trk := fun a e => by
    refine s.trk a fun z => e ?_
    show (if a = D₀ then none else ω.wr a) = none
    split
    · rfl
    · exact z
  at_ := fun l d e => (s.at_ l d e).kept ⟨.free, fun a p e => ⟨by
    have ne : a ≠ D₀ := fun z => by rw [z, w] at e; cases e
    show (if a = D₀ then none else ω.wr a) = ω.wr a
    rw [if_neg ne], rfl⟩⟩
theorem Ext.freeNew {d : Nat} (tr : ∀ a, ω.wr a ≠ none → H a ≠ none) (x : Ext d ω H ω' H') (h : H D₀ = none) : Ext d ω H (ω'.free D₀) H' where
  kept := x.kept.trans .free
  fix := fun a k i p e hk => by
    have ne : a ≠ D₀ := fun z => tr a (by rw [e]; simp) (by rw [z]; exact h)
    refine ⟨?_, (x.fix a k i p e hk).2⟩
    show (if a = D₀ then none else ω'.wr a) = _
    rw [if_neg ne]
    exact (x.fix a k i p e hk).1

theorem R.bind_ok {α β : Type} {r : R α} {f : α → Sto → R β} {b : β} {st' : Sto} (h : r.bind f = .ok b st') : ∃ a st1, r = .ok a st1 ∧ f a st1 = .ok b st' := by
  cases r with
  | ok a st1 => exact ⟨a, st1, rfl, h⟩
  | exc c st1 => cases h
  | fail => cases h
theorem lcGo_length {bnd : D → Option Env} {cf ef : Env → Sto → R D} : ∀ {xs : List D} {st st' : Sto} {ds : List D}, lcGo bnd cf ef xs st = .ok ds st' → ds.length ≤ xs.length
  | [], st, st', ds, h => by
    unfold lcGo at h
    cases h
    exact Nat.le_refl _
  | x :: xs, st, st', ds, h => by
    unfold lcGo at h
    cases q : bnd x with
    | none => rw [q] at h; cases h
    | some ρ =>
      rw [q] at h
      obtain ⟨b, st1, e1, h⟩ := R.bind_ok h
      cases b <;> first | (cases h; done) | skip
      rename_i kk
      cases kk with
      | true =>
        obtain ⟨d, st2, e2, h⟩ := R.bind_ok h
        split at h
        · cases h
        · obtain ⟨ds2, st3, e3, h⟩ := R.bind_ok h
          cases h
          exact Nat.succ_le_succ (lcGo_length e3)
      | false => exact Nat.le_succ_of_le (lcGo_length h)
/-- what is made of a list, turn by turn -/
theorem lc_run {J : It} {xs : List D} {tg : T} {elt : E} {cond : List E} {own : List Nat} {σ : L2.St} {ρ : Env} {Q : VK} {stF : Sto} {dsF : List D} {W' : WX}
    (tr : ∀ a, ω.wr a ≠ none → H a ≠ none) (hl : Loc K ω dp ρ σ H) (s : StoOk K ω st H) (F : Feeds K J xs ω H) (sub : ∀ i ∈ (match tg with | .nm i => [i] | .tp is => is), i ∈ own)
    (e : lcGo (fun x => bindT tg x (wipeE ρ own)) (fun ρ st => evAnd1 C cond ρ st) (fun ρ st => ev C elt ρ st) xs st = .ok dsF stF)
    (q : ∀ ω' H', Ext (dp + 1) ω H ω' H' → StoOk K ω' stF H' → ∀ v, Rep K ω' H' (.lst dsF) v → Q v H') :
    ∀ D, H D = none → ∃ Wv : Nat → Nat → Hp → Prop, (∃ m, Wv 0 m (upd H D (.lst []))) ∧ ∀ i m H, Wv i m H →
      (J.stop i H ∧ Q (.ref D) H) ∨ (J.go i H ∧ ∃ Nx : Hp → Prop, (∀ H', Nx H' → ∃ m', m' < m ∧ Wv (i + 1) m' H') ∧ ∀ x H', J.yld i H x H' → gT K tg x (L2.wipe σ own) H' fun σ2 H2 => L2.wipe σ2 own = L2.wipe σ own ∧
        tTf K dp W' cls (fun ρ st => evAnd1 C cond ρ st) σ2 H2 fun b H3 =>
        if b = true then tEf K dp W' cls (fun ρ st => ev C elt ρ st) σ2 H3 fun y H4 => ∃ acc, H4 D = some (.lst acc) ∧ acc.length < sizeLine ∧ Nx (upd H4 D (.lst (acc ++ [y]))) else Nx H3) := by
  intro D hD
  refine ⟨fun i mm H2 => mm = xs.length - i ∧ i ≤ xs.length ∧ ∃ (ω2 : Wd) (st2 : Sto) (accD : List TL.D) (accV : List V) (rest : List TL.D), Ext (dp + 1) ω H ω2 H2 ∧ StoOk K ω2 st2 H2 ∧ ω2.wr D = some (.slot dp 0, [("" : Str)]) ∧ H2 D = some (.lst accV) ∧ Reps K ω2 H2 accD accV ∧
      accD.length ≤ i ∧ lcGo (fun x => bindT tg x (wipeE ρ own)) (fun ρ st => evAnd1 C cond ρ st) (fun ρ st => ev C elt ρ st) (xs.drop i) st2 = .ok rest stF ∧ dsF = accD ++ rest,
    ⟨xs.length, by simp, Nat.zero_le _, ω.put D (.slot dp 0, [("" : Str)]), st, [], [], dsF, .put tr hD, s.put hD, Wd.put_same, upd_same, rfl, Nat.le_refl _, e, rfl⟩, ?_⟩
  rintro i mm H2 ⟨rfl, hi, ω2, st2, accD, accV, rest, x2, s2, w2, h2, r2, l2, e2, ed⟩
  by_cases hlt : i < xs.length
  · rw [List.drop_eq_getElem_cons hlt] at e2
    unfold lcGo at e2
    cases qb : bindT tg xs[i] (wipeE ρ own) with
    | none => rw [qb] at e2; cases e2
    | some ρ2 =>
      rw [qb] at e2
      obtain ⟨b, st3, e3, e2⟩ := R.bind_ok e2
      refine .inr ⟨F.go ω2 H2 x2.kept i hlt, fun H3 => ∃ (ω3 : Wd) (st3 : Sto) (accD : List TL.D) (accV : List V) (rest : List TL.D), Ext (dp + 1) ω H ω3 H3 ∧ StoOk K ω3 st3 H3 ∧ ω3.wr D = some (.slot dp 0, [("" : Str)]) ∧ H3 D = some (.lst accV) ∧ Reps K ω3 H3 accD accV ∧
          accD.length ≤ i + 1 ∧ lcGo (fun x => bindT tg x (wipeE ρ own)) (fun ρ st => evAnd1 C cond ρ st) (fun ρ st => ev C elt ρ st) (xs.drop (i + 1)) st3 = .ok rest stF ∧ dsF = accD ++ rest,
        fun H3 h3 => ⟨xs.length - (i + 1), by omega, rfl, hlt, h3⟩, fun x H3 y => ?_⟩
      obtain ⟨gr, rx⟩ := F.yld ω2 H2 x2.kept i x H3 xs[i] (List.getElem?_eq_getElem hlt) y
      have s3 := s2.grow gr
      have x3 : Ext (dp + 1) ω2 H2 ω2 H3 := .ofGrow s2 gr
      have l3 : Loc K ω2 dp (wipeE ρ own) (L2.wipe σ own) H3 := (hl.ext (x2.trans x3)).wipe own
      refine gT_of l3 rx qb fun σ4 l4 hw => ⟨?_, ?_⟩
      · rw [hw own sub]
        clear hw l3 l4
        induction own with
        | nil => rfl
        | cons o own ih =>
          have key : ∀ (own : List Nat) (σ : L2.St), L2.wipe (L2.wipe σ own) own = L2.wipe σ own := by
            intro own
            induction own with
            | nil => intro σ; rfl
            | cons o own ih =>
              intro σ
              show (L2.wipe ((L2.wipe σ own).set o none) own).set o none = (L2.wipe σ own).set o none
              by_cases ho : o ∈ own
              · rw [wipe_set ho, ih]
              · rw [wipe_off ho, ih, List.set_set]
          exact key _ _
      · refine ⟨ω2, ρ2, st2, l4, s3, ?_⟩
        show Post K dp W' cls σ4 ω2 H3 (evAnd1 C cond ρ2 st2) _
        rw [e3]
        intro ω5 H5 x5 s5
        have hD5 := x5.fix D dp 0 [("" : Str)] w2 (Nat.lt_succ_self _)
        have w5 := hD5.1.trans w2
        have h5 : H5 D = some (.lst accV) := hD5.2.trans (gr _ _ h2)
        have r5 : Reps K ω5 H5 accD accV := (r2.grow gr).ext x5
        have x15 : Ext (dp + 1) ω H ω5 H5 := (x2.trans x3).trans x5
        cases b <;> first | (cases e2; done) | skip
        rename_i kk
        refine ⟨kk, rfl, ?_⟩
        cases kk with
        | false =>
          rw [if_neg Bool.false_ne_true]
          exact ⟨ω5, st3, accD, accV, rest, x15, s5, w5, h5, r5, Nat.le_succ_of_le l2, e2, ed⟩
        | true =>
          rw [if_pos rfl]
          obtain ⟨d, st6, e6, e2⟩ := R.bind_ok e2
          split at e2
          · cases e2
          obtain ⟨ds7, st7, e7, e2⟩ := R.bind_ok e2
          cases e2
          refine ⟨ω5, ρ2, st3, l4.ext x5, s5, ?_⟩
          show Post K dp W' cls σ4 ω5 H5 (ev C elt ρ2 st3) _
          rw [e6]
          intro ω6 H6 x6 s6 y ry
          have hD6 := x6.fix D dp 0 [("" : Str)] w5 (Nat.lt_succ_self _)
          have w6 := hD6.1.trans w5
          have h6 : H6 D = some (.lst accV) := hD6.2.trans h5
          have r6 : Reps K ω6 H6 accD accV := r5.ext x6
          refine ⟨accV, h6, ?_, ?_⟩
          · rw [r6.length]
            have := F.len
            omega
          · refine ⟨ω6, st6, accD ++ [d], accV ++ [y], ds7, (x15.trans x6).writeNew tr hD, s6.write w6 (.write w6 h6), w6, upd_same, ?_, ?_, e7, ?_⟩
            · have kw : Kept ω6 H6 ω6 (upd H6 D (.lst (accV ++ [y]))) := .write w6 h6
              exact (Reps.kept kw _ _ r6).append ⟨y, [], rfl, Rep.kept kw _ _ ry, rfl⟩
            · rw [List.length_append, List.length_singleton]
              omega
            · rw [ed, List.append_assoc]
              rfl
  · have e1 : i = xs.length := by omega
    subst e1
    rw [List.drop_length] at e2
    unfold lcGo at e2
    cases e2
    rw [List.append_nil] at ed
    subst ed
    refine .inl ⟨F.stop ω2 H2 x2.kept, ?_⟩
    refine q (ω2.free D) H2 (x2.freeNew tr hD) (s2.free w2) (.ref D) ⟨Nat.le_trans l2 F.len, D, accV, rfl, h2, ?_, Reps.kept .free _ _ r2⟩
    show (if D = D then none else ω2.wr D) = none
    rw [if_pos rfl]

theorem snd_lc_core {elt : E} {tg : T} {ik : IK} {ie cond : List E} {own : List Nat} {x t it : Expr} {ifs : List Expr} {scope : Scope} {pos : Pos} (he : SndE N G k C cls dp elt) (hi : ∀ m ∈ ie, SndE N G k C cls dp m) (hco : ∀ m ∈ cond, SndE N G k C cls dp m)
    (c : Cok X G k C cls N sc W) (h : chkE N G (.lc elt tg ik ie cond own) sc (.ListComp x [⟨t, it, ifs, 0⟩] scope pos) = true) :
    ∃ (ownN : List (Str × Nat)) (wi : TI) (g : TG) (tt : TT) (te : TE), PI X t it wi ∧ BlkOk X.N X.env.scope scope ownN ∧ (∀ (s : Shared) (H : Hp) (C : Addr) (cl : List (Str × Addr)) (fp : List Addr), PG (X.blk s H scope (compEnvC scope cl C X.env) fp) t g) ∧
      (∀ (s : Shared) (H : Hp) (C : Addr) (cl : List (Str × Addr)) (fp : List Addr), PTs (X.blk s H scope (compEnvC scope cl C X.env) fp) ifs tt) ∧
      (∀ (s : Shared) (H : Hp) (C : Addr) (cl : List (Str × Addr)) (fp : List Addr), PE (X.blk s H scope (compEnvC scope cl C X.env) fp) x te) ∧ (∀ x, foldedSetIterable it X.env x = pure x) ∧
      ∀ σ H Q, tE X.kw C dp W cls (.lc elt tg ik ie cond own) σ H Q → tLc wi g tt te (ownN.map (·.2)) σ H Q := by
  unfold chkE at h
  simp only [Bool.and_eq_true, decide_eq_true_eq] at h
  obtain ⟨⟨⟨⟨⟨⟨⟨h1, h2⟩, h3⟩, h4⟩, h5⟩, h6⟩, h7⟩, h8⟩ := h
  cases qi : itArgs G sc ik tg it with
  | none => rw [qi] at h8; cases h8
  | some es =>
    rw [qi] at h8
    have eown : (own.map fun (i : Nat) => ((N[i]?).getD ("" : Str), i)).map (·.2) = own := by
      rw [List.map_map]
      show own.map (fun i => i) = own
      simp
    refine ⟨own.map fun (i : Nat) => ((N[i]?).getD ("" : Str), i), _, gT X.kw tg, tTf X.kw dp (fun _ _ _ _ => False) cls (fun ρ st => evAnd1 C cond ρ st), tEf X.kw dp (fun _ _ _ _ => False) cls (fun ρ st => ev C elt ρ st), snd_it (own := own) hi c qi h8 (tg_shape h2),
      by rw [c.hN, c.hsc]; exact blkOk_by h1, fun s H Cc cl fp => ?_, fun s H Cc cl fp => ?_, fun s H Cc cl fp => (he _ _ _ x (c.blk s H scope Cc cl fp) h6).1, fold_ok h3 X.env, ?_⟩
    · exact tg_of (X := X.blk s H scope (compEnvC scope cl Cc X.env) fp) (c.blk s H scope Cc cl fp).hN c.nd (c.blk s H scope Cc cl fp).hsc (fun z => by cases z) c.calm h2
    · have cb := c.blk s H scope Cc cl fp
      cases ifs with
      | nil =>
        cases cond with
        | cons _ _ => simp at h4
        | nil =>
          refine ⟨fun pins s σ H Q I q => pts_nil.run pins s σ H Q I ?_⟩
          obtain ⟨ω, ρ, st, hl, hs, hp⟩ := q
          unfold evAnd1 at hp
          obtain ⟨b, e, q⟩ := hp ω H .refl hs
          cases e
          exact q
      | cons f fs =>
        cases fs with
        | cons _ _ => simp at h5
        | nil =>
          match cond, h4 with
          | [m], _ =>
            unfold chkEs at h7
            simp only [Bool.and_eq_true] at h7
            obtain ⟨A, B⟩ := hco m List.mem_cons_self _ _ _ f cb h7.1.1
            refine pts_one (pt_imp B ?_)
            rintro σ H Q ⟨ω, ρ, st, hl, hs, hp⟩
            unfold evAnd1 at hp
            exact ⟨ω, ρ, st, hl, hs, hp⟩
    · rintro σ H Q ⟨ω, ρ, st, hl, hs, hp⟩
      unfold ev at hp
      rw [eown]
      refine ⟨ω, ρ, st, hl, hs, (Post.bind hp).mono fun ds st1 ω1 H1 x1 s1 q1 => ?_⟩
      cases qx : items ik ds with
      | none => rw [qx] at q1; exact q1.elim
      | some xs =>
        rw [qx] at q1
        refine ⟨xs, rfl, fun J F => ?_⟩
        cases qr : lcGo (fun x => bindT tg x (wipeE ρ own)) (fun ρ st => evAnd1 C cond ρ st) (fun ρ st => ev C elt ρ st) xs st1 with
        | exc cc st2 => simp only [qr] at q1; exact q1.elim
        | fail => simp only [qr] at q1; exact q1.elim
        | ok dsF stF =>
          simp only [qr] at q1
          exact lc_run s1.trk (hl.ext x1) s1 F (tg_sub h2) qr fun ω' H' x' s' v r => q1 ω' H' x' s' v r
theorem snd_lc {elt : E} {tg : T} {ik : IK} {ie cond : List E} {own : List Nat} (he : SndE N G k C cls dp elt) (hi : ∀ m ∈ ie, SndE N G k C cls dp m) (hco : ∀ m ∈ cond, SndE N G k C cls dp m) : SndE N G k C cls dp (.lc elt tg ik ie cond own) := by
  intro X sc W e c h
  have h' := h
  unfold chkE at h
  split at h
  · obtain ⟨ownN, wi, g, tt, te, A, B, D, E, F, I, J⟩ := snd_lc_core he hi hco c h'
    exact both_of (pe_imp (pe_lc c.calm (by rw [c.hN]; exact c.nd) A B D E F I) J) rfl
  · cases h
end
end TL

namespace TL
open PySem L2 PyProof.Rows
section
variable {X : Cx} {CX : CXT} {k : Nat} {f C : Addr} {fd : FuncData} {ps : List Str} {sp : Sp} {E : L2.St → XK} {x m : Str} {p p2 pos apos : Pos} {e : Expr} {es : List Expr} {ta : TE} {t : TA}
/-- o.m(..), an exception at the slots as they are -/
def tMethS (C : Addr) (m : Str) (sp : Sp) (E : L2.St → XK) (ta : TE) (t : TA) : TE := fun σ H Q => ta σ H fun x H1 => ∃ a dx fs, x = .ref a ∧ H1 a = some (.ins C dx fs) ∧ fs.lookup m = none ∧
  t σ H1 fun vs H2 => sp (x :: vs) H2 Q (E σ)
theorem meth_eq {env : PySem.Env} {o : Expr} {m : Str} {apos pos : Pos} {args : List Expr} (hb : attributeBase o m env (eval o env) = eval o env) (hf : methodCallForm (args.length + ([] : List Keyword).length) (backTo pos (starEach args env)) (backToKw pos (keywordEach [] env)) = true) (hl : (apos.endLine == pos.line) = true) :
    eval (.Call (.Attribute o m apos) args [] pos) env = (do
      let ov ← eval o env
      standAt apos.atName
      let (f, first) ← holding [ov] (getMethod ov m (do return (← importBound o env).getD true))
      callWith pos f first (backTo pos (starEach args env)) (backToKw pos (keywordEach [] env))) := by
  have hp : methodCallPos true o env apos pos = pure pos := by unfold methodCallPos; simp [hl]
  rw [arm_eval_Call, hb]
  unfold methodCall
  rw [hf]
  simp only [hp, calleeOf, if_true]
  rfl
theorem stars_form {env : PySem.Env} {pos : Pos} : ∀ {es : List Expr}, es.all notStar = true → (backTo pos (starEach es env)).all (fun x => !x.1) = true
  | [], _ => rfl
  | e :: es, h => by
    rw [List.all_cons, Bool.and_eq_true] at h
    rw [star_of h.1]
    show (!false && (backTo pos (starEach es env)).all (fun x => !x.1)) = true
    rw [stars_form h.2]
    rfl
theorem form_of {env : PySem.Env} {pos : Pos} {es : List Expr} (h : es.all notStar = true) (l : es.length < 29) : methodCallForm (es.length + ([] : List Keyword).length) (backTo pos (starEach es env)) (backToKw pos (keywordEach [] env)) = true := by
  unfold methodCallForm
  rw [stars_form h]
  have : (backToKw pos (keywordEach [] env)) = [] := rfl
  rw [this]
  simp
  omega
theorem pe_mS (he : PE X (.Name x p2) ta) (c : Cls X.K C) (hm : Meth X.K C m f) (F : FnOk X.prog X.w X.K X.mg X.base CX k f fd ps sp) (hr : Room k X.A) (hb : Binds X.K fd ps []) (hx : ∀ σ, PassesAt CX X σ (E σ)) (ha : PA X (e :: es) t)
    (hst : starEach (e :: es) X.env = (false, eval e X.env) :: starEach es X.env) (hpl : (backTo pos (starEach es X.env)).any (·.1) = false) (hf : methodCallForm ((e :: es).length + ([] : List Keyword).length) (backTo pos (starEach (e :: es) X.env)) (backToKw pos (keywordEach [] X.env)) = true) (hl : (apos.endLine == pos.line) = true) :
    PE X (.Call (.Attribute (.Name x p2) m apos) (e :: es) [] pos) (tMethS C m sp E ta t) := by
  refine ⟨fun pins s σ H Q I h => ?_⟩
  refine PySem.W.methodCall_KW (thn (he.run pins s σ H _ I h) fun u s1 ⟨x, H1, I1, rx, a, dx, fs, ex, ea, l, q⟩ => ?_) (meth_eq rfl hf hl)
  subst ex
  obtain rfl : u = Value.ref a := rx
  refine getmeth_ok I1 ea c hm l ?_
  refine PySem.W.callWith_K (first := [.ref a]) (h₀ := X.base) I.ok.mod.kin hm.kp (thn (ha.run pos pins s1 σ H1 _ I1 q) fun us s2 ⟨vs, H2, I2, r, q2⟩ => ⟨I2.kIn, ?_⟩) hst hpl
  exact run_fnS (us := .ref a :: us) (vs := .ref a :: vs) F hr hb (hx σ) I2 (.cons rfl r) q2
theorem pe_mS0 (he : PE X (.Name x p2) ta) (c : Cls X.K C) (hm : Meth X.K C m f) (F : FnOk X.prog X.w X.K X.mg X.base CX k f fd ps sp) (hr : Room k X.A) (hb : Binds X.K fd ps []) (hx : ∀ σ, PassesAt CX X σ (E σ)) (hl : (apos.endLine == pos.line) = true) :
    PE X (.Call (.Attribute (.Name x p2) m apos) [] [] pos) (tMethS C m sp E ta tNil) := by
  refine ⟨fun pins s σ H Q I h => ?_⟩
  refine PySem.W.methodCall_KW (thn (he.run pins s σ H _ I h) fun u s1 ⟨x, H1, I1, rx, a, dx, fs, ex, ea, l, q⟩ => ?_) (meth_eq rfl (form_of (es := []) rfl (by decide)) hl)
  subst ex
  obtain rfl : u = Value.ref a := rx
  refine getmeth_ok I1 ea c hm l ?_
  exact PySem.W.callWith_K0 (first := [.ref a]) I1.kIn hm.kp (run_fnS (us := [.ref a]) (vs := [.ref a]) F hr hb (hx σ) I1 (.cons rfl .nil) q)
/-- C(..) -/
def tMakeS (C : Addr) (sp : Sp) (E : L2.St → XK) (t : TA) : TE := fun σ H Q => t σ H fun vs H1 => ∀ x dx, H1 x = none → H1 dx = none → dx ≠ x →
  sp (.ref x :: vs) (upd (upd H1 dx (.own x)) x (.ins C dx [])) (fun v H2 => v = .non ∧ Q (.ref x) H2) (E σ)
theorem run_makeS {pins : List (Addr × Obj)} {σ : L2.St} {H : Hp} {s : Shared} {Q : VK} {us : List Value} {vs : List V} (M : Mk X.K C f) (F : FnOk X.prog X.w X.K X.mg X.base CX k f fd ps sp) (hr : Room (k + 1) X.A) (hb : Binds X.K fd ps [])
    (hx : PassesAt CX X σ (E σ)) (I : Inv X pins σ H s) (r : Vals vs us)
    (h : ∀ x dx, H x = none → H dx = none → dx ≠ x → sp (.ref x :: vs) (upd (upd H dx (.own x)) x (.ins C dx [])) (fun v H2 => v = .non ∧ Q (.ref x) H2) (E σ)) :
    wpAny (model X.prog X.w) X.A (call (.ref C) us) (EP X pins σ Q) X.xe s := by
  have hq := h (s.heap.objs.size + 1) s.heap.objs.size (I.hok.fresh (Nat.le_succ _)) (I.hok.fresh (Nat.le_refl _)) (Nat.ne_of_lt (Nat.lt_succ_self _))
  have I2 := Inv.made (C := C) I
  have r2 : Vals (V.ref (s.heap.objs.size + 1) :: vs) (Value.ref (s.heap.objs.size + 1) :: us) := .cons rfl r
  have hl : (Value.ref (s.heap.objs.size + 1) :: us).length = ps.length := by
    rw [← r2.length]
    exact F.len _ _ _ _ hq
  have b := hb { s with heap := (s.heap.push PySem.W.emptyDict).push (PySem.W.instObj C s.heap.objs.size) } (Value.ref (s.heap.objs.size + 1) :: us) I2.kIn (by rw [List.append_nil]; exact hl)
  rw [List.append_nil] at b
  refine wpAny_call (make_map (f := f) I.kIn M.makes M.init (beq_iff_eq.mp M.fn) (codeAny_mono (F.run _ X.stack _ _ ⟨Value.ref (s.heap.objs.size + 1) :: us, []⟩ (Value.ref (s.heap.objs.size + 1) :: us) _ _ (E σ) (hr.make C us [])
    (I2.env0.make C us []) b r2 hq) fun r s' hq' => ?_))
  cases r with
  | error e => exact hx pins _ _ e s' I2 hq'
  | ok fl =>
    cases fl with
    | ret u =>
      obtain ⟨v, H', I3, rv, ev, q3⟩ := I2.after hq'
      subst ev
      exact ⟨rv, ⟨V.ref (s.heap.objs.size + 1), H', I3, rfl, q3⟩⟩
    | next => exact False.elim hq'
    | brk => exact False.elim hq'
    | cont => exact False.elim hq'
theorem pe_mkS (M : Mk X.K C f) (F : FnOk X.prog X.w X.K X.mg X.base CX k f fd ps sp) (hr : Room (k + 1) X.A) (hg : Gl X x) (hm : X.mg x = some (.ref C)) (hb : Binds X.K fd ps []) (hx : ∀ σ, PassesAt CX X σ (E σ))
    (ha : PA X (e :: es) t) (hdb : (x == ("__debug__" : Str)) = false) (he : starEach (e :: es) X.env = (false, eval e X.env) :: starEach es X.env) (hpl : (backTo pos (starEach es X.env)).any (·.1) = false) :
    PE X (.Call (.Name x p) (e :: es) [] pos) (tMakeS C sp E t) := by
  refine ⟨fun pins s σ H Q I h => ?_⟩
  refine wpAny_Call_Name_kw (ld_glob I hg hm ?_ hdb)
  refine PySem.W.callWith_K (h₀ := X.base) I.ok.mod.kin M.kp (thn (ha.run pos pins s σ H _ I h) fun us s1 ⟨vs, H1, I1, r, q⟩ => ⟨I1.kIn, ?_⟩) he hpl
  exact run_makeS M F hr hb (hx σ) I1 r q
end
section
variable {X : Cx} {N : List Str} {G : GT} {k : Nat} {C : Cal} {cls : Nat → Value} {dp : Nat} {sc : Scope} {W : WX} {m : E} {ms : List E} {K : KW} {ω : Wd} {H : Hp}
theorem FldR.rep {l : Nat} {f : Str} {d : D} {v : V} (o : d.own = false) (h : FldR K ω H l f d v) : Rep K ω H d v := by
  cases d <;> first | exact h | exact absurd o (by simp [D.own])
theorem FldsR.lookup {l : Nat} : ∀ {fs : List (Str × D)} {vs : List (Str × V)}, FldsR K ω H l fs vs → ∀ f, match fs.lookup f with
    | none => vs.lookup f = none
    | some d => ∃ v, vs.lookup f = some v ∧ FldR K ω H l f d v
  | [], vs, h, f => by
    rw [show vs = [] from h]
    rfl
  | (g, d) :: fs, vs, h, f => by
    obtain ⟨v, r, rfl, h1, h2⟩ := h
    rw [List.lookup_cons, List.lookup_cons]
    by_cases e : f = g
    · subst e
      rw [beq_self_eq_true]
      exact ⟨v, rfl, h1⟩
    · rw [show (f == g) = false from by simpa using e]
      exact h2.lookup f
theorem cls_of (c : Cok X G k C cls N sc W) {p : CT → Bool} (h : (G.cls.any p) = true) : ∃ ct ∈ G.cls, p ct = true := List.any_eq_true.mp h
theorem snd_fld {c₀ f : Str} (hm : SndE N G k C cls dp m) : SndE N G k C cls dp (.fld c₀ m f) := by
  intro X sc W e c h
  unfold chkE at h
  split at h
  · rename_i a f' pos
    simp only [Bool.and_eq_true, decide_eq_true_eq] at h
    obtain ⟨⟨⟨rfl, h2⟩, h3⟩, h4⟩ := h
    obtain ⟨ct, hct, hc⟩ := cls_of c h3
    simp only [Bool.and_eq_true, decide_eq_true_eq] at hc
    obtain ⟨rfl, hf⟩ := hc
    obtain ⟨Ca, hmg, hns, hcl, hna, _, _⟩ := c.clss ct hct
    refine both_of (pe_imp (pe_fld (hm X sc W a c h4).1 (attr_ok h2 _ _)) ?_) rfl
    rintro σ H Q ⟨ω, ρ, st, hl, hs, hp⟩
    unfold ev at hp
    refine ⟨ω, ρ, st, hl, hs, (Post.bind hp).mono fun x st1 ω1 H1 x1 s1 q1 v r1 => ?_⟩
    obtain ⟨d, e, q⟩ := Post.lift q1
    unfold fldD at e
    split at e
    · rename_i l
      split at e
      · rename_i c' fs hst
        split at e
        · rename_i hc'
          subst hc'
          obtain ⟨c2, fs2, a2, C2, dx, vs, e2, m2, H2, w2, n2, nd, fr⟩ := s1.at_ l _ hst
          cases e2
          obtain ⟨a3, m3, rfl⟩ := r1
          rw [m2] at m3
          cases m3
          rw [n2] at hns
          cases hns
          have lk := fr.lookup f'
          cases hlk : fs.lookup f' with
          | none => rw [hlk] at e; cases e
          | some d0 =>
            rw [hlk] at e lk
            obtain ⟨v0, l0, fr0⟩ := lk
            simp only [Option.bind] at e
            split at e
            · cases e
            · rename_i ho
              cases e
              exact ⟨a2, _, dx, vs, v0, rfl, H2, hcl, hna _ hf, l0, q ω1 H1 .refl s1 v0 (fr0.rep (by simpa using ho))⟩
        · cases e
      · cases e
    · cases e
  · cases h
theorem snd_meth {i : Nat} {c₀ mn : Str} (hm : SndE N G k C cls dp m) (hms : ∀ m ∈ ms, SndE N G k C cls dp m) : SndE N G k C cls dp (.meth i c₀ mn m ms) := by
  intro X sc W e c h
  unfold chkE at h
  split at h
  · rename_i x p f' apos es pos
    simp only [Bool.and_eq_true, decide_eq_true_eq] at h
    obtain ⟨⟨⟨⟨⟨rfl, hln⟩, hes⟩, h3⟩, h4⟩, h5⟩ := h
    obtain ⟨ct, hct, hc⟩ := cls_of c h3
    simp only [Bool.and_eq_true, decide_eq_true_eq] at hc
    obtain ⟨rfl, hf⟩ := hc
    obtain ⟨Ca, hmg, hns, hcl, hna, hme, _⟩ := c.clss ct hct
    obtain ⟨g, fd, ps, hM, F, hb⟩ := hme _ _ hf
    obtain ⟨A, B⟩ := snd_es hms X sc W es c h5
    have key : ∀ σ H Q, tE X.kw C dp W cls (.meth i ct.name f' m ms) σ H Q → tMethS Ca f' (spC X.kw C cls i) (WE W) (tE X.kw C dp W cls m) (tEs X.kw C dp W cls ms) σ H Q := by
      rintro σ H Q ⟨ω, ρ, st, hl, hs, hp⟩
      unfold ev at hp
      refine ⟨ω, ρ, st, hl, hs, (Post.bind hp).mono fun x st1 ω1 H1 x1 s1 q1 v r1 => ?_⟩
      split at q1
      · rename_i hh
        unfold hasM at hh
        split at hh
        · rename_i l
          split at hh
          · rename_i c' fs hst
            simp only [Bool.and_eq_true, decide_eq_true_eq] at hh
            obtain ⟨hc', hn⟩ := hh
            subst hc'
            obtain ⟨c2, fs2, a2, C2, dx, vs, e2, m2, H2, w2, n2, nd, fr⟩ := s1.at_ l _ hst
            cases e2
            obtain ⟨a3, m3, rfl⟩ := r1
            have r1 : Rep X.kw ω1 H1 (.ref l) (.ref a3) := ⟨a3, m3, rfl⟩
            have m3' := m3
            rw [m2] at m3'
            cases m3'
            rw [n2] at hns
            cases hns
            have lk := fr.lookup f'
            rw [Option.isNone_iff_eq_none.mp hn] at lk
            refine ⟨a2, dx, vs, rfl, H2, lk, ω1, ρ, st1, hl.ext x1, s1, (Post.bind q1).mono fun ds st2 ω2 H3 x2 s2 q2 vs2 r2 => ?_⟩
            refine ⟨ω2, st2, .ref l :: ds, dp + 1, s2, ⟨_, _, rfl, r1.ext x2, r2⟩, ?_⟩
            revert q2
            cases C i (.ref l :: ds) st2 with
            | ok d st3 => exact fun q1 ω2 v H2 x2 s2 r2 => q1 ω2 H2 x2 s2 v r2
            | exc cc st3 => exact fun q1 ω2 H2 x2 s2 => q1 ω2 H2 x2 s2
            | fail => exact fun q1 => q1
          · cases hh
        · cases hh
      · exact q1.elim
    have nilms : es = [] → ms = [] := by
      rintro rfl
      cases ms with
      | nil => rfl
      | cons _ _ => simp [chkEs] at h5
    cases es with
    | nil =>
      have e0 := nilms rfl
      subst e0
      refine both_of (pe_imp (pe_mS0 (hm X sc W _ c h4).1 hcl hM F c.room hb (fun σ => passAt c.tk σ) hln) fun σ H Q q => ?_) rfl
      obtain ⟨ω, ρ, st, hl, hs, hp⟩ := key σ H Q q
      refine ⟨ω, ρ, st, hl, hs, hp.mono fun x st1 ω1 H1 x1 s1 q1 v r1 => ?_⟩
      obtain ⟨a, dx, fs, e1, e2, e3, ω2, ρ2, st2, hl2, hs2, hp2⟩ := q1 v r1
      refine ⟨a, dx, fs, e1, e2, e3, ?_⟩
      have := hp2
      unfold evs at this
      exact this ω2 _ .refl hs2 [] rfl
    | cons e es =>
      have B' := B
      rw [List.all_cons, Bool.and_eq_true] at B
      refine both_of (pe_imp (pe_mS (hm X sc W _ c h4).1 hcl hM F c.room hb (fun σ => passAt c.tk σ) A (star_of B.1 es X.env) (stars_of B.2) (form_of B' hes) hln) key) rfl
  · cases h
/-- a new cell -/
def Wd.cellW (ω : Wd) (x : Addr) : Wd := { mu := ω.mu ++ [x], wr := fun b => if b = x then some (.cell ω.mu.length, []) else ω.wr b }
theorem cell_kept {x dx : Addr} {o o' : HO} (hx : H x = none) (hdx : H dx = none) : Kept ω H (ω.cellW x) (upd (upd H dx o) x o') where
  mu := ⟨[x], rfl⟩
  tup := fun a xs e => by rw [upd_ne (ne_of_none e hx), upd_ne (ne_of_none e hdx)]; exact e
  frz := fun a o u e => by rw [upd_ne (ne_of_none e hx), upd_ne (ne_of_none e hdx)]; exact e
  lst := fun a xs e w => by
    refine ⟨by rw [upd_ne (ne_of_none e hx), upd_ne (ne_of_none e hdx)]; exact e, ?_⟩
    show (if a = x then some _ else ω.wr a) = none
    rw [if_neg (ne_of_none e hx)]
    exact w
  dic := fun a xs e w => by
    refine ⟨by rw [upd_ne (ne_of_none e hx), upd_ne (ne_of_none e hdx)]; exact e, ?_⟩
    show (if a = x then some _ else ω.wr a) = none
    rw [if_neg (ne_of_none e hx)]
    exact w
theorem cell_same {x dx : Addr} {o o' : HO} (tr : ∀ a, ω.wr a ≠ none → H a ≠ none) (hx : H x = none) (hdx : H dx = none) {a : Addr} {t : Root × List Str} (e : ω.wr a = some t) : (ω.cellW x).wr a = ω.wr a ∧ upd (upd H dx o) x o' a = H a := by
  have n1 : a ≠ x := fun z => tr a (by rw [e]; simp) (by rw [z]; exact hx)
  have n2 : a ≠ dx := fun z => tr a (by rw [e]; simp) (by rw [z]; exact hdx)
  refine ⟨?_, by rw [upd_ne n1, upd_ne n2]⟩
  show (if a = x then some _ else ω.wr a) = ω.wr a
  rw [if_neg n1]
theorem cell_ext {d : Nat} {x dx : Addr} {o o' : HO} (tr : ∀ a, ω.wr a ≠ none → H a ≠ none) (hx : H x = none) (hdx : H dx = none) : Ext d ω H (ω.cellW x) (upd (upd H dx o) x o') :=
  ⟨cell_kept hx hdx, fun a k i p e _ => cell_same tr hx hdx e⟩
theorem cell_sto {st : Sto} {c : Str} {x dx Ca : Addr} {o : HO} (s : StoOk K ω st H) (hx : H x = none) (hdx : H dx = none) (hc : PySem.W.nsIn K.K mainGlobals c = some (some (.ref Ca))) : StoOk K (ω.cellW x) (st ++ [.ins c []]) (upd (upd H dx o) x (.ins Ca dx [])) where
  len := by show (ω.mu ++ [x]).length = _; rw [List.length_append, List.length_append, s.len]; rfl
  trk := fun a e => by
    by_cases q : a = x
    · rw [q, upd_same]; simp
    · rw [upd_ne q]
      have e' : (if a = x then some _ else ω.wr a) ≠ none := e
      rw [if_neg q] at e'
      by_cases q2 : a = dx
      · rw [q2, upd_same]; simp
      · rw [upd_ne q2]
        exact s.trk a e'
  at_ := fun l d e => by
    by_cases hl : l < st.length
    · rw [List.getElem?_append_left hl] at e
      exact (s.at_ l d e).kept ⟨cell_kept hx hdx, fun a p e => cell_same s.trk hx hdx e⟩
    · have e0 := (List.getElem?_eq_some_iff.mp e).1
      rw [List.length_append, List.length_singleton] at e0
      have hl' : l = st.length := by omega
      subst hl'
      rw [List.getElem?_append_right (Nat.le_refl _), Nat.sub_self] at e
      cases e
      refine ⟨c, [], x, Ca, dx, [], rfl, ?_, upd_same, ?_, hc, by simp, rfl⟩
      · show (ω.mu ++ [x])[st.length]? = some x
        rw [← s.len, List.getElem?_append_right (Nat.le_refl _), Nat.sub_self]
        rfl
      · show (if x = x then some (Root.cell ω.mu.length, ([] : List Str)) else ω.wr x) = _
        rw [if_pos rfl, s.len]
theorem snd_make {i : Nat} {c₀ : Str} (hms : ∀ m ∈ ms, SndE N G k C cls dp m) : SndE N G k C cls dp (.make i c₀ ms) := by
  intro X sc W e c h
  unfold chkE at h
  split at h
  · rename_i x p es pos
    simp only [Bool.and_eq_true, decide_eq_true_eq] at h
    obtain ⟨⟨⟨⟨⟨rfl, h2⟩, h3⟩, h4⟩, h5⟩, h6⟩ := h
    obtain ⟨ct, hct, hc⟩ := cls_of c h5
    simp only [Bool.and_eq_true, decide_eq_true_eq] at hc
    obtain ⟨rfl, rfl⟩ := hc
    obtain ⟨Ca, hmg, hns, hcl, hna, _, g, fd, ps, M, F, hb⟩ := c.clss ct hct
    obtain ⟨A, B⟩ := snd_es hms X sc W es c h6
    have nm := nameOk_of h3
    cases es with
    | nil => simp at h4
    | cons e es =>
      rw [List.all_cons, Bool.and_eq_true] at B
      refine both_of (pe_imp (pe_mkS M F c.room1 (glb_of c.hsc h2) hmg hb (fun σ => passAt c.tk σ) A nm.d (star_of B.1 es X.env) (stars_of B.2)) ?_) rfl
      rintro σ H Q ⟨ω, ρ, st, hl, hs, hp⟩
      unfold ev at hp
      refine ⟨ω, ρ, st, hl, hs, (Post.bind hp).mono fun ds st1 ω1 H1 x1 s1 q1 vs r1 => ?_⟩
      intro x dx hx hdx _
      have xx : Ext (dp + 1) ω1 H1 (ω1.cellW x) (upd (upd H1 dx (.own x)) x (.ins Ca dx [])) := cell_ext s1.trk hx hdx
      have ss : StoOk X.kw (ω1.cellW x) (st1 ++ [.ins ct.name []]) (upd (upd H1 dx (.own x)) x (.ins Ca dx [])) := cell_sto s1 hx hdx hns
      have ref0 : (ω1.cellW x).mu[st1.length]? = some x := by
        show (ω1.mu ++ [x])[st1.length]? = some x
        rw [← s1.len, List.getElem?_append_right (Nat.le_refl _), Nat.sub_self]
        rfl
      refine ⟨ω1.cellW x, _, .ref st1.length :: ds, dp + 1, ss, ⟨_, _, rfl, ⟨x, ref0, rfl⟩, r1.ext xx⟩, ?_⟩
      revert q1
      cases C ct.init (.ref st1.length :: ds) (st1 ++ [.ins ct.name []]) with
      | ok d st2 =>
        cases d with
        | non =>
          intro q1 ω2 v H2 x2 s2 r2
          refine ⟨r2, q1 ω2 H2 (xx.trans x2) s2 (.ref x) ⟨x, ?_, rfl⟩⟩
          obtain ⟨t, ht⟩ := x2.kept.mu
          rw [← ht, List.getElem?_append_left (List.getElem?_eq_some_iff.mp ref0).1]
          exact ref0
        | _ => exact fun q1 => q1.elim
      | exc cc st2 => exact fun q1 ω2 H2 x2 s2 => q1 ω2 H2 (xx.trans x2) s2
      | fail => exact fun q1 => q1
  · cases h
end
end TL

namespace TL
open PySem L2 PyProof.Rows
section
variable {X : Cx} {N : List Str} {G : GT} {k : Nat} {C : Cal} {cls : Nat → Value} {dp : Nat} {sc : Scope} {W : WX} {e : Expr} {es : List Expr} {m n l a b : E} {ms : List E}
/-- x in a name's own list -/
def rInOwn (K : KW) (neg : Bool) : R2 := fun x y H Q => ∃ (ω : Wd) (a : D) (ds : List D) (ad : Addr) (vs : List V) (kk : Bool), Rep K ω H a x ∧ y = .ref ad ∧ H ad = some (.lst vs) ∧ Reps K ω H ds vs ∧ inD a (.mlst ds) = some kk ∧ Q (.bl (if neg then !kk else kk)) H
theorem op_inOwn (hu : X.A.units + 65 < cLine) : OpR X (compareOp .In) (rInOwn X.kw false) := by
  refine opr_imp (op_inD hu) ?_
  rintro x y H Q ⟨ω, a, ds, ad, vs, kk, ra, rfl, ha, r, e, q⟩
  replace e : (if (a.shp && (D.lst ds).shp) = true then some (ds.any fun y => y.eqv a) else none) = some kk := e
  split at e
  · rename_i hc
    cases e
    rw [Bool.and_eq_true] at hc
    refine ⟨_, pys ds, Rep.dp a x (.inl hc.1) ra, .lst (SqL.of ha) (Reps.dp ds vs (canLayAll_of hc.2) r), hc.1, hc.2, ?_⟩
    rw [any_pys]
    exact q
  · cases e
theorem op_notInOwn (hu : X.A.units + 65 < cLine) : OpR X (compareOp .NotIn) (rInOwn X.kw true) := by
  refine opr_imp (op_notInD hu) ?_
  rintro x y H Q ⟨ω, a, ds, ad, vs, kk, ra, rfl, ha, r, e, q⟩
  replace e : (if (a.shp && (D.lst ds).shp) = true then some (ds.any fun y => y.eqv a) else none) = some kk := e
  split at e
  · rename_i hc
    cases e
    rw [Bool.and_eq_true] at hc
    refine ⟨_, pys ds, Rep.dp a x (.inl hc.1) ra, .lst (SqL.of ha) (Reps.dp ds vs (canLayAll_of hc.2) r), hc.1, hc.2, ?_⟩
    rw [any_pys]
    exact q
  · cases e
/-- .. or in a name's own dict -/
def rIn2 (K : KW) (neg : Bool) : R2 := fun x y H Q => rInOwn K neg x y H Q ∨ rMset K neg x y H Q
theorem snd_inOwn {neg : Bool} {i : Nat} (hm : SndE N G k C cls dp m) : SndE N G k C cls dp (.inOwn neg m i) := by
  intro X sc W e c h
  unfold chkE at h
  split at h
  · rename_i a op x p pos
    simp only [Bool.and_eq_true, decide_eq_true_eq] at h
    obtain ⟨⟨⟨⟨h1, h2⟩, h3⟩, h4⟩, h5⟩ := h
    have nm := nameOk_of h5
    have A := (hm X sc W a c h2).1
    have B : PE X (.Name x p) (tVar i) := pe_var (X := X) (i := i) (by rw [c.hN]; exact h3) (vis_of c.hsc h4) nm.d nm.c
    have u := units_of c
    have ho : OpR X (compareOp op) (rIn2 X.kw neg) := by
      cases neg with
      | true => rw [h1]; exact (op_notInOwn u).or (op_notInMset u)
      | false => rw [h1]; exact (op_inOwn u).or (op_inMset u)
    have key : ∀ σ H Q, tE X.kw C dp W cls (.inOwn neg m i) σ H Q → tOp (rIn2 X.kw neg) (tE X.kw C dp W cls m) (tVar i) σ H Q := by
      rintro σ H Q ⟨ω, ρ, st, hl, hs, hp⟩
      unfold ev at hp
      refine ⟨ω, ρ, st, hl, hs, (Post.bind hp).mono fun d st1 ω1 H1 x1 s1 q1 v r1 => ?_⟩
      split at q1
      · rename_i ds hd
        obtain ⟨w, e1, ad, vs, rfl, h2, w2, r2⟩ := (hl.ext x1).at_ i _ hd
        obtain ⟨d2, e2, q2⟩ := Post.lift q1
        cases q3 : inD d (.mlst ds) with
        | none => rw [q3] at e2; cases e2
        | some kk =>
          rw [q3] at e2
          cases e2
          exact ⟨_, e1, .inl ⟨ω1, d, ds, ad, vs, kk, r1, rfl, h2, r2, q3, q2 ω1 H1 .refl s1 _ rfl⟩⟩
      · rename_i ks hd
        obtain ⟨w, e1, ad, xs, rfl, h2, w2, r2⟩ := (hl.ext x1).at_ i _ hd
        obtain ⟨d2, e2, q2⟩ := Post.lift q1
        replace e2 : (if isKey d = true then some (ks.any fun y => y.eqv d) else none).map (fun b => TL.D.bl (if neg then !b else b)) = some d2 := e2
        by_cases hk : isKey d = true
        · rw [if_pos hk] at e2
          cases e2
          obtain ⟨ts, rfl⟩ := isKey_tup hk
          obtain ⟨l1, b, vs, rfl, q0⟩ := r1
          exact ⟨_, e1, .inr ⟨ω1, .tup ts, ks, ad, b, xs, rfl, rfl, (show Rep X.kw ω1 H1 (.tup ts) (.ref b) from ⟨l1, b, vs, rfl, q0⟩), hk, h2, r2, q2 ω1 H1 .refl s1 _ rfl⟩⟩
        · rw [if_neg hk] at e2
          cases e2
      · exact q1.elim
    exact ⟨pe_imp (pe_cmpR ho A B (set_ok rfl)) key, pt_imp (pt_cmpR ho A B (set_ok rfl)) fun σ H Q q => tTest_of q key⟩
  · cases h
theorem Post.ext {α : Type} {K : KW} {σ : L2.St} {ω ω1 : Wd} {H H1 : Hp} {r : R α} {P : α → Sto → Wd → Hp → Prop} (h : Post K dp W cls σ ω H r P) (x : Ext (dp + 1) ω H ω1 H1) : Post K dp W cls σ ω1 H1 r P := by
  cases r with
  | ok a st => exact fun ω' H' x' s => h ω' H' (x.trans x') s
  | exc c st => exact fun ω' H' x' s => h ω' H' (x.trans x') s
  | fail => exact h
/-- the pairs of a display -/
def trsOf (K : KW) (C : Cal) (dp : Nat) (W : WX) (cls : Nat → Value) : List Str → List E → List (TE × TE)
  | k :: ks, m :: ms => (tC (.str k), tE K C dp W cls m) :: trsOf K C dp W cls ks ms
  | _, _ => []
def kvV : List Str → List V → List (Key × V)
  | k :: ks, v :: vs => (.inr k, v) :: kvV ks vs
  | _, _ => []
theorem pps_of {pos : Pos} (c : Cok X G k C cls N sc W) : ∀ {ks : List Str} {ms : List E} {keys : List (Option Expr)} {values : List Expr}, (∀ m ∈ ms, SndE N G k C cls dp m) → dicKeys ks keys = true → chkEs N G ms sc values = true → ks.length = ms.length → PPs X pos keys values (trsOf X.kw C dp W cls ks ms)
  | [], [], keys, values, _, h1, h2, _ => by
    cases keys with
    | cons _ _ => cases h1
    | nil =>
      unfold chkEs at h2
      cases values with
      | cons _ _ => simp at h2
      | nil => exact pps_nil
  | kk :: ks, m :: ms, keys, values, hm, h1, h2, hl => by
    unfold dicKeys at h1
    split at h1
    · cases ‹_ :: _ = []›
    · rename_i k2 ks2 x j p es e1
      cases e1
      simp only [Bool.and_eq_true, decide_eq_true_eq] at h1
      obtain ⟨⟨rfl, h3⟩, h4⟩ := h1
      unfold chkEs at h2
      cases values with
      | nil => cases h2
      | cons v vs =>
        simp only [Bool.and_eq_true] at h2
        exact pps_cons pe_str (hm m List.mem_cons_self X sc W v c h2.1.1).1 (pps_of c (fun m' h => hm m' (List.mem_cons_of_mem _ h)) h4 h2.2 (Nat.succ.inj hl))
    · cases h1
theorem pairs_run {K : KW} {σ : L2.St} : ∀ {ks : List Str} {ms : List E} {ω : Wd} {ρ : Env} {st : Sto} {H : Hp} {Q : List (V × V) → Hp → Prop}, ks.length = ms.length → Loc K ω dp ρ σ H → StoOk K ω st H →
    Post K dp W cls σ ω H (evs C ms ρ st) (fun ds _ ω' H' => ∀ vs, Reps K ω' H' ds vs → Q ((kvV ks vs).map fun kv => (kV kv.1, kv.2)) H') → tPairs (trsOf K C dp W cls ks ms) σ H Q
  | [], [], ω, ρ, st, H, Q, _, hl, hs, hp => by
    unfold evs at hp
    exact hp ω H .refl hs [] rfl
  | kk :: ks, m :: ms, ω, ρ, st, H, Q, hn, hl, hs, hp => by
    unfold evs at hp
    refine ⟨ω, ρ, st, hl, hs, (Post.bind hp).mono fun d st1 ω1 H1 x1 s1 q1 v r1 => ?_⟩
    refine pairs_run (Nat.succ.inj hn) (hl.ext x1) s1 ((Post.bind q1).mono fun ds st2 ω2 H2 x2 s2 q2 vs r2 => ?_)
    exact q2 ω2 H2 .refl s2 (v :: vs) ⟨v, vs, rfl, r1.ext x2, r2⟩
theorem kvV_len : ∀ {ks : List Str} {vs : List V}, (kvV ks vs).length ≤ ks.length
  | [], _ => Nat.le_refl _
  | _ :: _, [] => Nat.zero_le _
  | _ :: _, _ :: _ => Nat.succ_le_succ kvV_len
theorem kvV_mem : ∀ {ks : List Str} {vs : List V} {kv : Key × V}, kv ∈ kvV ks vs → ∃ k ∈ ks, kv.1 = .inr k
  | k :: ks, v :: vs, kv, h => by
    rcases List.mem_cons.mp h with rfl | h
    · exact ⟨k, List.mem_cons_self, rfl⟩
    · obtain ⟨k', h1, h2⟩ := kvV_mem h
      exact ⟨k', List.mem_cons_of_mem _ h1, h2⟩
theorem merge_new : ∀ {ks : List Str} {vs : List V} {acc : List (Key × V)}, ks.Nodup → (∀ kv ∈ acc, ∀ k ∈ ks, kv.1 ≠ .inr k) → mergeK acc (kvV ks vs) = acc ++ kvV ks vs
  | [], _, acc, _, _ => by simp [kvV, mergeK]
  | _ :: _, [], acc, _, _ => by simp [kvV, mergeK]
  | k :: ks, v :: vs, acc, nd, h => by
    rw [List.nodup_cons] at nd
    have hp : putK acc (.inr k) v = acc ++ [(.inr k, v)] := by
      unfold putK
      rw [if_neg]
      intro e
      obtain ⟨kv, h1, h2⟩ := List.any_eq_true.mp e
      exact h kv h1 k List.mem_cons_self (of_decide_eq_true h2)
    show mergeK (putK acc (.inr k) v) (kvV ks vs) = _
    rw [hp, merge_new nd.2, List.append_assoc]
    · rfl
    · intro kv hk k' hk'
      rcases List.mem_append.mp hk with hk | hk
      · exact h kv hk k' (List.mem_cons_of_mem _ hk')
      · rw [List.mem_singleton.mp hk]
        intro e
        cases e
        exact nd.1 hk'
theorem repk_of {K : KW} {ω : Wd} {H : Hp} : ∀ {ks : List Str} {ds : List D} {vs : List V}, Reps K ω H ds vs → Repk K ω H (ks.zip ds) (kvV ks vs)
  | [], _, _, _ => by simp [Repk, kvV]
  | _ :: _, [], _, r => by
    cases r
    simp [Repk, kvV]
  | k :: ks, d :: ds, vs, r => by
    obtain ⟨v, r', rfl, h1, h2⟩ := r
    exact ⟨v, kvV ks r', rfl, h1, repk_of h2⟩
theorem Kept.writeD {ω : Wd} {H : Hp} {D₀ : Addr} {t : Root × List Str} {o : HO} {xs : List (Key × V)} (w : ω.wr D₀ = some t) (h : H D₀ = some (.dK xs)) : Kept ω H ω (upd H D₀ o) where
  mu := List.prefix_refl _
  tup := fun a ys e => by
    have ne : a ≠ D₀ := fun z => by rw [z, h] at e; cases e
    rw [upd_ne ne]; exact e
  frz := fun a o u e => by
    have ne : a ≠ D₀ := fun z => by rw [z, h] at e; cases e
    rw [upd_ne ne]; exact e
  lst := fun a ys e w' => by
    have ne : a ≠ D₀ := fun z => by rw [z, w] at w'; cases w'
    rw [upd_ne ne]; exact ⟨e, w'⟩
  dic := fun a ys e w' => by
    have ne : a ≠ D₀ := fun z => by rw [z, w] at w'; cases w'
    rw [upd_ne ne]; exact ⟨e, w'⟩
theorem keys_some : ∀ {ks : List Str} {keys : List (Option Expr)}, dicKeys ks keys = true → keys.all (·.isSome) = true ∧ keys.length = ks.length
  | [], [], _ => ⟨rfl, rfl⟩
  | [], _ :: _, h => by cases h
  | _ :: _, [], h => by cases h
  | k :: ks, none :: es, h => by cases h
  | k :: ks, some e :: es, h => by
    unfold dicKeys at h
    split at h
    · cases ‹_ :: _ = []›
    · rename_i e1 e2
      cases e1
      cases e2
      simp only [Bool.and_eq_true] at h
      obtain ⟨z1, z2⟩ := keys_some h.2
      exact ⟨by rw [List.all_cons, z1]; rfl, by rw [List.length_cons, List.length_cons, z2]⟩
    · cases h
theorem snd_dic {ks : List Str} (hm : ∀ m ∈ ms, SndE N G k C cls dp m) : SndE N G k C cls dp (.dic ks ms) := by
  intro X sc W e c h
  unfold chkE at h
  split at h
  · rename_i keys values pos
    simp only [Bool.and_eq_true, decide_eq_true_eq] at h
    obtain ⟨⟨⟨⟨⟨h1, h2⟩, h3⟩, h4⟩, h5⟩, h6⟩ := h
    obtain ⟨ka, kl⟩ := keys_some h1
    have hv := chkEs_length h2
    have kn : keys ≠ [] := by
      intro e
      rw [e] at kl
      have : ks = [] := List.length_eq_zero_iff.mp kl.symm
      rw [this] at h3
      cases h3
    refine both_of (pe_imp (pe_disp (pps_of c hm h1 h2 h5) ka (by rw [kl, h5]; exact hv.symm) kn (by rw [kl]; exact h4)) ?_) rfl
    rintro σ H Q ⟨ω, ρ, st, hl, hs, hp⟩ p hpn
    unfold ev at hp
    have x0 : Ext (dp + 1) ω H (ω.put p (.slot dp 0, [("" : Str)])) (upd H p (.dK [])) := .put hs.trk hpn
    refine pairs_run h5 (hl.ext x0) (hs.put hpn) ?_
    cases q : evs C ms ρ st with
    | fail => rw [q] at hp; exact hp.elim
    | exc cc st1 =>
      rw [q] at hp
      have hp : Post X.kw dp W cls σ ω H (R.exc cc st1 : R D) _ := hp
      exact fun ω' H' x s => hp ω' H' (x0.trans x) s
    | ok ds st1 =>
      rw [q] at hp
      have hp : Post X.kw dp W cls σ ω H (R.ok (D.dic (ks.zip ds)) st1) _ := hp
      intro ω1 H1 x1 s1 vs r1
      have fx := x1.fix p dp 0 [("" : Str)] Wd.put_same (Nat.lt_succ_self _)
      have w1 := fx.1.trans Wd.put_same
      have h1p : H1 p = some (.dK []) := fx.2.trans upd_same
      refine ⟨h1p, kvV ks vs, rfl, Nat.le_trans kvV_len h4, ?_⟩
      rw [merge_new h6 (fun _ z => by cases z), List.nil_append]
      have x2 : Ext (dp + 1) ω H ω1 H1 := x0.trans x1
      have x3 : Ext (dp + 1) ω H (ω1.free p) (upd H1 p (.dK (kvV ks vs))) := (x2.writeNew hs.trk hpn).freeNew hs.trk hpn
      have kw : Kept ω1 H1 ω1 (upd H1 p (.dK (kvV ks vs))) := .writeD w1 h1p
      refine hp (ω1.free p) _ x3 ((s1.write w1 kw).free w1) (.ref p) ⟨?_, p, kvV ks vs, rfl, upd_same, ?_, repk_of (Reps.kept .free _ _ (Reps.kept kw _ _ r1))⟩
      · rw [List.length_zip]
        have : (15 : Nat) ≤ sizeLine := by decide
        omega
      · show (if p = p then none else ω1.wr p) = none
        rw [if_pos rfl]
  · cases h
theorem snd_dget (hm : SndE N G k C cls dp m) (hn : SndE N G k C cls dp n) (hk : SndE N G k C cls dp l) : SndE N G k C cls dp (.dget m n l) := by
  intro X sc W e c h
  unfold chkE at h
  split at h
  · rename_i a x apos b f pos
    simp only [Bool.and_eq_true, decide_eq_true_eq] at h
    obtain ⟨⟨⟨⟨⟨⟨⟨rfl, h2⟩, h3⟩, h4⟩, h5⟩, h6⟩, h7⟩, h8⟩ := h
    have u := units_of c
    have tr : backTo pos (starEach [b, f] X.env) = [(false, eval b X.env), (false, eval f X.env)] := by
      rw [star_of h6 [f] X.env, star_of h8 [] X.env]; rfl
    have M : M2 X a "get" apos b f pos := ⟨attr_ok h2 _ _, by rw [tr]; rfl, h3, tr⟩
    refine both_of (pe_imp (pe_dget2 (by omega) (hm X sc W _ c h4).1 (hn X sc W _ c h5).1 (hk X sc W _ c h7).1 M) ?_) rfl
    rintro σ H Q ⟨ω, ρ, st, hl, hs, hp⟩
    unfold ev at hp
    refine ⟨ω, ρ, st, hl, hs, (Post.bind hp).mono fun x st1 ω1 H1 x1 s1 q1 v r1 => ?_⟩
    cases x <;> first | exact q1.elim | skip
    rename_i kvs
    obtain ⟨ln, ad, kws, rfl, ha, wa, rk⟩ := r1
    refine ⟨ad, rfl, .inl ⟨kws, .inl ha⟩, ω1, ρ, st1, hl.ext x1, s1, (Post.bind q1).mono fun y st2 ω2 H2 x2 s2 q2 w r2 => ?_⟩
    refine ⟨ω2, ρ, st2, (hl.ext x1).ext x2, s2, (Post.bind q2).mono fun z st3 ω3 H3 x3 s3 q3 w3 r3 => ?_⟩
    obtain ⟨d, e, q4⟩ := Post.lift q3
    cases y <;> first | (cases e; done) | skip
    rename_i key
    have rw2 : w = .str key := r2.1
    subst rw2
    obtain ⟨ha2, wa2⟩ := x2.kept.dic _ _ ha wa
    obtain ⟨ha3, wa3⟩ := x3.kept.dic _ _ ha2 wa2
    have rk3 := Repk.kept x3.kept _ _ (Repk.kept x2.kept _ _ rk)
    have vv := valV_repk (k := key) rk3
    have e : some ((kvs.lookup key).getD z) = some d := e
    cases q : kvs.lookup key with
    | none =>
      rw [q] at vv e
      cases e
      exact ⟨_, DGet.k (k := .inr key) ha3, by rw [show valV kws (.inr key) = none from vv]; exact q4 ω3 H3 .refl s3 _ r3⟩
    | some d' =>
      rw [q] at vv e
      cases e
      obtain ⟨v', e1, rv⟩ := vv
      exact ⟨_, DGet.k (k := .inr key) ha3, by rw [e1]; exact q4 ω3 H3 .refl s3 _ rv⟩
  · cases h
mutual
theorem snd : ∀ m : E, SndE N G k C cls dp m
  | .var i => snd_var i
  | .con d => snd_con d
  | .tup ms => snd_tup (snds ms)
  | .lst ms => snd_lst (snds ms)
  | .dic ks ms => snd_dic (snds ms)
  | .o1 o m => snd_o1 (snd m)
  | .o2 o m n => snd_o2 (snd m) (snd n)
  | .sm o m n => snd_sm (snd m) (snd n)
  | .chain o o' m n l => snd_chain (snd m) (snd n) (snd l)
  | .and ms => snd_andE (snds ms)
  | .or ms => snd_orE (snds ms)
  | .not m => snd_not (snd m)
  | .ife m n l => snd_ife (snd m) (snd n) (snd l)
  | .call f ms => snd_call (snds ms)
  | .sl m lo hi => snd_sl (snd m) (snds lo) (snds hi)
  | .dget m n l => snd_dget (snd m) (snd n) (snd l)
  | .lc elt tg ik ie cond own => snd_lc (snd elt) (snds ie) (snds cond)
  | .inOwn neg m i => snd_inOwn (snd m)
  | .srt m => snd_srt (snd m)
  | .minN m => snd_minN (snd m)
  | .fld c m f => snd_fld (snd m)
  | .meth i c mn m ms => snd_meth (snd m) (snds ms)
  | .make i c ms => snd_make (snds ms)
  | .lm o m n => snd_lm (snd m) (snd n)
theorem snds : ∀ ms : List E, ∀ m ∈ ms, SndE N G k C cls dp m
  | [], _, h => by cases h
  | m :: ms, m', h => by
    rcases List.mem_cons.mp h with e | h
    · rw [e]; exact snd m
    · exact snds ms m' h
end
end
end TL

namespace TL
open PySem L2 PyProof.Rows

/-- a, b = x, y with plain local names: stored from the right -/
def parOk (sc : Scope) : List Expr → List Expr → Bool
  | [.Name x px, .Name y py], [a, b] => (match sc.kind with | .function => true | _ => false) && lcl false sc x && lcl false sc y && !decide (x = y) && (px.line == py.line) && notStar a && notStar b && !([a, b].all (foldedForSure 8)) && !([a, b].all (constantsAlone 8))
  | _, _ => false
/-- a target that is no plain local name -/
def someCell (sc : Scope) : List Expr → Bool
  | .Name x _ :: es => (match sc.names.lookup x with | some .cell => true | _ => false) || someCell sc es
  | _ => false
def notTuple : Expr → Bool
  | .Tuple .. | .List .. => false
  | _ => true
/-- name = [.. for ..] with a plain local name on one line -/
def swLine (sc : Scope) (x : Str) (p : Pos) (scope : Scope) (pos : Pos) : Bool :=
  (match sc.kind with | .function => true | _ => false) && lcl false sc x && (p.line == pos.line) && !(scope.names.any fun (n, k) => n == x && (k == .local || k == .cell))
/-- constants, and tuples of such -/
def kst (d : TL.D) (e : Expr) : Bool := match e with
  | .Constant c _ _ => conOk d c
  | _ => false
def ksts : List TL.D → List Expr → Bool
  | [], es => es.isEmpty
  | d :: ds, es => match es with
    | e :: es => kst d e && ksts ds es
    | [] => false
def kE (d : TL.D) (e : Expr) : Bool := match e with
  | .Tuple es _ _ => (match d with | .tup ds => ksts ds es && decide (es.length ≤ 1000) | _ => false)
  | e => kst d e
/-- the suite of an except -/
def sui (N : List Str) (sc : Scope) (ret : Bool) (i : Nat) (d : TL.D) : List Stmt → Bool
  | [.Return (some e) _] => ret && kE d e
  | [.Assign [.Name y _] e _] => !ret && decide (N[i]? = some y) && lcl true sc y && kE d e
  | _ => false
mutual
def chkS (N : List Str) (G : GT) : S → Scope → Stmt → Bool
  | .set i m, sc, st => match st with
    | .Assign [.Name x p] v pos => decide (N[i]? = some x) && lcl true sc x && chkE N G m sc v && (match v with
      | .ListComp _ [⟨_, _, _, 0⟩] scope pos' => (match m with | .lc .. => true | _ => false) && (swLine sc x p scope pos' || !lcl false sc x)
      | v => notComp v)
    | _ => false
  | .own i ms, sc, st => match st with
    | .Assign [.Name x p] (.List es _) pos => decide (N[i]? = some x) && lcl true sc x && decide (es.length ≤ 1000) && chkEs N G ms sc es
    | _ => false
  | .ownd i m, sc, st => match st with
    | .Assign [.Name x p] (.Dict [some kx] [.Constant (.bool true) _ _] _) pos => decide (N[i]? = some x) && lcl true sc x && chkE N G m sc kx
    | _ => false
  | .unpack is m, sc, st => match st with
    | .Assign [.Tuple ts kt pt] v pos => tgOk.tgs true N sc is is ts && notComp v && chkE N G m sc v && (match v with
      | .Tuple vs _ _ => (parOk sc ts vs && (match m with | .tup _ => true | _ => false) && decide (ts.length = 2) && decide (is.Nodup)) || someCell sc ts
      | .List .. => false
      | _ => true)
    | _ => false
  | .app i m, sc, st => match st with
    | .Expr (.Call (.Attribute (.Name x p) y apos) [a] [] cpos) pos => decide (N[i]? = some x) && vis sc x && nameOk x && decide (y = "append") && (apos.endLine == cpos.line) && chkE N G m sc a && notStar a
    | _ => false
  | .ext i m, sc, st => match st with
    | .Expr (.Call (.Attribute (.Name x p) y apos) [a] [] cpos) pos => decide (N[i]? = some x) && vis sc x && nameOk x && decide (y = "extend") && (apos.endLine == cpos.line) && chkE N G m sc a && notStar a
    | _ => false
  | .put i m, sc, st => match st with
    | .Assign [.Subscript (.Name x p) kx _] (.Constant (.bool true) _ _) pos => decide (N[i]? = some x) && vis sc x && nameOk x && notSlice kx && chkE N G m sc kx
    | _ => false
  | .freeze _, _, _ => false
  | .expr m, sc, st => match st with
    | .Expr v pos => notComp v && chkE N G m sc v
    | _ => false
  | .ifs c a b, sc, st => match st with
    | .If cx ax bx _ => chkE N G c sc cx && chkSs N G a sc ax && chkSs N G b sc bx
    | _ => false
  | .for tg ik ie body, sc, st => match st with
    | .For t it bx [] _ => tgOk true N sc (match tg with | .nm i => [i] | .tp is => is) tg t && notSet it && chkSs N G body sc bx &&
        (match itArgs G sc ik tg it with
          | some es => chkEs N G ie sc es
          | none => false)
    | _ => false
  | .while c body, sc, st => match st with
    | .While cx bx [] _ => chkE N G c sc cx && chkSs N G body sc bx
    | _ => false
  | .ret m, sc, st => match st with
    | .Return (some v) _ => chkE N G m sc v
    | _ => false
  | .retN, sc, st => match st with
    | .Return none _ => true
    | _ => false
  | .raise c, sc, st => match st with
    | .Raise (some (.Call (.Name x _) [.Constant (.str _) _ _] [] _)) none _ => decide (G.excs[c]? = some x) && glb sc x && nameOk x
    | _ => false
  | .tryS body j cs ncs ret i d, sc, st => match st with
    | .Try bx [.ExceptHandler (some (.Name x _)) none (b₀ :: suite) _] [] [] _ => decide (G.excs[j]? = some x) && glb sc x && nameOk x && (cs.all fun c => decide ((c, j, true) ∈ G.subs)) && (ncs.all fun c => decide ((c, j, false) ∈ G.subs)) && chkSs N G body sc bx && sui N sc ret i d (b₀ :: suite)
    | _ => false
  | .setF c m f v, sc, st => match st with
    | .Assign [.Attribute a f' _] ex _ => decide (f' = f) && notComp ex && (G.cls.any fun ct => decide (ct.name = c) && decide (f ∈ ct.flds)) && chkE N G m sc a && chkE N G v sc ex
    | _ => false
  | .unpackL is m, sc, st => match st with
    | .Assign [.Tuple ts _ _] v pos => tgOk.tgs true N sc is is ts && notTuple v && chkE N G m sc v
    | _ => false
def chkSs (N : List Str) (G : GT) : List S → Scope → List Stmt → Bool
  | [], _, sts => sts.isEmpty
  | .freeze _ :: ms, sc, sts => chkSs N G ms sc sts
  | m :: ms, sc, sts => match sts with
    | st :: sts => chkS N G m sc st && chkSs N G ms sc sts
    | [] => false
end
/-- what is known of the classes of exceptions -/
def ExcF (K : PySem.W.Frag) (mg : Str → Option Value) (cls : Nat → Value) (G : GT) : Prop := ∀ (j : Nat) (x : Str), G.excs[j]? = some x → ∃ (Ca : Addr) (B newId initId : String) (bmB : List Value), cls j = .ref Ca ∧ mg x = some (.ref Ca) ∧ ExcBaseFacts B newId initId bmB ∧ PySem.W.excIn K Ca bmB newId = true ∧ PySem.W.keepIn K (.ref Ca) = true ∧
  PySem.W.subIn K (.ref Ca) (.type "BaseException") = some true ∧ PySem.W.typeIn K (.ref Ca) = some (.type "type")
def ExmF (K : PySem.W.Frag) (cls : Nat → Value) (G : GT) : Prop := ∀ (i j : Nat) (b : Bool), (i, j, b) ∈ G.subs → PySem.W.exmOne K (cls i) (cls j) = some b
/-- a def's own frame -/
structure CokS (X : Cx) (G : GT) (k : Nat) (C : Cal) (cls : Nat → Value) (N : List Str) (sc : Scope) (W : WX) : Prop extends Cok X G k C cls N sc W where
  fn : ∀ x, X.fn x = true
  po : PassesOwn (model X.prog X.w) X.A X.env X.xe
  stk : X.stack = X.env :: X.outer
  frm : X.env.frame = some X.env.locals
  exc : ExcF X.K X.mg cls G
  exm : ExmF X.K cls G

def PostS (K : KW) (dp : Nat) (W : WX) (cls : Nat → Value) (ω : Wd) (H : Hp) (r : Fl) (D : Ends) : Prop := match r with
  | .nx ρ' st' => ∀ ω' σ' H', Ext dp ω H ω' H' → Loc K ω' dp ρ' σ' H' → StoOk K ω' st' H' → D.nx σ' H'
  | .rt d st' => ∀ ω' v H', Ext dp ω H ω' H' → StoOk K ω' st' H' → Rep K ω' H' d v → D.rt v H'
  | .ex c ρ' st' => ∀ ω' σ' H', Ext dp ω H ω' H' → Loc K ω' dp ρ' σ' H' → StoOk K ω' st' H' → W (cls c) none σ' H'
  | .fail => False
def tS (K : KW) (dp : Nat) (W : WX) (cls : Nat → Value) (f : Env → Sto → Fl) : TS := fun D σ H => ∃ ω ρ st, Loc K ω dp ρ σ H ∧ StoOk K ω st H ∧ PostS K dp W cls ω H (f ρ st) D
def SndS (N : List Str) (G : GT) (k : Nat) (C : Cal) (cls : Nat → Value) (dp : Nat) (m : S) : Prop := ∀ (X : Cx) (sc : Scope) (W : WX) (st : Stmt), CokS X G k C cls N sc W → chkS N G m sc st = true → PS X st (tS X.kw dp W cls fun ρ s => exec C m ρ s)
def SndSs (N : List Str) (G : GT) (k : Nat) (C : Cal) (cls : Nat → Value) (dp : Nat) (ms : List S) : Prop := ∀ (X : Cx) (sc : Scope) (W : WX) (sts : List Stmt), CokS X G k C cls N sc W → chkSs N G ms sc sts = true → PSs X sts (tS X.kw dp W cls fun ρ s => execs C ms ρ s)
section
variable {X : Cx} {N : List Str} {G : GT} {k : Nat} {C : Cal} {cls : Nat → Value} {dp : Nat} {sc : Scope} {W : WX} {e : Expr} {es : List Expr} {m n l a b : E} {ms : List E}
variable {K : KW} {ω ω' ω'' : Wd} {H H' H'' : Hp} {D : Ends} {ρ : Env} {σ : L2.St} {st : Sto}
theorem ps_imp {s : Stmt} {t t' : TS} (h : PS X s t) (i : ∀ D σ H, t' D σ H → t D σ H) : PS X s t' := ⟨fun pins s σ H D I q => h.run pins s σ H D I (i D σ H q)⟩
theorem pss_imp {s : List Stmt} {t t' : TS} (h : PSs X s t) (i : ∀ D σ H, t' D σ H → t D σ H) : PSs X s t' := ⟨fun pins s σ H D I q => h.run pins s σ H D I (i D σ H q)⟩
theorem PostS.at {r : Fl} (h : PostS K dp W cls ω H r D) (x : Ext dp ω H ω' H') : PostS K dp W cls ω' H' r D := by
  cases r with
  | nx ρ' st' => exact fun ω2 σ2 H2 x2 l2 s2 => h ω2 σ2 H2 (x.trans x2) l2 s2
  | rt d st' => exact fun ω2 v H2 x2 s2 r2 => h ω2 v H2 (x.trans x2) s2 r2
  | ex c ρ' st' => exact fun ω2 σ2 H2 x2 l2 s2 => h ω2 σ2 H2 (x.trans x2) l2 s2
  | fail => exact h
theorem PostS.mono {r : Fl} {D' : Ends} (h : PostS K dp W cls ω H r D) (h1 : ∀ σ H, D.nx σ H → D'.nx σ H) (h2 : ∀ v H, D.rt v H → D'.rt v H) : PostS K dp W cls ω H r D' := by
  cases r with
  | nx ρ' st' => exact fun ω2 σ2 H2 x2 l2 s2 => h1 _ _ (h ω2 σ2 H2 x2 l2 s2)
  | rt d st' => exact fun ω2 v H2 x2 s2 r2 => h2 _ _ (h ω2 v H2 x2 s2 r2)
  | ex c ρ' st' => exact h
  | fail => exact h
/-- an expression, then the rest -/
theorem PostS.of {r : R TL.D} {f : TL.D → Sto → Fl} (hl : Loc K ω dp ρ σ H) (h : PostS K dp W cls ω H (Fl.of ρ r f) D) :
    Post K dp W cls σ ω H r fun d st1 ω1 H1 => PostS K dp W cls ω1 H1 (f d st1) D := by
  cases r with
  | ok d st1 => exact fun ω1 H1 x1 s1 => PostS.at h (x1.mono (Nat.le_succ _))
  | exc c st1 => exact fun ω1 H1 x1 s1 => h ω1 σ H1 (x1.mono (Nat.le_succ _)) (hl.ext x1) s1
  | fail => exact h
theorem PostS.ofs {r : R (List TL.D)} {f : List TL.D → Sto → Fl} (hl : Loc K ω dp ρ σ H) (h : PostS K dp W cls ω H (Fl.ofs ρ r f) D) :
    Post K dp W cls σ ω H r fun d st1 ω1 H1 => PostS K dp W cls ω1 H1 (f d st1) D := by
  cases r with
  | ok d st1 => exact fun ω1 H1 x1 s1 => PostS.at h (x1.mono (Nat.le_succ _))
  | exc c st1 => exact fun ω1 H1 x1 s1 => h ω1 σ H1 (x1.mono (Nat.le_succ _)) (hl.ext x1) s1
  | fail => exact h
/-- one statement, then the rest -/
theorem PostS.seq {r : Fl} {f : Env → Sto → Fl} (h : PostS K dp W cls ω H (r.seq f) D) : PostS K dp W cls ω H r { D with nx := fun σ H => tS K dp W cls f D σ H } := by
  cases r with
  | nx ρ' st' => exact fun ω2 σ2 H2 x2 l2 s2 => ⟨ω2, ρ', st', l2, s2, PostS.at h x2⟩
  | rt d st' => exact h
  | ex c ρ' st' => exact h
  | fail => exact h

theorem snd_ret : SndS N G k C cls dp (.ret m) := by
  intro X sc W st c h
  unfold chkS at h
  split at h
  · refine ps_imp (ps_ret (snd (dp := dp) m X sc W _ c.toCok h).1) ?_
    rintro D σ H ⟨ω, ρ, st, hl, hs, hp⟩
    unfold exec at hp
    refine ⟨ω, ρ, st, hl, hs, (PostS.of hl hp).mono fun d st1 ω1 H1 x1 s1 q1 v r1 => ?_⟩
    split at q1
    · exact q1.elim
    · exact q1 ω1 v H1 .refl s1 r1
  · cases h
theorem snd_retN : SndS N G k C cls dp .retN := by
  intro X sc W st c h
  unfold chkS at h
  split at h
  · refine ps_imp ps_retN ?_
    rintro D σ H ⟨ω, ρ, st, hl, hs, hp⟩
    unfold exec at hp
    exact hp ω _ H .refl hs rfl
  · cases h
theorem snd_expr : SndS N G k C cls dp (.expr m) := by
  intro X sc W st c h
  unfold chkS at h
  split at h
  · simp only [Bool.and_eq_true] at h
    refine ps_imp (ps_expr (snd (dp := dp) m X sc W _ c.toCok h.2).1 (swap_ok h.1 _ _ _)) ?_
    rintro D σ H ⟨ω, ρ, st, hl, hs, hp⟩
    unfold exec at hp
    refine ⟨ω, ρ, st, hl, hs, (PostS.of hl hp).mono fun d st1 ω1 H1 x1 s1 q1 v r1 => ?_⟩
    exact q1 ω1 σ H1 .refl (hl.ext x1) s1
  · cases h
theorem set_post {σ : L2.St} {i : Nat} (h : tS K dp W cls (fun ρ s => exec C (.set i m) ρ s) D σ H) : tAsg (tE K C dp W cls m) (gName i) D σ H := by
  obtain ⟨ω, ρ, st, hl, hs, hp⟩ := h
  unfold exec at hp
  refine ⟨ω, ρ, st, hl, hs, (PostS.of hl hp).mono fun d st1 ω1 H1 x1 s1 q1 v r1 => ?_⟩
  split at q1
  · exact q1.elim
  · exact q1 ω1 _ H1 .refl ((hl.ext x1).set (OwnR.of r1)) s1
theorem sw_false {x : Str} {p : Pos} {elt : Expr} {gs : List Comprehension} {scope : Scope} {pos : Pos} {ln : Nat} (hsc : X.env.scope = sc) (h : lcl false sc x = false) : swapsWith (.ListComp elt gs scope pos) (some (.Name x p)) ln X.env = pure false := by
  have q : (X.env.kindOf x == some .local) = false := by
    unfold Env.kindOf
    rw [hsc]
    unfold lcl at h
    revert h
    cases sc.names.lookup x with
    | none => intro _; rfl
    | some q => cases q <;> first | (intro h; cases h; done) | (intro _; rfl)
  unfold swapsWith
  show (pure _ : Sem Bool) = _
  simp only [q, Bool.and_false, Bool.false_and]
theorem snd_set {i : Nat} : SndS N G k C cls dp (.set i m) := by
  intro X sc W st c h
  unfold chkS at h
  split at h
  · rename_i x p v pos
    simp only [Bool.and_eq_true, decide_eq_true_eq] at h
    obtain ⟨⟨⟨h1, h2⟩, h3⟩, h4⟩ := h
    obtain ⟨q1, q2⟩ := lcl_of (X := X) c.hsc (fun _ => c.fn) h2
    have hN : X.N.Nodup := by rw [c.hN]; exact c.nd
    have hi : X.N[i]? = some x := by rw [c.hN]; exact h1
    split at h4
    · rename_i elt t it ifs scope pos'
      simp only [Bool.and_eq_true, Bool.or_eq_true, Bool.not_eq_true'] at h4
      obtain ⟨h5, h6⟩ := h4
      rcases h6 with h6 | h6
      · cases m <;> first | (cases h5; done) | skip
        rename_i elt' tg ik ie cond own
        obtain ⟨ownN, wi, g, tt, te, A, B, D, E, F, I, J⟩ := snd_lc_core (dp := dp) (snd elt') (snds ie) (snds cond) c.toCok h3
        unfold swLine at h6
        simp only [Bool.and_eq_true, Bool.not_eq_true'] at h6
        obtain ⟨⟨⟨k1, k2⟩, k3⟩, k4⟩ := h6
        have hl : X.env.scope.names.lookup x = some .local := by
          rw [c.hsc]
          unfold lcl at k2
          revert k2
          cases sc.names.lookup x with
          | none => intro h; cases h
          | some q => cases q <;> first | (intro _; rfl) | (intro h; cases h)
        have hk : X.env.scope.kind = .function := by
          rw [c.hsc]
          revert k1
          cases sc.kind <;> first | (intro _; rfl) | (intro h; cases h)
        refine ps_imp (ps_setLc (i := i) c.calm hN hi hl (sw_true hk hl k3 k4) A B D E F I) ?_
        rintro D σ H q
        exact J σ H _ (set_post q)
      · exact ps_imp (ps_set (i := i) hN hi q1 (snd (dp := dp) m X sc W _ c.toCok h3).1 (sw_false c.hsc h6) q2) fun D σ H q => set_post q
    · exact ps_imp (ps_set (i := i) hN hi q1 (snd (dp := dp) m X sc W _ c.toCok h3).1 (swap_ok h4 _ _ _) q2) fun D σ H q => set_post q
  · cases h
theorem snd_own {i : Nat} : SndS N G k C cls dp (.own i ms) := by
  intro X sc W st c h
  unfold chkS at h
  split at h
  · rename_i x p es p2 pos
    simp only [Bool.and_eq_true, decide_eq_true_eq] at h
    obtain ⟨⟨⟨h1, h2⟩, h3⟩, h4⟩ := h
    obtain ⟨q1, q2⟩ := lcl_of (X := X) c.hsc (fun _ => c.fn) h2
    have hN : X.N.Nodup := by rw [c.hN]; exact c.nd
    have hi : X.N[i]? = some x := by rw [c.hN]; exact h1
    obtain ⟨A, B⟩ := snd_es (dp := dp) (snds ms) X sc W es c.toCok h4
    have ln := chkEs_length h4
    refine ps_imp (ps_set (i := i) hN hi q1 (pe_lst A) (swap_ok rfl _ _ _) q2) ?_
    rintro D σ H ⟨ω, ρ, st, hl, hs, hp⟩
    unfold exec at hp
    refine ⟨ω, ρ, st, hl, hs, (PostS.ofs hl hp).len.mono fun ds st1 ω1 H1 x1 s1 ⟨l1, q1⟩ vs r1 => ⟨?_, fun a ha => ?_⟩⟩
    · rw [r1.length, l1, ← ln]
      exact le_line h3
    · have xp : Ext (dp + 1) ω1 H1 (ω1.put a (.slot dp i, [])) (upd H1 a (.lst vs)) := .put s1.trk ha
      refine q1 (ω1.put a (.slot dp i, [])) _ _ (xp.mono (Nat.le_succ _)) (((hl.ext x1).ext xp).set ?_) (s1.put ha)
      exact ⟨a, vs, rfl, upd_same, Wd.put_same, r1.ext xp⟩
  · cases h

end
open AutoSeq1 in
theorem extend_list_tup (l : Addr) (items : Array Value) (n : Nat) (b : Addr) (items2 : Array Value) (n2 : Nat) (dd2 : Option Addr) (sl2 : Array (Option Value)) (hs0 : ¬(!items.isEmpty && Builtin.List.listTooLong (items.size + items2.size)) = true) (hs1 : items.size ≤ sizeLine) (hs2 : items.size + items2.size ≤ sizeLine + 1) :
    Meets (Builtin.«list.extend» ⟨[.ref l, .ref b], []⟩) (fun _ R s => s.heap.get? l = some { cls := .type "list", dict := none, data := .seq items n, slots := #[] } ∧ s.heap.get? b = some { cls := .type "tuple", dict := dd2, data := .seq items2 n2, slots := sl2 } ∧ R (.ok (.ret Value.none)) { s with heap := s.heap.update l (Obj.mapSeq fun x => x ++ items2), toks := s.toks }) :=
  .of_wp fun prog w A R s h => by
    obtain ⟨hp, g, d, tk, os⟩ := s; obtain ⟨hl, hb, h⟩ := h; have f1 := idx_int; have f2 := AutoSeq1.sub_tuple_tuple; have f3 := AutoSeq1.sub_list_list; have f4 := AutoSeq1.sub_tuple_list; have f5 := AutoSeq1.sub_list_tuple;
    have hz' : (items ++ items2).size ≤ sizeLine + 1 := by rw [Array.size_append]; exact hs2
    wp_walk using (wpAny_updateSeq hl rfl (hz := hs1) (_hz' := hz')), wpAny_loadPart' hl, wpAny_loadPart' hb; exact ⟨_, rfl, h⟩
section
variable {X : Cx} {N : List Str} {G : GT} {k : Nat} {C : Cal} {cls : Nat → Value} {dp : Nat} {sc : Scope} {W : WX} {e : Expr} {es : List Expr} {m n l a b : E} {ms : List E}
variable {K : KW} {ω ω' ω'' : Wd} {H H' H'' : Hp} {D : Ends} {ρ : Env} {σ : L2.St} {st : Sto}
theorem Ext.write {d i : Nat} {p : List Str} {a : Addr} {o : HO} {xs : List V} (w : ω.wr a = some (.slot d i, p)) (h : H a = some (.lst xs)) : Ext d ω H ω (upd H a o) where
  kept := .write w h
  fix := fun b k j q e hk => by
    have ne : b ≠ a := fun z => by
      rw [z, w] at e
      cases e
      exact absurd hk (Nat.lt_irrefl _)
    exact ⟨rfl, upd_ne ne⟩
theorem Loc.write {i : Nat} {a : Addr} {vs xs : List V} {ds : List TL.D} (hl : Loc K ω dp ρ σ H) (hs : σ[i]? = some (some (.ref a))) (w : ω.wr a = some (.slot dp i, [])) (h : H a = some (.lst xs)) (r : Reps K ω H ds vs) :
    Loc K ω dp (ρ.set i (some (.mlst ds))) σ (upd H a (.lst vs)) :=
  ⟨by rw [List.length_set]; exact hl.len, fun j d e => by
    have kw : Kept ω H ω (upd H a (.lst vs)) := .write w h
    by_cases hj : j = i
    · subst hj
      by_cases hlt : j < ρ.length
      · rw [List.getElem?_set_self hlt] at e
        cases e
        exact ⟨_, hs, a, vs, rfl, upd_same, w, Reps.kept kw _ _ r⟩
      · rw [List.getElem?_eq_none (by rw [List.length_set]; omega)] at e
        cases e
    · rw [List.getElem?_set_ne (Ne.symm hj)] at e
      obtain ⟨v', e', r'⟩ := hl.at_ j d e
      refine ⟨v', e', ?_⟩
      cases d with
      | mlst ds' =>
        obtain ⟨a', vs', e1, h1, w1, r1⟩ := r'
        have ne : a' ≠ a := fun z => by
          rw [z, w] at w1
          cases w1
          exact hj rfl
        exact ⟨a', vs', e1, by rw [upd_ne ne]; exact h1, w1, Reps.kept kw _ _ r1⟩
      | mset ds' =>
        obtain ⟨a', vs', e1, h1, w1, r1⟩ := r'
        have ne : a' ≠ a := fun z => by
          rw [z, w] at w1
          cases w1
          exact hj rfl
        exact ⟨a', vs', e1, by rw [upd_ne ne]; exact h1, w1, KeysR.kept kw r1⟩
      | _ => first | exact Rep.kept kw _ _ r' | exact r'.elim⟩
theorem few_of {a : Expr} {cpos : Pos} (h : notStar a = true) : ((backTo cpos (starEach [a] X.env)).all (fun x => !x.1) && (backToKw cpos (keywordEach [] X.env)).all (fun x => x.1.isSome)
      && decide (([a] : List Expr).length + ([] : List Keyword).length + (if ([] : List Keyword).isEmpty then 0 else 1) < 30)) = true := by
  rw [star_of h [] X.env]; rfl
theorem snd_app {i : Nat} : SndS N G k C cls dp (.app i m) := by
  intro X sc W st c h
  unfold chkS at h
  split at h
  · rename_i x p y apos a cpos pos
    simp only [Bool.and_eq_true, decide_eq_true_eq] at h
    obtain ⟨⟨⟨⟨⟨⟨h1, h2⟩, h3⟩, rfl⟩, h5⟩, h6⟩, h7⟩ := h
    have nm := nameOk_of h3
    have B : PE X (.Name x p) (tVar i) := pe_var (X := X) (i := i) (by rw [c.hN]; exact h1) (vis_of c.hsc h2) nm.d nm.c
    have P : PA X [a] (tCons (tE X.kw C dp W cls m) tNil) := pa_cons (snd (dp := dp) m X sc W _ c.toCok h6).1 pa_nil (star_of h7 [] X.env)
    refine ps_imp (ps_expr (pe_bm PySem.F.plainAttrs_list PySem.F.slot_list_append PySem.F.type_list_append mt_append B P (attr_ok rfl _ _) (few_of h7) h5 (star_of h7 [] X.env) rfl) (swap_ok rfl _ _ _)) ?_
    rintro D σ H ⟨ω, ρ, st, hl, hs, hp⟩
    unfold exec at hp
    dsimp only at hp
    split at hp
    · rename_i ds hd
      obtain ⟨v, e1, ad, vs, rfl, h2, w2, r2⟩ := hl.at_ i _ hd
      refine ⟨_, e1, .inl ⟨rfl, _, SqL.of h2⟩, ω, ρ, st, hl, hs, (PostS.of hl hp).mono fun d st1 ω1 H1 x1 s1 q1 w r1 => ?_⟩
      obtain ⟨f1, f2⟩ := x1.fix ad dp i [] w2 (Nat.lt_succ_self _)
      have h3 : H1 ad = some (.lst vs) := f2.trans h2
      have w3 := f1.trans w2
      have r3 := r2.ext x1
      split at q1
      · exact q1.elim
      · split at q1
        · rename_i hlen
          refine ⟨ad, vs, w, rfl, rfl, h3, by rw [r3.length]; exact hlen, ?_⟩
          exact q1 ω1 σ _ (.write w3 h3) ((hl.ext x1).write e1 w3 h3 (r3.append ⟨w, [], rfl, r1, rfl⟩)) (s1.write w3 (.write w3 h3))
        · exact q1.elim
    · exact hp.elim
  · cases h
theorem mt_extendT : MtR X "list.extend" (fun x vs H Q => ∃ l b xs zs, x = .ref l ∧ vs = [.ref b] ∧ H l = some (.lst xs) ∧ SqT X.kw H b zs ∧ xs.length + zs.length ≤ sizeLine ∧ Q .non (upd H l (.lst (xs ++ zs)))) := by
  intro pins s σ H x vs v us Q I rx rv h
  obtain ⟨l, b, xs, zs, rfl, rfl, hH, hB, hz, q⟩ := h
  cases rx
  obtain ⟨u, rfl, ru⟩ := rv.one
  cases ru
  obtain ⟨z, its, n, r, hl, e⟩ := I.lstM hH
  obtain ⟨its2, r2, ⟨⟨cls2, dd2, dt2, sl2⟩, e2, c2, n2, d2⟩, hl2⟩ := I.tuple hB
  simp only at c2 d2
  subst c2 d2
  have le2 := r2.length
  have hsz : its.toArray.size + its2.toArray.size ≤ sizeLine := by rw [List.size_toArray, List.size_toArray]; omega
  have hlong : ¬ (!its.toArray.isEmpty && Builtin.List.listTooLong (its.toArray.size + its2.toArray.size)) = true := by
    rw [L2.notLongL hsz, Bool.and_false]
    exact Bool.false_ne_true
  refine call_meets F.slot_list_extend ⟨_, e, rfl⟩ F.entry_list_extend (F.args_list_extend_2 _ _)
    (extend_list_tup l its.toArray n b its2.toArray n2 dd2 sl2 hlong (by rw [List.size_toArray]; omega) (by omega)) ⟨e, e2, ?_⟩
  refine ⟨.non, _, I.lset (its' := its ++ its2) hH e (by simp) (r.append r2) ?_, rfl, q⟩
  rw [List.length_append]
  omega
theorem snd_ext {i : Nat} : SndS N G k C cls dp (.ext i m) := by
  intro X sc W st c h
  unfold chkS at h
  split at h
  · rename_i x p y apos a cpos pos
    simp only [Bool.and_eq_true, decide_eq_true_eq] at h
    obtain ⟨⟨⟨⟨⟨⟨h1, h2⟩, h3⟩, rfl⟩, h5⟩, h6⟩, h7⟩ := h
    have nm := nameOk_of h3
    have B : PE X (.Name x p) (tVar i) := pe_var (X := X) (i := i) (by rw [c.hN]; exact h1) (vis_of c.hsc h2) nm.d nm.c
    have P : PA X [a] (tCons (tE X.kw C dp W cls m) tNil) := pa_cons (snd (dp := dp) m X sc W _ c.toCok h6).1 pa_nil (star_of h7 [] X.env)
    refine ps_imp (ps_expr (pe_bm PySem.F.plainAttrs_list PySem.F.slot_list_extend PySem.F.type_list_extend (MtR.or mt_extend mt_extendT) B P (attr_ok rfl _ _) (few_of h7) h5 (star_of h7 [] X.env) rfl) (swap_ok rfl _ _ _)) ?_
    rintro D σ H ⟨ω, ρ, st, hl, hs, hp⟩
    unfold exec at hp
    dsimp only at hp
    split at hp
    · rename_i ds hd
      obtain ⟨v, e1, ad, vs, rfl, h2, w2, r2⟩ := hl.at_ i _ hd
      refine ⟨_, e1, .inl ⟨rfl, _, SqL.of h2⟩, ω, ρ, st, hl, hs, (PostS.of hl hp).mono fun d st1 ω1 H1 x1 s1 q1 w r1 => ?_⟩
      obtain ⟨f1, f2⟩ := x1.fix ad dp i [] w2 (Nat.lt_succ_self _)
      have h3 : H1 ad = some (.lst vs) := f2.trans h2
      have w3 := f1.trans w2
      have r3 := r2.ext x1
      split at q1
      · split at q1
        · rename_i hlen
          obtain ⟨_, a2, ws, rfl, h4, w4, r4⟩ := r1
          refine .inl ⟨ad, a2, vs, ws, rfl, rfl, h3, h4, by rw [r3.length, r4.length]; exact hlen, ?_⟩
          exact q1 ω1 σ _ (.write w3 h3) ((hl.ext x1).write e1 w3 h3 (r3.append r4)) (s1.write w3 (.write w3 h3))
        · exact q1.elim
      · split at q1
        · rename_i hlen
          obtain ⟨_, a2, ws, rfl, h4, r4⟩ := r1
          refine .inr ⟨ad, a2, vs, ws, rfl, rfl, h3, h4, by rw [r3.length, r4.length]; exact hlen, ?_⟩
          exact q1 ω1 σ _ (.write w3 h3) ((hl.ext x1).write e1 w3 h3 (r3.append r4)) (s1.write w3 (.write w3 h3))
        · exact q1.elim
      · exact q1.elim
    · exact hp.elim
  · cases h
theorem Kept.writeM {a : Addr} {w₀ : World} {xs : List (NestedKey × Addr)} {t : Root × List Str} {o : HO} (w : ω.wr a = some t) (h : H a = some (msetO w₀ a xs)) : Kept ω H ω (upd H a o) where
  mu := List.prefix_refl _
  tup := fun b ys e => by
    have ne : b ≠ a := fun z => by rw [z, h] at e; cases e
    rw [upd_ne ne]; exact e
  frz := fun b o u e => by
    have ne : b ≠ a := fun z => by rw [z, h] at e; cases e
    rw [upd_ne ne]; exact e
  lst := fun b ys e w' => by
    have ne : b ≠ a := fun z => by rw [z, w] at w'; cases w'
    rw [upd_ne ne]; exact ⟨e, w'⟩
  dic := fun b ys e w' => by
    have ne : b ≠ a := fun z => by rw [z, w] at w'; cases w'
    rw [upd_ne ne]; exact ⟨e, w'⟩
theorem Ext.writeM {d i : Nat} {p : List Str} {a : Addr} {o : HO} {w₀ : World} {xs : List (NestedKey × Addr)} (w : ω.wr a = some (.slot d i, p)) (h : H a = some (msetO w₀ a xs)) : Ext d ω H ω (upd H a o) where
  kept := .writeM w h
  fix := fun b k j q e hk => by
    have ne : b ≠ a := fun z => by
      rw [z, w] at e
      cases e
      exact absurd hk (Nat.lt_irrefl _)
    exact ⟨rfl, upd_ne ne⟩
theorem Loc.writeM {i : Nat} {a : Addr} {xs ys : List (NestedKey × Addr)} {ds : List TL.D} (hl : Loc K ω dp ρ σ H) (hs : σ[i]? = some (some (.ref a))) (w : ω.wr a = some (.slot dp i, [])) (h : H a = some (msetO K.w a xs)) (r : KeysR K ω H ds ys) :
    Loc K ω dp (ρ.set i (some (.mset ds))) σ (upd H a (msetO K.w a ys)) :=
  ⟨by rw [List.length_set]; exact hl.len, fun j d e => by
    have kw : Kept ω H ω (upd H a (msetO K.w a ys)) := .writeM w h
    by_cases hj : j = i
    · subst hj
      by_cases hlt : j < ρ.length
      · rw [List.getElem?_set_self hlt] at e
        cases e
        exact ⟨_, hs, a, ys, rfl, upd_same, w, r.kept kw⟩
      · rw [List.getElem?_eq_none (by rw [List.length_set]; omega)] at e
        cases e
    · rw [List.getElem?_set_ne (Ne.symm hj)] at e
      obtain ⟨v', e', r'⟩ := hl.at_ j d e
      refine ⟨v', e', ?_⟩
      cases d with
      | mlst ds' =>
        obtain ⟨a', vs', e1, h1, w1, r1⟩ := r'
        have ne : a' ≠ a := fun z => by
          rw [z, w] at w1
          cases w1
          exact hj rfl
        exact ⟨a', vs', e1, by rw [upd_ne ne]; exact h1, w1, Reps.kept kw _ _ r1⟩
      | mset ds' =>
        obtain ⟨a', vs', e1, h1, w1, r1⟩ := r'
        have ne : a' ≠ a := fun z => by
          rw [z, w] at w1
          cases w1
          exact hj rfl
        exact ⟨a', vs', e1, by rw [upd_ne ne]; exact h1, w1, KeysR.kept kw r1⟩
      | _ => first | exact Rep.kept kw _ _ r' | exact r'.elim⟩
theorem keysR_app {d : TL.D} {b : Addr} (i : isKey d = true) (h : Rep K ω H d (.ref b)) : ∀ {ds : List TL.D} {xs : List (NestedKey × Addr)}, KeysR K ω H ds xs → KeysR K ω H (ds ++ [d]) (xs ++ [(nk d, b)])
  | [], xs, r => by
    rw [show xs = [] from r]
    exact ⟨b, [], rfl, i, h, rfl⟩
  | e :: ds, xs, r => by
    obtain ⟨b', r', rfl, i', h1, h2⟩ := r
    exact ⟨b', r' ++ [(nk d, b)], rfl, i', h1, keysR_app i h h2⟩
theorem rep_key {d : TL.D} {v : V} (hk : isKey d = true) (r : Rep K ω H d v) : ∃ b, v = .ref b := by
  obtain ⟨ts, rfl⟩ := isKey_tup hk
  obtain ⟨l1, b, vs, rfl, q0⟩ := r
  exact ⟨b, rfl⟩
theorem snd_ownd {i : Nat} : SndS N G k C cls dp (.ownd i m) := by
  intro X sc W st c h
  unfold chkS at h
  split at h
  · rename_i x p kx j p2 p3 pos
    simp only [Bool.and_eq_true, decide_eq_true_eq] at h
    obtain ⟨⟨h1, h2⟩, h3⟩ := h
    obtain ⟨q1, q2⟩ := lcl_of (X := X) c.hsc (fun _ => c.fn) h2
    have hN : X.N.Nodup := by rw [c.hN]; exact c.nd
    have hi : X.N[i]? = some x := by rw [c.hN]; exact h1
    have u := units_of c.toCok
    refine ps_imp (ps_set (i := i) hN hi q1 (pe_dispM u (snd (dp := dp) m X sc W _ c.toCok h3).1) (swap_ok rfl _ _ _) q2) ?_
    rintro D σ H ⟨ω, ρ, st, hl, hs, hp⟩ a ha
    unfold exec at hp
    have x0 : Ext (dp + 1) ω H (ω.put a (.slot dp i, [])) (upd H a (msetO X.w a [])) := .put hs.trk ha
    refine ⟨_, ρ, st, hl.ext x0, hs.put ha, ((PostS.of hl hp).ext x0).mono fun d st1 ω1 H1 x1 s1 q1 v r1 => ?_⟩
    split at q1
    · rename_i hk
      obtain ⟨b, rfl⟩ := rep_key hk r1
      have fx := x1.fix a dp i [] Wd.put_same (Nat.lt_succ_self _)
      have w1 := fx.1.trans Wd.put_same
      have h1p : H1 a = some (msetO X.w a []) := fx.2.trans upd_same
      have x2 := x0.trans x1
      refine ⟨ω1, d, b, rfl, r1, hk, h1p, ?_⟩
      have x3 : Ext dp ω1 H1 ω1 (upd H1 a (msetO X.w a [(nk d, b)])) := .writeM w1 h1p
      refine q1 ω1 _ _ x3 ?_ (s1.write w1 (.writeM w1 h1p))
      have hl2 : Loc X.kw ω1 dp ρ σ H1 := hl.ext x2
      have hl3 : Loc X.kw ω1 dp ρ σ (upd H1 a (msetO X.w a [(nk d, b)])) := ⟨hl2.len, fun j d' e => by
        obtain ⟨v', e', r'⟩ := hl.at_ j d' e
        have kw : Kept ω1 H1 ω1 (upd H1 a (msetO X.w a [(nk d, b)])) := .writeM w1 h1p
        refine ⟨v', e', ?_⟩
        have nea : ∀ b', H b' ≠ none → b' ≠ a := fun b' z e => z (by rw [e]; exact ha)
        cases d' with
        | mlst ds' =>
          obtain ⟨a', vs', e1, g1, g2, g3⟩ := r'
          have ne := nea a' (by rw [g1]; simp)
          obtain ⟨f1, f2⟩ := x2.fix a' dp j [] g2 (Nat.lt_succ_self _)
          exact ⟨a', vs', e1, by rw [upd_ne ne]; exact f2.trans g1, f1.trans g2, Reps.kept kw _ _ (g3.ext x2)⟩
        | mset ds' =>
          obtain ⟨a', vs', e1, g1, g2, g3⟩ := r'
          have ne := nea a' (by rw [g1]; simp)
          obtain ⟨f1, f2⟩ := x2.fix a' dp j [] g2 (Nat.lt_succ_self _)
          exact ⟨a', vs', e1, by rw [upd_ne ne]; exact f2.trans g1, f1.trans g2, KeysR.kept kw (g3.kept x2.kept)⟩
        | _ => first | exact Rep.kept kw _ _ (Rep.ext x2 r') | exact r'.elim⟩
      exact hl3.set ⟨a, [(nk d, b)], rfl, upd_same, w1, b, [], rfl, hk, Rep.kept (.writeM w1 h1p) _ _ r1, rfl⟩
    · exact q1.elim
  · cases h
end
end TL

namespace TL
open PySem L2 PyProof.Rows
section
variable {X : Cx} {N : List Str} {G : GT} {k : Nat} {C : Cal} {cls : Nat → Value} {dp : Nat} {sc : Scope} {W : WX} {e : Expr} {es : List Expr} {m n l a b : E} {ms : List E}
variable {K : KW} {ω ω' ω'' : Wd} {H H' H'' : Hp} {D : Ends} {ρ : Env} {σ : L2.St} {st : Sto}
theorem lcl_local {x : Str} (hsc : X.env.scope = sc) (h : lcl false sc x = true) : X.env.kindOf x = some .local := by
  unfold Env.kindOf
  rw [hsc]
  unfold lcl at h
  revert h
  cases sc.names.lookup x with
  | none => intro h; cases h
  | some q => cases q <;> first | (intro _; rfl) | (intro h; cases h)
theorem par_of {ts vs : List Expr} {kt k2 : Nat} {pt p2 : Pos} (hsc : X.env.scope = sc) (h : parOk sc ts vs = true) : ∃ x px y py a b, ts = [.Name x px, .Name y py] ∧ vs = [a, b] ∧ X.env.scope.names.lookup x = some .local ∧ X.env.scope.names.lookup y = some .local ∧
    swappedStores [.Tuple ts kt pt] (.Tuple vs k2 p2) X.env = pure (some [x, y]) ∧ x ≠ y := by
  unfold parOk at h
  split at h
  · rename_i x px y py a b
    simp only [Bool.and_eq_true, Bool.not_eq_true', decide_eq_false_iff_not] at h
    obtain ⟨⟨⟨⟨⟨⟨⟨⟨h1, h2⟩, h3⟩, h4⟩, h5⟩, h6⟩, h7⟩, h8⟩, h9⟩ := h
    have k1 := lcl_local hsc h2
    have k2' := lcl_local hsc h3
    have hk : X.env.scope.kind = .function := by
      rw [hsc]
      revert h1
      cases sc.kind <;> first | (intro _; rfl) | (intro h; cases h)
    have hb : X.env.blockKind = .function := by unfold Env.blockKind; rw [hk]; rfl
    have e5 : px.line = py.line := by simpa using h5
    refine ⟨x, px, y, py, a, b, rfl, rfl, k1, k2', ?_, h4⟩
    unfold swappedStores
    have ha : ([a, b].any fun | .Starred .. => true | _ => false) = false := by
      rw [List.any_cons, List.any_cons, List.any_nil]
      cases a <;> cases b <;> first | rfl | (simp [notStar] at h6; done) | (simp [notStar] at h7; done)
    have hne : ¬ y = x := fun z => h4 z.symm
    have q1 : (y == x) = false := by simpa using hne
    have ed : ([x, y] : List Str).eraseDups = [x, y] := by
      simp [List.eraseDups, List.eraseDupsBy, List.eraseDupsBy.loop, q1]
    have fm : (([.Name x px, .Name y py] : List Expr).filterMap fun
        | .Name id pos => if X.env.kindOf id == some .local && pos.line == ((([.Name x px, .Name y py] : List Expr).head?.map (·.pos.line)).getD 0) then some id else none
        | _ => none) = [x, y] := by
      simp [k1, k2', e5, Expr.pos]
    have hb' : (X.env.blockKind != ScopeKind.function) = false := by rw [hb]; rfl
    have key : ∀ names : List Str, names = [x, y] → ¬ ((names.length != 2 || names.eraseDups.length != names.length) = true) := by
      rintro _ rfl
      rw [ed]
      simp
    first | unfold swappedStores | skip
    refine (if_neg ?_).trans ((if_neg ?_).trans ((if_neg ?_).trans ((if_neg ?_).trans ((if_neg ?_).trans ?_))))
    · rw [hb']
      simp
    · rw [Bool.not_eq_true]
      exact ha
    · exact key _ fm
    · rw [h8]
      simp
    · rw [h9]
      simp
    · exact congrArg (fun z => (pure (some z) : Sem (Option (List Str)))) fm
  · cases h
theorem cell_none {ts vs : List Expr} {kt k2 : Nat} {pt p2 : Pos} (hsc : X.env.scope = sc) (h : someCell sc ts = true) : swappedStores [.Tuple ts kt pt] (.Tuple vs k2 p2) X.env = pure none := by
  have key : ∀ (ts : List Expr) (ln : Nat), someCell sc ts = true → ((ts.filterMap fun
        | .Name id pos => if X.env.kindOf id == some .local && pos.line == ln then some id else none
        | _ => none).length != ts.length) = true := by
    intro ts ln h
    have le : ∀ ts : List Expr, (ts.filterMap fun
        | .Name id pos => if X.env.kindOf id == some .local && pos.line == ln then some id else none
        | _ => none).length ≤ ts.length := fun ts => List.length_filterMap_le _ _
    have lt : ∀ ts : List Expr, someCell sc ts = true → (ts.filterMap fun
        | .Name id pos => if X.env.kindOf id == some .local && pos.line == ln then some id else none
        | _ => none).length < ts.length := by
      intro ts
      induction ts with
      | nil => intro h; simp [someCell] at h
      | cons t ts ih =>
        intro h
        cases t <;> first | (simp [someCell] at h; done) | skip
        rename_i x p
        simp only [someCell, Bool.or_eq_true] at h
        rw [List.length_cons]
        by_cases hx : (X.env.kindOf x == some .local && p.line == ln) = true
        · rcases h with h | h
          · exfalso
            simp only [Bool.and_eq_true, beq_iff_eq] at hx
            have q := hx.1
            unfold Env.kindOf at q
            rw [hsc] at q
            rw [q] at h
            cases h
          · rw [List.filterMap_cons]
            simp only [hx, if_true, List.length_cons]
            exact Nat.succ_lt_succ (ih h)
        · rw [List.filterMap_cons]
          simp only [hx, if_false]
          exact Nat.lt_succ_of_le (le ts)
    have := lt ts h
    rw [bne_iff_ne]
    omega
  have q := key ts ((ts.head?.map (·.pos.line)).getD 0) h
  first | unfold swappedStores | skip
  split
  · rename_i heq
    cases heq
    split
    · rfl
    · split
      · rfl
      · refine (if_pos ?_).trans rfl
        rw [Bool.or_eq_true]
        exact .inl q
  · rename_i hno
    exact (hno ts vs rfl).elim
theorem swappedE {tg e : Expr} (h : notTuple e = true) (env : PySem.Env) : swappedStores [tg] e env = pure none := by
  unfold swappedStores
  split
  · rename_i heq
    revert heq
    cases e <;> cases tg <;> first | (intro h; cases h; done) | (simp [notTuple] at h)
  · rfl
theorem swapSole {t v : Expr} {l : Nat} {env : PySem.Env} (h : swapsWith v (some t) l env = pure false) : swapsWithSole [t] v l env = pure false := by
  unfold swapsWithSole
  exact h
theorem setAll_two {ρ : Env} {i j : Nat} {d e : TL.D} : setAll [i, j] [d, e] ρ = (ρ.set i (some d)).set j (some e) := rfl
theorem snd_unpack {is : List Nat} : SndS N G k C cls dp (.unpack is m) := by
  intro X sc W st c h
  unfold chkS at h
  split at h
  · rename_i ts kt pt v pos
    simp only [Bool.and_eq_true] at h
    obtain ⟨⟨⟨h1, h2⟩, h3⟩, h4⟩ := h
    have hN : X.N.Nodup := by rw [c.hN]; exact c.nd
    obtain ⟨A, B, D, F, L⟩ := tgs_of (X := X) c.hN c.nd c.hsc (fun _ => c.fn) h1
    have E := (snd (dp := dp) m X sc W v c.toCok h3).1
    have gen : swappedStores [.Tuple ts kt pt] v X.env = pure none → PS X (.Assign [.Tuple ts kt pt] v pos) (tS X.kw dp W cls fun ρ s => exec C (.unpack is m) ρ s) := by
      intro hw
      refine ps_imp (ps_asg E (pg_tup c.calm A L F) (swapSole (swap_ok h2 _ _ _)) hw rfl) ?_
      rintro D σ H ⟨ω, ρ, st, hl, hs, hp⟩
      unfold exec at hp
      refine ⟨ω, ρ, st, hl, hs, (PostS.of hl hp).mono fun d st1 ω1 H1 x1 s1 q1 v r1 => ?_⟩
      split at q1
      · rename_i ρ1 hb
        exact gT_of (tg := .tp is) (hl.ext x1) r1 hb fun σ' hl' _ => q1 ω1 σ' H1 .refl hl' s1
      · exact q1.elim
    split at h4
    · rename_i vs k2 p2
      simp only [Bool.or_eq_true, Bool.and_eq_true, decide_eq_true_eq] at h4
      rcases h4 with ⟨⟨⟨h5, h6⟩, h7⟩, h8⟩ | h5
      · obtain ⟨x, px, y, py, a, b, rfl, rfl, l1, l2, hw, ne⟩ := par_of (kt := kt) (k2 := k2) (pt := pt) (p2 := p2) c.hsc h5
        cases m <;> first | (cases h6; done) | skip
        rename_i ms
        match is, B with
        | [i, j], _ =>
          simp only [tgOk.tgs, Bool.and_eq_true, decide_eq_true_eq] at h1
          obtain ⟨⟨⟨e1, _⟩, _⟩, ⟨⟨⟨e2, _⟩, _⟩, _⟩⟩ := h1
          unfold chkE at h3
          simp only [Bool.and_eq_true, decide_eq_true_eq] at h3
          obtain ⟨P, _⟩ := snd_es (dp := dp) (snds ms) X sc W [a, b] c.toCok h3.2
          have hij : i ≠ j := by
            intro z
            rw [z] at h8
            simp at h8
          refine ps_imp (ps_par (i := i) (j := j) c.calm hN (by rw [c.hN]; exact e1) (by rw [c.hN]; exact e2) hij l1 l2 P hw (swapSole (swap_ok h2 _ _ _))) ?_
          rintro D σ H ⟨ω, ρ, st, hl, hs, hp⟩
          unfold exec at hp
          have hp := PostS.of hl hp
          unfold ev at hp
          refine ⟨ω, ρ, st, hl, hs, (Post.bind hp).len.mono fun ds st1 ω1 H1 x1 s1 ⟨ln, q1⟩ vs r1 => ?_⟩
          have q1 : ∀ ω' H', Ext (dp + 1) ω1 H1 ω' H' → StoOk X.kw ω' st1 H' → PostS X.kw dp W cls ω' H' (match bindT (.tp [i, j]) (.tup ds) ρ with
            | some ρ1 => .nx ρ1 st1
            | none => .fail) D := q1
          have q2 := q1 ω1 H1 .refl s1
          have l2 : ds.length = 2 := by
            rw [ln]
            have := chkEs_length h3.2
            exact this.symm
          match ds, l2 with
          | [d, e], _ =>
            obtain ⟨v, w, rfl, rv, rw'⟩ := r1.two
            refine ⟨v, w, rfl, ?_⟩
            exact q2 ω1 _ H1 .refl (((hl.ext x1).set (OwnR.of rv)).set (OwnR.of rw')) s1
      · exact gen (cell_none c.hsc h5)
    · cases h4
    · rename_i n1 n2
      refine gen (swappedE ?_ _)
      cases v <;> first | rfl | exact absurd rfl (n1 _ _ _) | exact absurd rfl (n2 _ _)
  · cases h

theorem snd_unpackL {is : List Nat} : SndS N G k C cls dp (.unpackL is m) := by
  intro X sc W st c h
  unfold chkS at h
  split at h
  · rename_i ts kt pt v pos
    simp only [Bool.and_eq_true] at h
    obtain ⟨⟨h1, h2⟩, h3⟩ := h
    obtain ⟨A, B, D, F, L⟩ := tgs_of (X := X) c.hN c.nd c.hsc (fun _ => c.fn) h1
    have E := (snd (dp := dp) m X sc W v c.toCok h3).1
    have sw : swapsWithSole [.Tuple ts kt pt] v pos.line X.env = pure false := by
      unfold swapsWithSole swapsWith
      cases v <;> rfl
    refine ps_imp (ps_asg E (pg_unl c.calm A L F) sw (swappedE h2 _) rfl) ?_
    rintro D σ H ⟨ω, ρ, st, hl, hs, hp⟩
    unfold exec at hp
    refine ⟨ω, ρ, st, hl, hs, (PostS.of hl hp).mono fun d st1 ω1 H1 x1 s1 q1 v r1 => ?_⟩
    split at q1
    · rename_i ds
      split at q1
      · rename_i hlen
        obtain ⟨l1, a1, ws, rfl, sq, w1, r1⟩ := r1
        exact ⟨a1, ws, rfl, SqL.of sq, r1.length.trans hlen, gNames_of (hl.ext x1) r1 hlen fun σ' hl' _ => q1 ω1 σ' H1 .refl hl' s1⟩
      · exact q1.elim
    · exact q1.elim
  · cases h
theorem snd_ifs {ca cb : List S} (ha : SndSs N G k C cls dp ca) (hb : SndSs N G k C cls dp cb) : SndS N G k C cls dp (.ifs m ca cb) := by
  intro X sc W st c h
  unfold chkS at h
  split at h
  · simp only [Bool.and_eq_true] at h
    refine ps_imp (ps_if (snd (dp := dp) m X sc W _ c.toCok h.1.1).2 (ha X sc W _ c h.1.2) (hb X sc W _ c h.2)) ?_
    rintro D σ H ⟨ω, ρ, st, hl, hs, hp⟩
    unfold exec at hp
    refine ⟨ω, ρ, st, hl, hs, (PostS.of hl hp).mono fun d st1 ω1 H1 x1 s1 q1 => ?_⟩
    split at q1
    · rename_i kk
      refine ⟨kk, rfl, ?_⟩
      cases kk with
      | true => exact ⟨ω1, ρ, st1, hl.ext x1, s1, q1⟩
      | false => exact ⟨ω1, ρ, st1, hl.ext x1, s1, q1⟩
    · exact q1.elim
  · cases h
theorem snd_while {body : List S} (hb : SndSs N G k C cls dp body) : SndS N G k C cls dp (.while m body) := by
  intro X sc W st c h
  unfold chkS at h
  split at h
  · simp only [Bool.and_eq_true] at h
    refine ps_imp (ps_while c.po (snd (dp := dp) m X sc W _ c.toCok h.1).2 (hb X sc W _ c h.2)) ?_
    rintro D σ H ⟨ω, ρ, st, hl, hs, hp⟩
    unfold exec at hp
    refine ⟨fun n σ H => ∃ ω ρ st, Loc X.kw ω dp ρ σ H ∧ StoOk X.kw ω st H ∧ PostS X.kw dp W cls ω H (whileGo (fun ρ st => ev C m ρ st) (fun ρ st => execs C body ρ st) n ρ st) D, ⟨FU, ω, ρ, st, hl, hs, hp⟩, ?_⟩
    rintro n σ H ⟨ω, ρ, st, hl, hs, hp⟩
    cases n with
    | zero => exact hp.elim
    | succ n =>
      unfold whileGo at hp
      refine ⟨ω, ρ, st, hl, hs, (PostS.of hl hp).mono fun d st1 ω1 H1 x1 s1 q1 => ?_⟩
      split at q1
      · refine ⟨true, rfl, ?_⟩
        show ite _ _ _
        rw [if_pos rfl]
        refine ⟨fun σ H => tS X.kw dp W cls (whileGo (fun ρ st => ev C m ρ st) (fun ρ st => execs C body ρ st) n) D σ H, fun σ' H' ⟨ω', ρ', st', a, b, q⟩ => ⟨n, Nat.lt_succ_self _, ω', ρ', st', a, b, q⟩, ω1, ρ, st1, hl.ext x1, s1, ?_⟩
        refine (PostS.seq q1).mono (fun _ _ q => q) fun _ _ q => q
      · refine ⟨false, rfl, ?_⟩
        show ite _ _ _
        rw [if_neg Bool.false_ne_true]
        exact q1 ω1 σ H1 .refl (hl.ext x1) s1
      · exact q1.elim
  · cases h
theorem snd_for {tg : T} {ik : IK} {ie : List E} {body : List S} (hb : SndSs N G k C cls dp body) : SndS N G k C cls dp (.for tg ik ie body) := by
  intro X sc W st c h
  unfold chkS at h
  split at h
  · rename_i t it bx pos
    simp only [Bool.and_eq_true] at h
    obtain ⟨⟨⟨h1, h2⟩, h3⟩, h4⟩ := h
    cases qi : itArgs G sc ik tg it with
    | none => rw [qi] at h4; cases h4
    | some es =>
      rw [qi] at h4
      have I := snd_it (dp := dp) (own := (match tg with | .nm i => [i] | .tp is => is)) (snds ie) c.toCok qi h4 (tg_shape h1)
      refine ps_imp (ps_for c.po c.calm I (tg_of c.hN c.nd c.hsc (fun _ => c.fn) c.calm h1) (hb X sc W _ c h3) (fold_ok h2 X.env)) ?_
      rintro D σ H ⟨ω, ρ, st, hl, hs, hp⟩
      unfold exec at hp
      refine ⟨ω, ρ, st, hl, hs, (PostS.ofs hl hp).mono fun ds st1 ω1 H1 x1 s1 q1 => ?_⟩
      cases qx : items ik ds with
      | none => rw [qx] at q1; exact q1.elim
      | some xs =>
        rw [qx] at q1
        refine ⟨xs, rfl, fun J F => ?_⟩
        refine ⟨fun i mm σ H => mm = xs.length - i ∧ i ≤ xs.length ∧ ∃ ω' ρ' st', Kept ω1 H1 ω' H ∧ Loc X.kw ω' dp ρ' σ H ∧ StoOk X.kw ω' st' H ∧ PostS X.kw dp W cls ω' H (forGo (bindT tg) (fun ρ st => execs C body ρ st) (xs.drop i) ρ' st') D,
          ⟨xs.length, by simp, Nat.zero_le _, ω1, ρ, st1, .refl, hl.ext x1, s1, q1⟩, ?_⟩
        rintro i mm σ H2 ⟨rfl, hi, ω2, ρ2, st2, k2, l2, s2, p2⟩
        by_cases hlt : i < xs.length
        · rw [List.drop_eq_getElem_cons hlt] at p2
          unfold forGo at p2
          refine .inr ⟨F.go ω2 H2 k2 i hlt, fun σ H => ∃ ω' ρ' st', Kept ω1 H1 ω' H ∧ Loc X.kw ω' dp ρ' σ H ∧ StoOk X.kw ω' st' H ∧ PostS X.kw dp W cls ω' H (forGo (bindT tg) (fun ρ st => execs C body ρ st) (xs.drop (i + 1)) ρ' st') D,
            fun σ' H' h => ⟨xs.length - (i + 1), by omega, rfl, hlt, h⟩, fun x H3 y => ?_⟩
          obtain ⟨gr, rx⟩ := F.yld ω2 H2 k2 i x H3 xs[i] (List.getElem?_eq_getElem hlt) y
          have x3 : Ext (dp + 1) ω2 H2 ω2 H3 := .ofGrow s2 gr
          have p3 := PostS.at p2 (x3.mono (Nat.le_succ _))
          cases qb : bindT tg xs[i] ρ2 with
          | none => rw [qb] at p3; exact p3.elim
          | some ρ3 =>
            rw [qb] at p3
            refine gT_of (l2.ext x3) rx qb fun σ4 l4 _ => ⟨ω2, ρ3, st2, l4, s2.grow gr, ?_⟩
            have kk : Kept ω1 H1 ω2 H3 := k2.trans x3.kept
            have p3 : PostS X.kw dp W cls ω2 H3 ((execs C body ρ3 st2).seq fun ρ2 st2 => forGo (bindT tg) (fun ρ st => execs C body ρ st) (xs.drop (i + 1)) ρ2 st2) D := p3
            revert p3
            show PostS X.kw dp W cls ω2 H3 _ D → PostS X.kw dp W cls ω2 H3 (execs C body ρ3 st2) _
            cases execs C body ρ3 st2 with
            | nx ρ' st' =>
              intro p3 ω5 σ5 H5 x5 l5 s5
              have p3 : PostS X.kw dp W cls ω2 H3 (forGo (bindT tg) (fun ρ st => execs C body ρ st) (xs.drop (i + 1)) ρ' st') D := p3
              exact ⟨ω5, ρ', st', kk.trans x5.kept, l5, s5, PostS.at p3 x5⟩
            | rt d st' => exact fun p4 => p4
            | ex cc ρ' st' => exact fun p4 => p4
            | fail => exact fun p4 => p4
        · have e1 : i = xs.length := by omega
          subst e1
          rw [List.drop_length] at p2
          unfold forGo at p2
          exact .inl ⟨F.stop ω2 H2 k2, p2 ω2 σ H2 .refl l2 s2⟩
  · cases h
theorem chkSs_cons {s : S} {ms : List S} {sts : List Stmt} (nf : ∀ i, s ≠ .freeze i) : chkSs N G (s :: ms) sc sts = (match sts with
    | st :: sts => chkS N G s sc st && chkSs N G ms sc sts
    | [] => false) := by
  cases s <;> first | exact absurd rfl (nf _) | (cases sts <;> simp only [chkSs])
theorem snd_ss_cons {s : S} {ms : List S} (h1 : SndS N G k C cls dp s) (h2 : SndSs N G k C cls dp ms) (nf : ∀ i, s ≠ .freeze i) : SndSs N G k C cls dp (s :: ms) := by
  intro X sc W sts c h
  have h' := h
  rw [chkSs_cons nf] at h'
  cases sts with
  | nil => cases h'
  | cons st sts =>
    simp only [Bool.and_eq_true] at h'
    refine pss_imp (pss_cons (h1 X sc W st c h'.1) (h2 X sc W sts c h'.2)) ?_
    rintro D σ H ⟨ω, ρ, st, hl, hs, hp⟩
    unfold execs at hp
    exact ⟨ω, ρ, st, hl, hs, PostS.seq hp⟩
theorem Loc.freeze {i : Nat} {a : Addr} {vs : List V} {ds : List TL.D} (hl : Loc K ω dp ρ σ H) (s : StoOk K ω st H) (hs : σ[i]? = some (some (.ref a))) (h : H a = some (.lst vs)) (w : ω.wr a = some (.slot dp i, [])) (r : Reps K ω H ds vs) (l : ds.length ≤ sizeLine) :
    Loc K (ω.free a) dp (ρ.set i (some (.lst ds))) σ H :=
  ⟨by rw [List.length_set]; exact hl.len, fun j d e => by
    by_cases hj : j = i
    · subst hj
      by_cases hlt : j < ρ.length
      · rw [List.getElem?_set_self hlt] at e
        cases e
        refine ⟨_, hs, OwnR.of ⟨l, a, vs, rfl, h, ?_, Reps.kept .free _ _ r⟩⟩
        show (if a = a then none else ω.wr a) = none
        rw [if_pos rfl]
      · rw [List.getElem?_eq_none (by rw [List.length_set]; omega)] at e
        cases e
    · rw [List.getElem?_set_ne (Ne.symm hj)] at e
      obtain ⟨v', e', r'⟩ := hl.at_ j d e
      refine ⟨v', e', ?_⟩
      cases d with
      | mlst ds' =>
        obtain ⟨a', vs', e1, h1, w1, r1⟩ := r'
        have ne : a' ≠ a := fun z => by
          rw [z, w] at w1
          cases w1
          exact hj rfl
        refine ⟨a', vs', e1, h1, ?_, Reps.kept .free _ _ r1⟩
        show (if a' = a then none else ω.wr a') = _
        rw [if_neg ne]
        exact w1
      | mset ds' =>
        obtain ⟨a', vs', e1, h1, w1, r1⟩ := r'
        have ne : a' ≠ a := fun z => by
          rw [z, w] at w1
          cases w1
          exact hj rfl
        refine ⟨a', vs', e1, h1, ?_, KeysR.kept .free r1⟩
        show (if a' = a then none else ω.wr a') = _
        rw [if_neg ne]
        exact w1
      | _ => first | exact Rep.kept .free _ _ r' | exact r'.elim⟩
theorem Ext.freeOwn {d i : Nat} {p : List Str} {a : Addr} (w : ω.wr a = some (.slot d i, p)) : Ext d ω H (ω.free a) H where
  kept := .free
  fix := fun b k j q e hk => by
    have ne : b ≠ a := fun z => by
      rw [z, w] at e
      cases e
      exact absurd hk (Nat.lt_irrefl _)
    refine ⟨?_, rfl⟩
    show (if b = a then none else ω.wr b) = _
    rw [if_neg ne]
theorem snd_put {i : Nat} : SndS N G k C cls dp (.put i m) := by
  intro X sc W st c h
  unfold chkS at h
  split at h
  · rename_i x p kx p1 j p2 pos
    simp only [Bool.and_eq_true, decide_eq_true_eq] at h
    obtain ⟨⟨⟨⟨h1, h2⟩, h3⟩, h4⟩, h5⟩ := h
    have nm := nameOk_of h3
    have B : PE X (.Name x p) (tVar i) := pe_var (X := X) (i := i) (by rw [c.hN]; exact h1) (vis_of c.hsc h2) nm.d nm.c
    have u := units_of c.toCok
    have ha : ∀ v, assign (.Subscript (.Name x p) kx p1) X.env v = (do
      let ov ← holding [v] (eval (.Name x p) X.env)
      let iv ← holding [v, ov] (eval kx X.env)
      standAt p1
      holding [v, ov, iv] (setItem ov iv v)
      release [v, ov, iv] []) := by
      intro v
      cases kx <;> first | rfl | (simp [notSlice] at h4)
    refine ps_imp (ps_asg pe_bl (pg_sub B (snd (dp := dp) m X sc W _ c.toCok h5).1 (pset_mset u) ha) (swapSole (swap_ok rfl _ _ _)) (swappedE rfl _) rfl) ?_
    rintro D σ H ⟨ω, ρ, st, hl, hs, hp⟩
    unfold exec at hp
    dsimp only at hp
    split at hp
    · rename_i ks hd
      obtain ⟨v, e1, ad, xs, rfl, h2, w2, r2⟩ := hl.at_ i _ hd
      refine ⟨_, e1, ω, ρ, st, hl, hs, (PostS.of hl hp).mono fun d st1 ω1 H1 x1 s1 q1 w r1 => ?_⟩
      obtain ⟨f1, f2⟩ := x1.fix ad dp i [] w2 (Nat.lt_succ_self _)
      have h3 : H1 ad = some (msetO X.w ad xs) := f2.trans h2
      have w3 := f1.trans w2
      have r3 := r2.kept x1.kept
      split at q1
      · rename_i hh
        simp only [Bool.and_eq_true, decide_eq_true_eq] at hh
        obtain ⟨hk, hlen⟩ := hh
        obtain ⟨b, rfl⟩ := rep_key hk r1
        refine ⟨ω1, d, ks, ad, b, xs, rfl, rfl, rfl, r1, hk, h3, r3, hlen, ?_⟩
        refine q1 ω1 σ _ (.writeM w3 h3) ((hl.ext x1).writeM e1 w3 h3 ?_) (s1.write w3 (.writeM w3 h3))
        split
        · exact r3
        · exact keysR_app hk r1 r3
      · exact q1.elim
    · exact hp.elim
  · cases h
theorem FldsR.put {l : Nat} {f : Str} {d : TL.D} {y : V} (o : d.own = false) (r : Rep K ω H d y) : ∀ {fs : List (Str × TL.D)} {vs : List (Str × V)}, FldsR K ω H l fs vs → FldsR K ω H l (putD f d fs) (putF f y vs)
  | [], vs, h => by
    rw [show vs = [] from h]
    refine ⟨y, [], rfl, ?_, rfl⟩
    cases d <;> first | exact r | exact absurd o (by simp [D.own])
  | (g, x) :: fs, vs, h => by
    obtain ⟨v, r', rfl, h1, h2⟩ := h
    unfold putD putF
    by_cases e : g = f
    · rw [if_pos e, if_pos e]
      refine ⟨y, r', rfl, ?_, h2⟩
      subst e
      cases d <;> first | exact r | exact absurd o (by simp [D.own])
    · rw [if_neg e, if_neg e]
      exact ⟨v, _, rfl, h1, FldsR.put o r h2⟩
theorem putD_keys (f : Str) (d : TL.D) : ∀ (fs : List (Str × TL.D)), (fs.map (·.1)).Nodup → ((putD f d fs).map (·.1)).Nodup ∧ ∀ g, g ∈ (putD f d fs).map (·.1) → g = f ∨ g ∈ fs.map (·.1)
  | [], _ => by simp [putD]
  | (g, x) :: fs, h => by
    rw [List.map_cons, List.nodup_cons] at h
    obtain ⟨i1, i2⟩ := putD_keys f d fs h.2
    unfold putD
    by_cases e : g = f
    · rw [if_pos e]
      refine ⟨by rw [List.map_cons, List.nodup_cons]; exact h, fun a ha => .inr ha⟩
    · rw [if_neg e]
      refine ⟨by
        rw [List.map_cons, List.nodup_cons]
        refine ⟨fun z => ?_, i1⟩
        rcases i2 _ z with q | q
        · exact e q
        · exact h.1 q, fun a ha => ?_⟩
      rw [List.map_cons] at ha ⊢
      rcases List.mem_cons.mp ha with q | q
      · exact .inr (by rw [q]; exact List.mem_cons_self ..)
      · exact (i2 a q).imp id (List.mem_cons_of_mem _)
theorem FldsR.len {l : Nat} : ∀ {fs : List (Str × TL.D)} {vs : List (Str × V)}, FldsR K ω H l fs vs → vs.length = fs.length
  | [], vs, h => by rw [show vs = [] from h]; rfl
  | (f, d) :: fs, vs, h => by
    obtain ⟨v, r, rfl, h1, h2⟩ := h
    rw [List.length_cons, List.length_cons, h2.len]
theorem chg_cell {a C dx : Addr} {vs : List (Str × V)} {t : Root × List Str} (h : H a = some (.ins C dx vs)) (w : ω.wr a = some t) : Chg ω H a := ⟨fun xs e => (by rw [h] at e; cases e), fun o u e => (by rw [h] at e; cases e), (by rw [w]; simp)⟩
theorem Ext.cell {d l : Nat} {p : List Str} {a : Addr} {o : HO} (c : Chg ω H a) (w : ω.wr a = some (.cell l, p)) : Ext d ω H ω (upd H a o) :=
  ⟨c.kept, fun b k i q e _ => ⟨rfl, upd_ne fun z => by rw [z, w] at e; cases e⟩⟩
theorem snd_setF {c₀ f : Str} : SndS N G k C cls dp (.setF c₀ m f n) := by
  intro X sc W st c h
  unfold chkS at h
  split at h
  · rename_i a f' p' ex pos
    simp only [Bool.and_eq_true, decide_eq_true_eq] at h
    obtain ⟨⟨⟨⟨rfl, h2⟩, h3⟩, h4⟩, h5⟩ := h
    obtain ⟨ct, hct, hc⟩ := cls_of c.toCok h3
    simp only [Bool.and_eq_true, decide_eq_true_eq] at hc
    obtain ⟨rfl, hf⟩ := hc
    obtain ⟨Ca, hmg, hns, hcl, hna, _, _⟩ := c.clss ct hct
    refine ps_imp (ps_fld (snd (dp := dp) m X sc W a c.toCok h4).1 (snd (dp := dp) n X sc W ex c.toCok h5).1 (swap_ok h2 _ _ _)) ?_
    rintro D σ H ⟨ω, ρ, st, hl, hs, hp⟩
    unfold exec at hp
    refine ⟨ω, ρ, st, hl, hs, (PostS.of hl hp).mono fun d st1 ω1 H1 x1 s1 q1 y ry => ?_⟩
    refine ⟨ω1, ρ, st1, hl.ext x1, s1, (PostS.of (hl.ext x1) q1).mono fun x st2 ω2 H2 x2 s2 q2 v r2 => ?_⟩
    split at q2
    · rename_i st' hset
      unfold setFD at hset
      split at hset
      · rename_i l
        split at hset
        · rename_i c' fs hst
          split at hset
          · rename_i hcond
            cases hset
            obtain ⟨hc', hlen, ho⟩ := hcond
            subst hc'
            obtain ⟨c2, fs2, a2, C2, dx, vs, e2, m2, Ha, w2, n2, nd, fr⟩ := s2.at_ l _ hst
            cases e2
            obtain ⟨a3, m3, rfl⟩ := r2
            rw [m2] at m3
            cases m3
            have hns' := hns
            rw [n2] at hns'
            cases hns'
            have ch : Chg ω2 H2 a2 := chg_cell Ha w2
            have ry2 : Rep X.kw ω2 H2 d y := Rep.ext x2 ry
            have xw : Ext (dp + 1) ω2 H2 ω2 (upd H2 a2 (.ins Ca dx (putF f' y vs))) := .cell ch w2
            refine ⟨a2, Ca, dx, vs, rfl, Ha, hcl, hna _ hf, by rw [fr.len]; exact hlen, ?_⟩
            refine q2 ω2 σ _ (.cell ch w2) (((hl.ext x1).ext x2).ext xw) ⟨?_, fun b e => ?_, fun l' d' e => ?_⟩
            · rw [List.length_set]; exact s2.len
            · by_cases q : b = a2
              · rw [q, upd_same]; simp
              · rw [upd_ne q]; exact s2.trk b e
            · by_cases ql : l' = l
              · subst ql
                rw [List.getElem?_set_self (List.getElem?_eq_some_iff.mp hst).1] at e
                cases e
                refine ⟨ct.name, _, a2, Ca, dx, _, rfl, m2, upd_same, w2, hns, (putD_keys f' d fs nd).1, ?_⟩
                refine FldsR.kept ⟨ch.kept, fun b p hp e => ⟨rfl, upd_ne fun z => ?_⟩⟩ (fr.put ho ry2)
                rw [z, w2] at e
                cases e
                exact hp rfl
              · rw [List.getElem?_set_ne (fun z => ql z.symm)] at e
                refine (s2.at_ l' d' e).kept ⟨ch.kept, fun b p e => ⟨rfl, upd_ne fun z => ?_⟩⟩
                rw [z, w2] at e
                cases e
                exact ql rfl
          · cases hset
        · cases hset
      · cases hset
    · exact q2.elim
  · cases h
theorem snd_raise {j : Nat} : SndS N G k C cls dp (.raise j) := by
  intro X sc W st c h
  unfold chkS at h
  split at h
  · rename_i x p m jj p2 p3 pos
    simp only [Bool.and_eq_true, decide_eq_true_eq] at h
    obtain ⟨⟨h1, h2⟩, h3⟩ := h
    obtain ⟨Ca, B, newId, initId, bmB, ec, hmg, F, q, kp, sb, ty⟩ := c.exc j x h1
    refine ps_imp (ps_raise c.calm c.tk (pmk_own F q hmg kp (raises_own sb ty) (glb_of c.hsc h2) (nameOk_of h3).d)) ?_
    rintro D σ H ⟨ω, ρ, st, hl, hs, hp⟩
    unfold exec at hp
    have z := hp ω σ H .refl hl hs
    rw [ec] at z
    exact z
  · cases h
theorem pe_k {X : Cx} {d : TL.D} {e : Expr} (h : kst d e = true) : ∃ v, (∀ ω H, Rep X.kw ω H d v) ∧ PE X e (tC v) ∧ d.own = false ∧ notStar e = true ∧ notComp e = true := by
  unfold kst at h
  split at h
  · rename_i cc j pos
    cases d <;> cases cc <;> first | (simp [conOk] at h; done) | skip
    · exact ⟨.non, fun _ _ => rfl, pe_non, rfl, rfl, rfl⟩
    · simp only [conOk, beq_iff_eq] at h
      subst h
      exact ⟨.bl _, fun _ _ => rfl, pe_bl, rfl, rfl, rfl⟩
    · simp only [conOk, beq_iff_eq] at h
      subst h
      exact ⟨.int _, fun _ _ => rfl, pe_int, rfl, rfl, rfl⟩
    · simp only [conOk, Bool.and_eq_true, decide_eq_true_eq] at h
      obtain ⟨h1, h2⟩ := h
      subst h1
      exact ⟨.str _, fun _ _ => ⟨rfl, h2⟩, pe_str, rfl, rfl, rfl⟩
  · cases h
theorem pa_ks {X : Cx} : ∀ {ds : List TL.D} {es : List Expr}, ksts ds es = true → ∃ vs, (∀ ω H, Reps X.kw ω H ds vs) ∧ PA X es (fun _ H Q => Q vs H) ∧ ds.length = es.length
  | [], es, h => by
    have e : es = [] := by cases es <;> first | rfl | simp [ksts] at h
    subst e
    exact ⟨[], fun _ _ => rfl, pa_imp pa_nil fun _ _ _ q => q, rfl⟩
  | d :: ds, es, h => by
    unfold ksts at h
    split at h
    · rename_i e es
      rw [Bool.and_eq_true] at h
      obtain ⟨v, r, p, _, ns, _⟩ := pe_k (X := X) h.1
      obtain ⟨vs, rs, ps, ln⟩ := pa_ks (X := X) h.2
      exact ⟨v :: vs, fun ω H => ⟨v, vs, rfl, r ω H, rs ω H⟩, pa_imp (pa_cons p ps (star_of ns es X.env)) fun _ _ _ q => q, by rw [List.length_cons, List.length_cons, ln]⟩
    · cases h
/-- what a suite's value asks -/
def tK (K : KW) (dp : Nat) (d : TL.D) : TE := fun _ H Q => ∃ ω st, StoOk K ω st H ∧ ∀ v H', Ext (dp + 1) ω H ω H' → StoOk K ω st H' → Rep K ω H' d v → Q v H'
theorem pe_kE {X : Cx} {d : TL.D} {e : Expr} (h : kE d e = true) : PE X e (tK X.kw dp d) ∧ notComp e = true := by
  unfold kE at h
  split at h
  · split at h
    · rw [Bool.and_eq_true, decide_eq_true_eq] at h
      obtain ⟨vs, rs, ps, ln⟩ := pa_ks (X := X) h.1
      refine ⟨pe_imp (pe_tup ps) ?_, rfl⟩
      rintro σ H Q ⟨ω, st, hs, hp⟩
      refine ⟨by rw [(rs ω H).length, ln]; exact le_line h.2, fun p hp' => ?_⟩
      exact hp _ _ (.ofGrow hs (same_new hp' _)) (hs.grow (same_new hp' _)) (rep_new_tup hp' (rs ω H) (by rw [ln]; exact le_line h.2))
    · cases h
  · obtain ⟨v, r, p, _, _, nc⟩ := pe_k (X := X) h
    refine ⟨pe_imp p ?_, nc⟩
    rintro σ H Q ⟨ω, st, hs, hp⟩
    exact hp v H .refl hs (r ω H)
theorem kst_own {d : TL.D} {e : Expr} (h : kE d e = true) : d.own = false := by
  unfold kE at h
  split at h
  · split at h
    · rfl
    · cases h
  · unfold kst at h
    split at h
    · cases d <;> first | rfl | (simp [conOk] at h)
    · cases h
theorem try_post {cs ncs : List Nat} {ret : Bool} {i : Nat} {d : TL.D} {r : Fl} {W' : WX} (hp : PostS K dp W cls ω H (Fl.catch cs ncs ret i d r) D)
    (h1 : ∀ c ∈ cs, ∀ σ' H', (∃ ω' ρ' st', Ext dp ω H ω' H' ∧ Loc K ω' dp ρ' σ' H' ∧ StoOk K ω' st' H' ∧ PostS K dp W cls ω' H' (if ret then .rt d st' else .nx (ρ'.set i (some d)) st') D) → W' (cls c) none σ' H')
    (h2 : ∀ c ∈ ncs, ∀ σ' H', W (cls c) none σ' H' → W' (cls c) none σ' H') : PostS K dp W' cls ω H r D := by
  cases r with
  | nx ρ' st' => exact hp
  | rt d' st' => exact hp
  | fail => exact hp
  | ex c ρ' st' =>
    intro ω' σ' H' x l s
    unfold Fl.catch at hp
    dsimp only at hp
    by_cases q : c ∈ cs
    · rw [if_pos q] at hp
      exact h1 c q σ' H' ⟨ω', ρ', st', x, l, s, hp.at x⟩
    · rw [if_neg q] at hp
      by_cases q2 : c ∈ ncs
      · rw [if_pos q2] at hp
        exact h2 c q2 σ' H' (hp ω' σ' H' x l s)
      · rw [if_neg q2] at hp
        exact hp.elim
theorem CokS.tr {pn : List (Addr × Obj)} {xe : Value → Shared → Prop} {W' : WX} (c : CokS X G k C cls N sc W) (tk : Takes (X.tr pn xe) W') (po : PassesOwn (model X.prog X.w) X.A X.env xe) : CokS (X.tr pn xe) G k C cls N sc W' where
  hN := c.hN
  nd := c.nd
  hsc := c.hsc
  calm := c.calm
  room := c.room
  tk := tk
  fns := c.fns
  cst := c.cst
  blt := c.blt
  room1 := c.room1
  clss := c.clss
  fn := c.fn
  po := po
  stk := c.stk
  frm := c.frm
  exc := c.exc
  exm := c.exm
theorem snd_try {body : List S} {j : Nat} {cs ncs : List Nat} {ret : Bool} {i : Nat} {d : TL.D} (hb : SndSs N G k C cls dp body) : SndS N G k C cls dp (.tryS body j cs ncs ret i d) := by
  intro X sc W st c h
  unfold chkS at h
  split at h
  · rename_i bx x np b₀ suite hpos pos
    simp only [Bool.and_eq_true, decide_eq_true_eq, List.all_eq_true] at h
    obtain ⟨⟨⟨⟨⟨⟨h1, h2⟩, h3⟩, h4⟩, h5⟩, h6⟩, h7⟩ := h
    obtain ⟨Ca, B, newId, initId, bmB, ec, hmg, F, q, kp, sb, ty⟩ := c.exc j x h1
    have nm : Names X x (cls j) := ⟨glb_of c.hsc h2, (nameOk_of h3).d, .inl (by rw [ec]; exact hmg)⟩
    unfold sui at h7
    split at h7
    · rename_i e pos2 he
      cases he
      rw [Bool.and_eq_true] at h7
      obtain ⟨rfl, h8⟩ := h7
      refine ps_imp (ps_try_only (tb := fun W' => tS X.kw dp W' cls fun ρ s => execs C body ρ s) (ts := fun _ _ _ => tRet (tK X.kw dp d)) (Wout := W) c.stk c.frm nm c.tk (fun W' pn xe tk po => hb (X.tr pn xe) sc W' bx (c.tr tk po) h6) (fun a oe cls' d0 pn _ _ => pss_one (ps_ret (pe_kE h8).1))) ?_
      rintro D σ H ⟨ω, ρ, st, hl, hs, hp⟩
      unfold exec at hp
      refine ⟨ω, ρ, st, hl, hs, try_post hp (fun c' hc' σ' H' z => ⟨true, c.exm _ _ _ (h4 _ hc'), fun _ a ha => ?_, fun z => nomatch z⟩) (fun c' hc' σ' H' z => ⟨false, c.exm _ _ _ (h5 _ hc'), fun z => (nomatch z), fun _ => z⟩)⟩
      obtain ⟨ω', ρ', st', x1, l1, s1, hq⟩ := z
      exact ⟨ω', st', s1, fun v H2 x2 s2 r2 => hq ω' v H2 (x2.mono (Nat.le_succ _)) s2 r2⟩
    · rename_i y p e pos2 he
      cases he
      simp only [Bool.and_eq_true, decide_eq_true_eq, Bool.not_eq_true'] at h7
      obtain ⟨⟨⟨rfl, h8⟩, h9⟩, h10⟩ := h7
      obtain ⟨q1, q2⟩ := lcl_of (X := X) c.hsc (fun _ => c.fn) h9
      have hN : X.N.Nodup := by rw [c.hN]; exact c.nd
      have hi : X.N[i]? = some y := by rw [c.hN]; exact h8
      refine ps_imp (ps_try_only (tb := fun W' => tS X.kw dp W' cls fun ρ s => execs C body ρ s) (ts := fun _ _ _ => tAsg (tK X.kw dp d) (gName i)) (Wout := W) c.stk c.frm nm c.tk (fun W' pn xe tk po => hb (X.tr pn xe) sc W' bx (c.tr tk po) h6)
        (fun a oe cls' d0 pn _ _ => pss_one (ps_set (i := i) hN hi q1 (pe_kE h10).1 (swap_ok (pe_kE (X := X) (dp := dp) h10).2 _ _ _) q2))) ?_
      rintro D σ H ⟨ω, ρ, st, hl, hs, hp⟩
      unfold exec at hp
      refine ⟨ω, ρ, st, hl, hs, try_post hp (fun c' hc' σ' H' z => ⟨true, c.exm _ _ _ (h4 _ hc'), fun _ a ha => ?_, fun z => nomatch z⟩) (fun c' hc' σ' H' z => ⟨false, c.exm _ _ _ (h5 _ hc'), fun z => (nomatch z), fun _ => z⟩)⟩
      obtain ⟨ω', ρ', st', x1, l1, s1, hq⟩ := z
      exact ⟨ω', st', s1, fun v H2 x2 s2 r2 => hq ω' (σ'.set i (some v)) H2 (x2.mono (Nat.le_succ _)) ((l1.ext x2).set (OwnR.of r2)) s2⟩
    · cases h7
  · cases h
end
end TL

namespace TL
open PySem L2 PyProof.Rows
section
variable {X : Cx} {N : List Str} {G : GT} {k : Nat} {C : Cal} {cls : Nat → Value} {dp : Nat} {sc : Scope} {W : WX} {e : Expr} {es : List Expr} {m n l a b : E} {ms : List E}
variable {K : KW} {ω ω' ω'' : Wd} {H H' H'' : Hp} {D : Ends} {ρ : Env} {σ : L2.St} {st : Sto}
theorem snd_ss_nil : SndSs N G k C cls dp [] := by
  intro X sc W sts c h
  unfold chkSs at h
  have e := List.isEmpty_iff.mp h
  subst e
  refine pss_imp pss_nil ?_
  rintro D σ H ⟨ω, ρ, st, hl, hs, hp⟩
  unfold execs at hp
  exact hp ω σ H .refl hl hs
theorem snd_ss_freeze {i : Nat} {ss : List S} (h2 : SndSs N G k C cls dp ss) : SndSs N G k C cls dp (.freeze i :: ss) := by
  intro X sc W sts c h
  unfold chkSs at h
  have P := h2 X sc W sts c h
  refine ⟨fun pins s σ H D I q => ?_⟩
  obtain ⟨ω, ρ, st, hl, hs, hp⟩ := q
  refine P.run pins s σ H D I ?_
  unfold execs exec at hp
  dsimp only at hp
  split at hp
  · rename_i ds hd
    obtain ⟨v, e1, ad, vs, rfl, h2, w2, r2⟩ := hl.at_ i _ hd
    have ln : ds.length ≤ sizeLine := by
      rw [← r2.length]
      obtain ⟨z, _⟩ := I.hok ad _ h2
      exact z
    have xf : Ext dp ω H (ω.free ad) H := .freeOwn w2
    exact ⟨ω.free ad, _, st, hl.freeze hs e1 h2 w2 r2 ln, hs.free w2, PostS.at (show PostS X.kw dp W cls ω H (execs C ss (ρ.set i (some (.lst ds))) st) D from hp) xf⟩
  · exact hp.elim
theorem snd_no {s : S} (h : ∀ sc st, chkS N G s sc st = false) : SndS N G k C cls dp s := by
  intro X sc W st c h'
  rw [h] at h'
  cases h'
mutual
theorem sndS : ∀ s : S, SndS N G k C cls dp s
  | .set i m => snd_set
  | .own i ms => snd_own
  | .ownd i m => snd_ownd
  | .unpack is m => snd_unpack
  | .app i m => snd_app
  | .ext i m => snd_ext
  | .put i m => snd_put
  | .freeze i => snd_no fun _ _ => by unfold chkS; rfl
  | .expr m => snd_expr
  | .ifs m a b => snd_ifs (sndSs a) (sndSs b)
  | .for tg ik ie body => snd_for (sndSs body)
  | .while m body => snd_while (sndSs body)
  | .ret m => snd_ret
  | .retN => snd_retN
  | .raise c => snd_raise
  | .tryS body j cs ncs ret i d => snd_try (sndSs body)
  | .unpackL is m => snd_unpackL
  | .setF c m f v => snd_setF
theorem sndSs : ∀ ss : List S, SndSs N G k C cls dp ss
  | [] => snd_ss_nil
  | .freeze i :: ss => snd_ss_freeze (sndSs ss)
  | s :: ss => by
    by_cases h : ∃ i, s = .freeze i
    · obtain ⟨i, rfl⟩ := h
      exact snd_ss_freeze (sndSs ss)
    · exact snd_ss_cons (sndS s) (sndSs ss) fun i e => h ⟨i, e⟩
end
end

/-- a def: its name, its text, its names, its code -/
structure Tx where
  name : Str
  qual : Str
  names : List Str
  stmt : Stmt
  code : Fn
/-- a def, checked against its text -/
def chkFn (G : GT) (t : Tx) : Bool :=
  decide (t.code.ns = t.names.length) && chkSs t.names G t.code.body (defScope t.stmt) (defBody t.stmt) &&
  (match (defScope t.stmt).kind with | .function => true | _ => false) && !(defScope t.stmt).isCoroutine && !(defScope t.stmt).isGenerator && decide t.names.Nodup && decide (t.code.np ≤ t.names.length) &&
  ((t.names.take t.code.np).all fun x => match (defScope t.stmt).names.lookup x with | some .local | some .cell => true | _ => false) && ((defScope t.stmt).names.all fun y => match y.2 with | .free => false | _ => true)
theorem scope_of {G : GT} {t : Tx} (h : chkFn G t = true) : FnScope t.names (t.names.take t.code.np) (defScope t.stmt) ∧ t.code.ns = t.names.length ∧ t.code.np ≤ t.names.length ∧ chkSs t.names G t.code.body (defScope t.stmt) (defBody t.stmt) = true := by
  unfold chkFn at h
  simp only [Bool.and_eq_true, decide_eq_true_eq, Bool.not_eq_true'] at h
  obtain ⟨⟨⟨⟨⟨⟨⟨⟨h1, h2⟩, h3⟩, h4⟩, h5⟩, h6⟩, h7⟩, h8⟩, h9⟩ := h
  refine ⟨⟨?_, h4, h5, h6, ?_, fun x hx => ?_, fun y hy z => ?_⟩, h1, h7, h2⟩
  · revert h3
    cases (defScope t.stmt).kind <;> first | (intro _; rfl) | (intro h; cases h)
  · rw [List.length_take, Nat.min_eq_left h7]
  · have q := List.all_eq_true.mp h8 x hx
    revert q
    cases (defScope t.stmt).names.lookup x with
    | none => intro q; cases q
    | some k => cases k <;> first | (intro _; exact .inl rfl) | (intro _; exact .inr rfl) | (intro q; cases q)
  · have q := List.all_eq_true.mp h9 y hy
    rw [z] at q
    cases q
/-- the name by which all know a def; a method has none -/
def Tx.gname (t : Tx) : Str := if t.qual = t.name then t.name else ""
structure ProgOk (K : PySem.W.Frag) (mg : Str → Option Value) (G : GT) (T : List Tx) (cls : Nat → Value) : Prop where
  fns : G.fns = T.map (·.gname)
  chk : ∀ t ∈ T, chkFn G t = true
  at_ : ∀ t ∈ T, t.qual = t.name → ∃ f fd, Fun K t.name t.qual t.stmt f fd ∧ mg t.name = some (.ref f) ∧ Binds K fd (t.names.take t.code.np) []
  cst : ∀ (x : Str) (d : TL.D), G.consts.lookup x = some d → ∃ u v, mg x = some u ∧ RelV v u ∧ ∀ (w : World) ω H, Rep ⟨K, w⟩ ω H d v
  blt : ∀ x ∈ G.blt, mg x = none
  exc : ExcF K mg cls G
  exm : ExmF K cls G
  clss : ∀ ct ∈ G.cls, ∃ Ca, mg ct.name = some (.ref Ca) ∧ PySem.W.nsIn K mainGlobals ct.name = some (some (.ref Ca)) ∧ Cls K Ca ∧ (∀ f ∈ ct.flds, NoAttr K Ca f) ∧
    (∀ m i, (m, i) ∈ ct.meths → ∃ (g : Addr) (fd : FuncData) (t : Tx), T[i]? = some t ∧ Meth K Ca m g ∧ Fun K t.name t.qual t.stmt g fd ∧ Binds K fd (t.names.take t.code.np) []) ∧
    ∃ (g : Addr) (fd : FuncData) (t : Tx), T[ct.init]? = some t ∧ Mk K Ca g ∧ Fun K t.name t.qual t.stmt g fd ∧ Binds K fd (t.names.take t.code.np) []
theorem enter_loc {K : KW} {ω : Wd} {H : Hp} {dp : Nat} {F : Fn} {N : List Str} {ds : List TL.D} {vs : List V} (r : Reps K ω H ds vs) (h : F.ns = N.length) : Loc K ω dp (enter F ds) (L2.start N vs) H where
  len := by
    unfold enter L2.start
    rw [List.length_append, List.length_append, List.length_map, List.length_map, List.length_replicate, List.length_replicate, r.length, h]
  at_ := fun i d e => by
    unfold enter at e
    unfold L2.start
    by_cases hi : i < ds.length
    · rw [List.getElem?_append_left (by rw [List.length_map]; exact hi), List.getElem?_map] at e
      cases q : ds[i]? with
      | none => rw [q] at e; cases e
      | some d' =>
        rw [q] at e
        cases e
        obtain ⟨v, e', rv⟩ := r.get q
        refine ⟨v, ?_, OwnR.of rv⟩
        rw [List.getElem?_append_left (by rw [List.length_map, r.length]; exact hi), List.getElem?_map, e']
        rfl
    · rw [List.getElem?_append_right (by rw [List.length_map]; omega), List.getElem?_replicate] at e
      split at e <;> cases e
/-- THE THEOREM: each def of a program that is checked does what its code does -/
theorem prog_ok {P : Program} {w : World} {K : PySem.W.Frag} {mg : Str → Option Value} {base : Heap} {G : GT} {T : List Tx} {cls : Nat → Value} (O : ProgOk K mg G T cls) :
    ∀ (n i : Nat) (t : Tx) (f : Addr) (fd : FuncData), T[i]? = some t → Fun K t.name t.qual t.stmt f fd → FnOk P w K mg base (L2.CX P w) (2 * n) f fd (t.names.take t.code.np) (spC ⟨K, w⟩ (run (T.map (·.code)) n) cls i)
  | 0, i, t, f, fd, ht, F => by
    have no : ∀ vs H Q E, ¬ spC ⟨K, w⟩ (run (T.map (·.code)) 0) cls i vs H Q E := fun vs H Q E ⟨ω, st, ds, dp, hs, r, h⟩ => h
    exact ⟨fun vs H Q E h => absurd h (no vs H Q E), fun A outer s H args us vs Q E _ _ _ _ h => absurd h (no vs H Q E)⟩
  | n + 1, i, t, f, fd, ht, F => by
    obtain ⟨S, hns, hnp, hck⟩ := scope_of (O.chk t (List.mem_of_getElem? ht))
    have hcode : (T.map (·.code))[i]? = some t.code := by rw [List.getElem?_map, ht]; rfl
    have ln : ∀ {ds : List TL.D} {st : Sto}, run (T.map (·.code)) (n + 1) i ds st ≠ .fail → ds.length = t.code.np ∧ run (T.map (·.code)) (n + 1) i ds st = finish (execs (run (T.map (·.code)) n) t.code.body (enter t.code ds) st) := by
      intro ds st h
      unfold run at h ⊢
      rw [hcode] at h ⊢
      dsimp only at h ⊢
      by_cases e : ds.length = t.code.np
      · rw [if_pos e]
        exact ⟨e, rfl⟩
      · rw [if_neg e] at h
        exact absurd rfl h
    refine F.okX S (fun vs H Q E h => ?_) (fun cdv A outer s H vs Q E hr h => ?_)
    · obtain ⟨ω, st, ds, dp, hs, r, h⟩ := h
      have q : run (T.map (·.code)) (n + 1) i ds st ≠ .fail := fun z => by rw [z] at h; exact h
      rw [r.length, (ln q).1, List.length_take, Nat.min_eq_left hnp]
    · obtain ⟨ω, st, ds, dp, hs, r, h⟩ := h
      have q : run (T.map (·.code)) (n + 1) i ds st ≠ .fail := fun z => by rw [z] at h; exact h
      rw [(ln q).2] at h
      have c : CokS (cxOf (L2.CX P w) P w K mg base t.names t.qual (defScope t.stmt) f cdv A outer s H E) G (2 * n) (run (T.map (·.code)) n) cls t.names (defScope t.stmt) (fun cc d _ H' => E cc d H') := {
        hN := rfl
        nd := S.nd
        hsc := rfl
        calm := rfl
        room := (show Room (2 * n + 1) _ from hr).mono (by omega)
        room1 := hr
        tk := takes_of rfl rfl rfl rfl
        fns := fun j x hj hx => by
          rw [O.fns, List.getElem?_map] at hj
          cases ht' : T[j]? with
          | none => rw [ht'] at hj; cases hj
          | some t' =>
            rw [ht'] at hj
            cases hj
            have hq : t'.qual = t'.name := by
              have hx : t'.gname ≠ "" := hx
              unfold Tx.gname at hx
              split at hx
              · assumption
              · exact (hx rfl).elim
            have hg : t'.gname = t'.name := by unfold Tx.gname; rw [if_pos hq]
            obtain ⟨f', fd', F', hm, hb⟩ := O.at_ t' (List.mem_of_getElem? ht') hq
            rw [← hg] at hm
            exact ⟨f', fd', _, prog_ok O n j t' f' fd' ht' F', hm, F'.kp, hb⟩
        cst := fun x d h => let ⟨u, v, a, b, q⟩ := O.cst x d h; ⟨u, v, a, b, q w⟩
        blt := O.blt
        clss := fun ct hct => by
          obtain ⟨Ca, h1, h2, h3, h4, h5, g, fd0, t0, i1, i2, i3, i4⟩ := O.clss ct hct
          refine ⟨Ca, h1, h2, h3, h4, fun m j hj => ?_, g, fd0, _, i2, prog_ok O n _ t0 g fd0 i1 i3, i4⟩
          obtain ⟨g1, fd1, t1, j1, j2, j3, j4⟩ := h5 m j hj
          exact ⟨g1, fd1, _, j2, prog_ok O n j t1 g1 fd1 j1 j3, j4⟩
        fn := fun _ => rfl
        po := passes_of rfl
        stk := rfl
        frm := rfl
        exc := O.exc
        exm := O.exm }
      refine ⟨_, sndSs (dp := dp) t.code.body _ _ _ _ c hck, ω, enter t.code ds, st, enter_loc r hns, hs, ?_⟩
      show PostS ⟨K, w⟩ dp _ cls ω H (execs (run (T.map (·.code)) n) t.code.body (enter t.code ds) st) _
      revert h
      cases execs (run (T.map (·.code)) n) t.code.body (enter t.code ds) st with
      | nx ρ' st' => exact fun h ω' σ' H' x _ s' => h ω' .non H' x s' rfl
      | rt d st' => exact fun h ω' v H' x s' r' => h ω' v H' x s' r'
      | ex cc ρ' st' => exact fun h ω' σ' H' x _ s' => h ω' H' x s'
      | fail => exact fun h => h
/-- the law's call -/
theorem law_sp {K : KW} {H : Hp} {C : Cal} {cls : Nat → Value} {i : Nat} {a : Addr} {ns : List Int} {st' : Sto} {E : XK} (hS : SqL K H a (ns.map V.int)) (hl : ns.length ≤ 63) (h : C i [.fls (ns.map .int)] [] = .ok (.bl true) st') :
    spC K C cls i [.ref a] H (fun v _ => v = .bl true) E := by
  have ri : ∀ ns : List Int, Reps K ⟨[], fun _ => none⟩ H (ns.map TL.D.int) (ns.map V.int) := by
    intro ns
    induction ns with
    | nil => rfl
    | cons n ns ih => exact ⟨_, _, rfl, rfl, ih⟩
  refine ⟨⟨[], fun _ => none⟩, [], [.fls (ns.map .int)], 0, ⟨rfl, fun _ h => absurd rfl h, fun l d e => by simp at e⟩, ⟨_, _, rfl, ⟨by rw [List.length_map]; exact Nat.le_trans hl (by decide), a, _, rfl, ?_, ri ns⟩, rfl⟩, ?_⟩
  · rcases hS with (h | ⟨o, h⟩) | h
    · exact .inl ⟨h, rfl⟩
    · exact .inr (.inl ⟨o, h⟩)
    · exact .inr (.inr h)
  · rw [h]
    exact fun ω' v H' x s r => r
/-- the end: the law's call, walked -/
theorem walk {l : PySem.W.OpenLaw} {q : Program} {loose : List Str} {XP : (Str → Option Value) → Heap → Prop} {YP : World → Heap → Prop} {d : DefRec} {K : Params → PySem.W.Frag} {G : GT} {T : List Tx} {t : Tx} {i n : Nat} {x : Str} (hn : l.most = some 63) (hdf : d.params.defaults = [])
    (hr : Room (2 * n) callerA) (hY : ∀ (w : World) (h : Heap), YP w h → (K w.params).In h) (ht : T[i]? = some t) (hx : t.names.take t.code.np = [x]) (hname : t.name = d.name) (hqual : t.qual = t.name)
    (F : ∀ (w : World) (mg : Str → Option Value) (h : Heap), (K w.params).In h → h.Ns mainGlobals mg → ∃ cls, ProgOk (K w.params) mg G T cls)
    (hb : ∀ (w : World) (fa : Addr) (fd : FuncData), Fun (K w.params) t.name t.qual t.stmt fa fd → ∀ (s : Shared) (u : Value), BindsTo s fd ⟨[u], []⟩ [(x, u)])
    (law : ∀ ns : List Int, ns.length ≤ 63 → ∃ st', run (T.map (·.code)) n i [.fls (ns.map .int)] [] = .ok (.bl true) st') :
    PySem.W.WalkO q loose XP YP l.row.toRowW d [] (fun f vs => PySem.call f vs) :=
  L2.walk_of (n := 63) (k := 2 * n) (x := x) (CX := fun w => L2.CX l.prog w) (sp := fun w vs H Q E => ∀ cls, spC ⟨K w.params, w⟩ (run (T.map (·.code)) n) cls i vs H Q E) hn (by decide) hdf hr hY
    (fun w mg fa h KX g hfa => by
      obtain ⟨cls, O⟩ := F w mg h KX g
      obtain ⟨f, fd, Fu, hm, _⟩ := O.at_ t (List.mem_of_getElem? ht) hqual
      rw [hname, hfa] at hm
      cases hm
      refine ⟨fd, hb w fa fd Fu, fun base KB gB => ?_⟩
      have z := prog_ok (P := l.prog) (w := w) (base := base) (cls := cls) O n i t fa fd ht Fu
      rw [hx] at z
      exact ⟨fun vs H Q E h => z.len vs H Q E (h cls), fun A outer s H args us vs Q E a b c d h => z.run A outer s H args us vs Q E a b c d (h cls)⟩)
    (fun w H a ns hl _ hS => let ⟨st', h⟩ := law ns hl; fun cls => law_sp hS hl h) fun w H s e s' h => by
      obtain ⟨_, _, _, _, _, _, _, _, _, _, _, _, z⟩ := h
      exact z.elim
end TL
namespace TL
open PySem
/-- what an except names -/
theorem exm_any {K : PySem.W.Frag} {S R : Addr} {b : Bool} (h1 : PySem.W.subIn K (.ref S) (.type "BaseException") = some true) (h2 : PySem.W.isClsIn K S = true) (h3 : PySem.W.typeIn K (.ref S) = some (.type "type")) (h4 : PySem.W.subIn K (.ref R) (.ref S) = some b) :
    PySem.W.exmOne K (.ref R) (.ref S) = some b := by
  have e1 : (PySem.W.subIn K (.ref S) (.type "BaseException") == some true) = true := by rw [h1] <;> rfl
  have e2 : ((PySem.W.clsIn K S).isSome && PySem.W.typeIn K (.ref S) == some (.type "type")) = true := by
    have h2' : (PySem.W.clsIn K S).isSome = true := h2
    rw [h2', h3] <;> rfl
  show (if (PySem.W.subIn K (.ref S) (.type "BaseException") == some true) = true then (if ((PySem.W.clsIn K S).isSome && PySem.W.typeIn K (.ref S) == some (.type "type")) = true then PySem.W.subIn K (.ref R) (.ref S) else none) else none) = some b
  rw [if_pos e1, if_pos e2]
  exact h4
end TL

namespace TP
open PySem L2 TL
def top (i : Nat) : Stmt := PySem.Challenge.pw_taletask_k03_whole_texts_of_parts.main.body.getD i (.Pass ⟨0, 0, 0, 0⟩)
def c_is_name : Fn := ⟨1, 2, [.ret (.and [.o1 .isStr (.var 0), .chain .le .le (.con (.int 1)) (.o1 .len (.var 0)) (.con (.int 5)), .o1 .all (.lc (.o2 .isIn (.var 1) (.con (.str "abcdefghijklmnopqrstuvwxyz"))) (.nm 1) .str [.var 0] [] [1])])]⟩
def c_is_whole : Fn := ⟨3, 3, [.ret (.and [.o1 .isInt (.var 0), .not (.o1 .isBool (.var 0)), .chain .le .le (.var 1) (.var 0) (.var 2)])]⟩
def c_is_task_to : Fn := ⟨2, 4, [.ifs (.or [.o2 .eq (.var 1) (.con (.int 0)), .not (.o1 .isTuple (.var 0)), .o2 .lt (.o1 .len (.var 0)) (.con (.int 2)), .not (.o1 .isStr (.o2 .ix (.var 0) (.con (.int 0))))]) [.ret (.con (.bl false))] [], .ifs (.o2 .isIn (.o2 .ix (.var 0) (.con (.int 0))) (.con (.tup [.str "all", .str "any", .str "then"]))) [.set 2 (.o2 .add (.con (.int 1)) (.o1 .int (.o2 .eq (.o2 .ix (.var 0) (.con (.int 0))) (.con (.str "then"))))), .ifs (.or [.o2 .ne (.o1 .len (.var 0)) (.con (.int 2)), .not (.o1 .isTuple (.o2 .ix (.var 0) (.con (.int 1)))), .not (.chain .le .le (.var 2) (.o1 .len (.o2 .ix (.var 0) (.con (.int 1)))) (.con (.int 3)))]) [.ret (.con (.bl false))] [], .ret (.o1 .all (.lc (.call 2 [.var 3, .o2 .sub (.var 1) (.con (.int 1))]) (.nm 3) .tup [.o2 .ix (.var 0) (.con (.int 1))] [] [3]))] [], .ifs (.o2 .ne (.o1 .len (.var 0)) (.con (.int 3))) [.ret (.con (.bl false))] [], .ifs (.o2 .eq (.o2 .ix (.var 0) (.con (.int 0))) (.con (.str "do"))) [.ret (.and [.call 0 [.o2 .ix (.var 0) (.con (.int 1))], .call 1 [.o2 .ix (.var 0) (.con (.int 2)), .con (.int 1), .con (.int 4)]])] [], .ifs (.o2 .eq (.o2 .ix (.var 0) (.con (.int 0))) (.con (.str "without"))) [.ret (.and [.call 0 [.o2 .ix (.var 0) (.con (.int 1))], .call 2 [.o2 .ix (.var 0) (.con (.int 2)), .o2 .sub (.var 1) (.con (.int 1))]])] [], .ret (.and [.o2 .eq (.o2 .ix (.var 0) (.con (.int 0))) (.con (.str "within")), .call 1 [.o2 .ix (.var 0) (.con (.int 1)), .con (.int 1), .con (.int 9)], .call 2 [.o2 .ix (.var 0) (.con (.int 2)), .o2 .sub (.var 1) (.con (.int 1))]])]⟩
def c_is_task : Fn := ⟨1, 1, [.ret (.call 2 [.var 0, .con (.int 4)])]⟩
def c_tasks_in : Fn := ⟨1, 1, [.ifs (.o2 .isIn (.o2 .ix (.var 0) (.con (.int 0))) (.con (.tup [.str "all", .str "any", .str "then"]))) [.ret (.o2 .ix (.var 0) (.con (.int 1)))] [], .ifs (.o2 .eq (.o2 .ix (.var 0) (.con (.int 0))) (.con (.str "do"))) [.ret (.tup [])] [], .ret (.sl (.var 0) [.con (.int 2)] [])]⟩
def c_size : Fn := ⟨1, 2, [.ret (.o2 .add (.con (.int 1)) (.o1 .sum (.lc (.call 5 [.var 1]) (.nm 1) .tup [.call 4 [.var 0]] [] [1])))]⟩
def c_task_words : Fn := ⟨1, 3, [.ifs (.o2 .eq (.o2 .ix (.var 0) (.con (.int 0))) (.con (.str "do"))) [.ret (.lst [.o2 .ix (.var 0) (.con (.int 0)), .o2 .ix (.var 0) (.con (.int 1)), .o1 .str (.o2 .ix (.var 0) (.con (.int 2)))])] [], .own 1 [], .for (.nm 2) .tup [.call 4 [.var 0]] [.ext 1 (.call 6 [.var 2])], .freeze 1, .ifs (.o2 .isIn (.o2 .ix (.var 0) (.con (.int 0))) (.con (.tup [.str "all", .str "any", .str "then"]))) [.ret (.o2 .add (.o2 .add (.lst [.o2 .ix (.var 0) (.con (.int 0)), .con (.str "(")]) (.var 1)) (.lst [.con (.str ")")]))] [], .ret (.o2 .add (.lst [.o2 .ix (.var 0) (.con (.int 0)), .o1 .str (.o2 .ix (.var 0) (.con (.int 1)))]) (.var 1))]⟩
def c_written : Fn := ⟨1, 1, [.ret (.sm .join (.con (.str " ")) (.call 6 [.var 0]))]⟩
def c_need : Fn := ⟨1, 1, [.ifs (.not (.var 0)) [.raise 1] []]⟩
def c_read : Fn := ⟨1, 3, [.expr (.call 8 [.o1 .isStr (.var 0)]), .set 1 (.make 16 "Reader" [.sm .split (.var 0) (.con (.str " "))]), .set 2 (.meth 20 "Reader" "task" (.var 1) [.con (.int 6)]), .expr (.call 8 [.and [.o2 .eq (.fld "Reader" (.var 1) "at") (.o1 .len (.fld "Reader" (.var 1) "words")), .call 3 [.var 2], .o2 .eq (.call 7 [.var 2]) (.var 0)]]), .ret (.var 2)]⟩
def c__law_cell_at : Fn := ⟨2, 2, [.ifs (.o2 .lt (.var 1) (.o1 .len (.var 0))) [.ret (.o2 .ix (.var 0) (.var 1))] [], .ret (.con (.int 0))]⟩
def c__law_mixed : Fn := ⟨2, 3, [.set 2 (.o2 .mod (.o2 .mul (.o2 .add (.o2 .add (.call 10 [.var 0, .var 1]) (.o2 .mul (.con (.int 7919)) (.var 1))) (.con (.int 1))) (.con (.int 48271))) (.con (.int 2147483647))), .ret (.o2 .mod (.o2 .add (.o2 .add (.o2 .mul (.var 2) (.var 2)) (.o2 .mul (.con (.int 7)) (.var 2))) (.var 1)) (.con (.int 2147483629)))]⟩
def c__law_drawn : Fn := ⟨2, 3, [.set 2 (.o2 .mod (.o2 .mul (.o2 .add (.o2 .add (.var 0) (.o2 .mul (.con (.int 104729)) (.var 1))) (.con (.int 17))) (.con (.int 69621))) (.con (.int 2147483647))), .ret (.o2 .mod (.o2 .add (.o2 .add (.o2 .mul (.var 2) (.var 2)) (.o2 .mul (.con (.int 3)) (.var 2))) (.var 1)) (.con (.int 2147483629)))]⟩
def c__law_task : Fn := ⟨3, 8, [.set 3 (.o2 .ix (.con (.str "abc")) (.o2 .mod (.o2 .div (.var 0) (.con (.int 8))) (.con (.int 3)))), .set 4 (.o2 .mod (.var 0) (.con (.int 8))), .ifs (.or [.o2 .eq (.var 1) (.con (.int 1)), .o2 .lt (.var 4) (.con (.int 2))]) [.ret (.tup [.con (.str "do"), .var 3, .o2 .add (.con (.int 1)) (.o2 .mod (.o2 .div (.var 0) (.con (.int 64))) (.var 2))])] [], .ifs (.o2 .eq (.var 4) (.con (.int 6))) [.ret (.tup [.con (.str "without"), .var 3, .call 13 [.o2 .div (.call 12 [.var 0, .con (.int 1)]) (.con (.int 4)), .o2 .sub (.var 1) (.con (.int 1)), .var 2]])] [], .ifs (.o2 .eq (.var 4) (.con (.int 7))) [.set 5 (.o2 .add (.con (.int 1)) (.o2 .mod (.o2 .div (.var 0) (.con (.int 64))) (.o2 .ix (.tup [.con (.int 9), .con (.int 4)]) (.o2 .mod (.o2 .div (.var 0) (.con (.int 1024))) (.con (.int 2)))))), .ret (.tup [.con (.str "within"), .var 5, .call 13 [.o2 .div (.call 12 [.var 0, .con (.int 2)]) (.con (.int 4)), .o2 .sub (.var 1) (.con (.int 1)), .var 2]])] [], .set 5 (.o2 .add (.con (.int 1)) (.o2 .mod (.o2 .div (.var 0) (.con (.int 64))) (.con (.int 3)))), .set 6 (.o2 .ix (.tup [.con (.str "all"), .con (.str "any"), .con (.str "then"), .con (.str "all")]) (.o2 .sub (.var 4) (.con (.int 2)))), .ifs (.o2 .eq (.var 6) (.con (.str "then"))) [.set 5 (.o2 .max (.con (.int 2)) (.var 5))] [], .ret (.tup [.var 6, .o1 .tuple (.lc (.call 13 [.o2 .div (.call 12 [.var 0, .o2 .add (.con (.int 3)) (.var 7)]) (.con (.int 4)), .o2 .sub (.var 1) (.con (.int 1)), .var 2]) (.nm 7) .rng [.var 5] [] [7])])]⟩
def c__law_none : Fn := ⟨1, 1, [.tryS [.expr (.call 9 [.var 0])] 1 [1] [0] true 0 (.bl true), .ret (.con (.bl false))]⟩
def c_law : Fn := ⟨1, 14, [.unpack [8, 9] (.tup [.call 13 [.call 11 [.var 0, .con (.int 0)], .con (.int 3), .con (.int 4)], .call 13 [.call 11 [.var 0, .con (.int 1)], .con (.int 3), .con (.int 4)]]), .unpack [10, 11] (.tup [.call 7 [.var 8], .call 7 [.var 9]]), .for (.nm 1) .tup [.tup [.con (.str "all"), .con (.str "any"), .con (.str "then")]] [.set 12 (.o2 .add (.o2 .add (.o2 .add (.o2 .add (.o2 .add (.var 1) (.con (.str " ( "))) (.var 10)) (.con (.str " "))) (.var 11)) (.con (.str " )"))), .set 13 (.tup [.var 1, .tup [.var 8, .var 9]]), .ifs (.or [.o2 .ne (.call 7 [.var 13]) (.var 12), .o2 .ne (.call 9 [.var 12]) (.var 13), .o2 .ne (.call 5 [.var 13]) (.o2 .add (.o2 .add (.con (.int 1)) (.call 5 [.var 8])) (.call 5 [.var 9]))]) [.ret (.con (.bl false))] [], .ifs (.or [.not (.call 14 [.sl (.var 12) [] [.con (.int (-2))]]), .not (.call 14 [.o2 .add (.var 1) (.con (.str " ( )"))]), .not (.call 14 [.o2 .add (.var 12) (.con (.str " )"))])]) [.ret (.con (.bl false))] []], .for (.nm 2) .tup [.tup [.tup [.con (.str "without"), .con (.str "abc")], .tup [.con (.str "within"), .con (.int 9)]]] [.set 12 (.o2 .add (.o2 .add (.o2 .add (.o2 .add (.o2 .ix (.var 2) (.con (.int 0))) (.con (.str " "))) (.o1 .str (.o2 .ix (.var 2) (.con (.int 1))))) (.con (.str " "))) (.var 10)), .ifs (.or [.o2 .ne (.call 7 [.o2 .add (.var 2) (.tup [.var 8])]) (.var 12), .o2 .ne (.call 9 [.var 12]) (.o2 .add (.var 2) (.tup [.var 8])), .o2 .ne (.call 5 [.o2 .add (.var 2) (.tup [.var 8])]) (.o2 .add (.con (.int 1)) (.call 5 [.var 8]))]) [.ret (.con (.bl false))] []], .ifs (.or [.not (.call 14 [.o2 .add (.o2 .add (.var 10) (.con (.str " "))) (.var 11)]), .not (.call 14 [.o2 .add (.o2 .add (.con (.str "then ( ")) (.var 10)) (.con (.str " )"))])]) [.ret (.con (.bl false))] [], .ifs (.o2 .ne (.call 9 [.o2 .add (.o2 .add (.con (.str "all ( ")) (.var 10)) (.con (.str " )"))]) (.tup [.con (.str "all"), .tup [.var 8]])) [.ret (.con (.bl false))] [], .set 3 (.con (.str "do a 1")), .for (.nm 4) .rng [.con (.int 3)] [.set 3 (.o2 .add (.o2 .add (.con (.str "all ( ")) (.var 3)) (.con (.str " )")))], .ifs (.or [.o2 .ne (.o2 .ix (.call 9 [.var 3]) (.con (.int 0))) (.con (.str "all")), .not (.call 14 [.o2 .add (.o2 .add (.con (.str "any ( ")) (.var 3)) (.con (.str " )"))]), .not (.call 3 [.call 9 [.var 3]])]) [.ret (.con (.bl false))] [], .set 5 (.lst [.con (.str ""), .con (.str "do"), .con (.str "do a"), .con (.str "do a 0"), .con (.str "do a 5"), .con (.str "do a 01"), .con (.str "do A 1"), .con (.str "do abcdef 1"), .con (.str "do a 1 "), .con (.str " do a 1"), .con (.str "do  a 1")]), .set 5 (.o2 .add (.var 5) (.lst [.con (.str "within 0 do a 1"), .con (.str "within 10 do a 1"), .con (.str "without do a 1"), .con (.str "without a"), .con (.str "all do a 1"), .con (.str "all (do a 1)")])), .set 5 (.o2 .add (.var 5) (.lst [.con (.str "all ( do a 1 do a 1 do a 1 do a 1 )"), .con (.str "any ( do a 1"), .con (.str "( do a 1 )"), .con (.str "Do a 1"), .con (.str "do a 1 )")])), .set 6 (.lst [.con (.str "do a 1"), .con (.str "do abcde 4"), .con (.str "any ( do a 1 do a 1 do a 1 )"), .con (.str "without do do do 1"), .con (.str "within 1 within 9 do x 2")]), .set 7 (.call 11 [.var 0, .con (.int 2)]), .for (.nm 4) .rng [.con (.int 6)] [.ifs (.not (.call 14 [.o2 .ix (.var 5) (.o2 .mod (.o2 .add (.o2 .div (.var 7) (.con (.int 7))) (.o2 .mul (.con (.int 5)) (.var 4))) (.o1 .len (.var 5)))])) [.ret (.con (.bl false))] []], .ret (.o2 .eq (.lc (.var 12) (.nm 12) .lst [.var 6] [.o2 .ne (.call 7 [.call 9 [.var 12]]) (.var 12)] [12]) (.lst []))]⟩
def c_Reader_init : Fn := ⟨2, 2, [.setF "Reader" (.var 0) "words" (.var 1), .setF "Reader" (.var 0) "at" (.con (.int 0))]⟩
def c_Reader_word : Fn := ⟨1, 1, [.expr (.call 8 [.o2 .lt (.fld "Reader" (.var 0) "at") (.o1 .len (.fld "Reader" (.var 0) "words"))]), .setF "Reader" (.var 0) "at" (.o2 .add (.fld "Reader" (.var 0) "at") (.con (.int 1))), .ret (.o2 .ix (.fld "Reader" (.var 0) "words") (.o2 .sub (.fld "Reader" (.var 0) "at") (.con (.int 1))))]⟩
def c_Reader_number : Fn := ⟨1, 2, [.set 1 (.meth 17 "Reader" "word" (.var 0) []), .expr (.call 8 [.and [.o2 .eq (.o1 .len (.var 1)) (.con (.int 1)), .o2 .isIn (.var 1) (.con (.str "0123456789"))]]), .ret (.o1 .int (.var 1))]⟩
def c_Reader_group : Fn := ⟨2, 3, [.expr (.call 8 [.o2 .eq (.meth 17 "Reader" "word" (.var 0) []) (.con (.str "("))]), .own 2 [], .while (.and [.o2 .lt (.fld "Reader" (.var 0) "at") (.o1 .len (.fld "Reader" (.var 0) "words")), .o2 .ne (.o2 .ix (.fld "Reader" (.var 0) "words") (.fld "Reader" (.var 0) "at")) (.con (.str ")"))]) [.app 2 (.meth 20 "Reader" "task" (.var 0) [.var 1])], .expr (.meth 17 "Reader" "word" (.var 0) []), .freeze 2, .ret (.o1 .tuple (.var 2))]⟩
def c_Reader_task : Fn := ⟨2, 5, [.expr (.call 8 [.o2 .gt (.var 1) (.con (.int 0))]), .set 2 (.meth 17 "Reader" "word" (.var 0) []), .ifs (.o2 .isIn (.var 2) (.con (.tup [.str "all", .str "any", .str "then"]))) [.ret (.tup [.var 2, .meth 19 "Reader" "group" (.var 0) [.o2 .sub (.var 1) (.con (.int 1))]])] [], .ifs (.o2 .eq (.var 2) (.con (.str "do"))) [.set 4 (.meth 17 "Reader" "word" (.var 0) []), .ret (.tup [.var 2, .var 4, .meth 18 "Reader" "number" (.var 0) []])] [], .ifs (.o2 .eq (.var 2) (.con (.str "without"))) [.set 4 (.meth 17 "Reader" "word" (.var 0) []), .ret (.tup [.var 2, .var 4, .meth 20 "Reader" "task" (.var 0) [.o2 .sub (.var 1) (.con (.int 1))]])] [], .expr (.call 8 [.o2 .eq (.var 2) (.con (.str "within"))]), .set 3 (.meth 18 "Reader" "number" (.var 0) []), .ret (.tup [.var 2, .var 3, .meth 20 "Reader" "task" (.var 0) [.o2 .sub (.var 1) (.con (.int 1))]])]⟩
def Pg : List Fn := [c_is_name, c_is_whole, c_is_task_to, c_is_task, c_tasks_in, c_size, c_task_words, c_written, c_need, c_read, c__law_cell_at, c__law_mixed, c__law_drawn, c__law_task, c__law_none, c_law, c_Reader_init, c_Reader_word, c_Reader_number, c_Reader_group, c_Reader_task]
def t0 : Tx := ⟨"is_name", "is_name", ["thing", "sign"], (top 11), c_is_name⟩
def t1 : Tx := ⟨"is_whole", "is_whole", ["thing", "low", "high"], (top 12), c_is_whole⟩
def t2 : Tx := ⟨"is_task_to", "is_task_to", ["thing", "deep", "least", "part"], (top 13), c_is_task_to⟩
def t3 : Tx := ⟨"is_task", "is_task", ["thing"], (top 14), c_is_task⟩
def t4 : Tx := ⟨"tasks_in", "tasks_in", ["task"], (top 15), c_tasks_in⟩
def t5 : Tx := ⟨"size", "size", ["task", "part"], (top 16), c_size⟩
def t6 : Tx := ⟨"task_words", "task_words", ["task", "inner", "part"], (top 18), c_task_words⟩
def t7 : Tx := ⟨"written", "written", ["task"], (top 19), c_written⟩
def t8 : Tx := ⟨"need", "need", ["good"], (top 23), c_need⟩
def t9 : Tx := ⟨"read", "read", ["text", "reader", "found"], (top 25), c_read⟩
def t10 : Tx := ⟨"_law_cell_at", "_law_cell_at", ["_law_script", "_law_k"], (top 27), c__law_cell_at⟩
def t11 : Tx := ⟨"_law_mixed", "_law_mixed", ["_law_script", "_law_k", "_law_drawn_here"], (top 28), c__law_mixed⟩
def t12 : Tx := ⟨"_law_drawn", "_law_drawn", ["_law_number", "_law_k", "_law_drawn_here"], (top 29), c__law_drawn⟩
def t13 : Tx := ⟨"_law_task", "_law_task", ["_law_number", "_law_deep", "_law_most", "_law_deed", "_law_kind", "_law_many", "_law_word", "_law_k"], (top 30), c__law_task⟩
def t14 : Tx := ⟨"_law_none", "_law_none", ["_law_text"], (top 31), c__law_none⟩
def t15 : Tx := ⟨"law", "law", ["_law_script", "_law_word", "_law_head", "_law_deep", "_law_k", "_law_bad", "_law_good", "_law_number", "_law_one", "_law_other", "_law_here", "_law_there", "_law_text", "_law_group"], (top 32), c_law⟩
def t16 : Tx := ⟨"__init__", "Reader.__init__", ["self", "words"], (inClass (top 24) 0), c_Reader_init⟩
def t17 : Tx := ⟨"word", "Reader.word", ["self"], (inClass (top 24) 1), c_Reader_word⟩
def t18 : Tx := ⟨"number", "Reader.number", ["self", "word"], (inClass (top 24) 2), c_Reader_number⟩
def t19 : Tx := ⟨"group", "Reader.group", ["self", "deep", "found"], (inClass (top 24) 3), c_Reader_group⟩
def t20 : Tx := ⟨"task", "Reader.task", ["self", "deep", "word", "many", "deed"], (inClass (top 24) 4), c_Reader_task⟩
def Ts : List Tx := [t0, t1, t2, t3, t4, t5, t6, t7, t8, t9, t10, t11, t12, t13, t14, t15, t16, t17, t18, t19, t20]
def Gt : GT := ⟨["is_name", "is_whole", "is_task_to", "is_task", "tasks_in", "size", "task_words", "written", "need", "read", "_law_cell_at", "_law_mixed", "_law_drawn", "_law_task", "_law_none", "law", "", "", "", "", ""], [("DEEPEST_reading", .int 6), ("DEEPEST_tasks", .int 4), ("FIGURES", .str "0123456789"), ("GROUPS", .tup [.str "all", .str "any", .str "then"]), ("LETTERS", .str "abcdefghijklmnopqrstuvwxyz"), ("LONGEST", .int 5), ("MOST_OFTEN", .int 4), ("MOST_TASKS", .int 3), ("MOST_WITHIN", .int 9)], ["all", "bool", "int", "isinstance", "len", "max", "range", "str", "sum", "tuple"], [⟨"Reader", ["words", "at"], [("word", 17), ("number", 18), ("group", 19), ("task", 20)], 16⟩], ["TaleError", "NoText"], [(0, 1, false), (1, 1, true)]⟩
theorem k0 : chkFn Gt t0 = true := by decide +kernel
theorem k1 : chkFn Gt t1 = true := by decide +kernel
theorem k2 : chkFn Gt t2 = true := by decide +kernel
theorem k3 : chkFn Gt t3 = true := by decide +kernel
theorem k4 : chkFn Gt t4 = true := by decide +kernel
theorem k5 : chkFn Gt t5 = true := by decide +kernel
theorem k6 : chkFn Gt t6 = true := by decide +kernel
theorem k7 : chkFn Gt t7 = true := by decide +kernel
theorem k8 : chkFn Gt t8 = true := by decide +kernel
theorem k9 : chkFn Gt t9 = true := by decide +kernel
theorem k10 : chkFn Gt t10 = true := by decide +kernel
theorem k11 : chkFn Gt t11 = true := by decide +kernel
theorem k12 : chkFn Gt t12 = true := by decide +kernel
theorem k13 : chkFn Gt t13 = true := by decide +kernel
theorem k14 : chkFn Gt t14 = true := by decide +kernel
theorem k15 : chkFn Gt t15 = true := by decide +kernel
theorem k16 : chkFn Gt t16 = true := by decide +kernel
theorem k17 : chkFn Gt t17 = true := by decide +kernel
theorem k18 : chkFn Gt t18 = true := by decide +kernel
theorem k19 : chkFn Gt t19 = true := by decide +kernel
theorem k20 : chkFn Gt t20 = true := by decide +kernel
end TP

namespace TL
open PySem hiding run execs exec finish Env
open L2

def D.isS : TL.D → Bool
  | .str _ => true
  | _ => false
theorem eqv_str (x y : Str) : (TL.D.str x).eqv (.str y) = decide (x = y) := by
  unfold TL.D.eqv TL.D.py PyData.eqv
  by_cases h : x = y
  · simp [h]
  · simp [h]
theorem eqv_tup_str (ds : List TL.D) (y : Str) : (TL.D.tup ds).eqv (.str y) = false := by
  unfold TL.D.eqv TL.D.py PyData.eqv
  rfl
theorem eqv_str_tup (ds : List TL.D) (y : Str) : (TL.D.str y).eqv (.tup ds) = false := by
  unfold TL.D.eqv TL.D.py PyData.eqv
  rfl
theorem eqv_int (x y : Int) : (TL.D.int x).eqv (.int y) = decide (x = y) := by
  unfold TL.D.eqv TL.D.py PyData.eqv
  by_cases h : x = y
  · simp [h]
  · simp [h]
theorem eqv_non : TL.D.non.eqv .non = true := by
  unfold TL.D.eqv TL.D.py PyData.eqv
  rfl
theorem eqv_lst_nil (ds : List TL.D) : (TL.D.lst ds).eqv (.lst []) = decide (ds = []) := by
  unfold TL.D.eqv TL.D.py PyData.eqv
  cases ds <;> simp [pys, PyData.eqvAll]
/-- fit to be compared: plain, at most n deep -/
def okD (n : Nat) (d : TL.D) : Prop := d.py.canLay0 = true ∧ d.py.depth ≤ n
theorem okD.shp {n : Nat} {d : TL.D} (h : okD n d) (hn : n ≤ 64) : d.shp = true := by
  unfold TL.D.shp SeqAt.shaped
  rw [h.1, Bool.true_and]
  exact decide_eq_true (Nat.le_trans h.2 hn)
theorem okD.mono {n m : Nat} {d : TL.D} (h : okD n d) (hn : n ≤ m) : okD m d := ⟨h.1, Nat.le_trans h.2 hn⟩
theorem okD_int (n : Nat) (i : Int) : okD n (.int i) := ⟨rfl, Nat.zero_le _⟩
theorem okD_non (n : Nat) : okD n .non := ⟨rfl, Nat.zero_le _⟩
theorem okD_str (n : Nat) {x : Str} (h : PyData.strOk x = true) : okD n (.str x) := ⟨h, Nat.zero_le _⟩
theorem okD_tup {n : Nat} : ∀ {ds : List TL.D}, (∀ d ∈ ds, okD n d) → okD (n + 1) (.tup ds) := by
  intro ds h
  have h' : ∀ (ds : List TL.D), (∀ d ∈ ds, okD n d) → PyData.canLayAll0 (pys ds) = true ∧ PyData.depthAll (pys ds) ≤ n := by
    intro ds
    induction ds with
    | nil => intro _; exact ⟨rfl, Nat.zero_le _⟩
    | cons d ds ih =>
      intro h
      have a := h d (List.mem_cons_self ..)
      have b := ih fun x hx => h x (List.mem_cons_of_mem _ hx)
      simp only [pys, PyData.canLayAll0, PyData.depthAll]
      exact ⟨by rw [a.1, b.1]; rfl, Nat.max_le.mpr ⟨a.2, b.2⟩⟩
  have z := h' ds h
  unfold okD
  simp only [TL.D.py, PyData.canLay0, PyData.depth]
  exact ⟨z.1, by omega⟩
theorem okD_lst {n : Nat} {ds : List TL.D} (h : ∀ d ∈ ds, okD n d) : okD (n + 1) (.lst ds) := by
  have z := okD_tup h
  unfold okD at z ⊢
  simp only [TL.D.py, PyData.canLay0, PyData.depth] at z ⊢
  exact z
theorem okD_tup_nil (n : Nat) : okD n.succ (.tup []) := okD_tup (fun _ h => nomatch h)
theorem okD.eqv_refl {n : Nat} {d : TL.D} (h : okD n d) : d.eqv d = true := SeqAt.eqv_refl _ h.1
theorem okD.own {n : Nat} {d : TL.D} (h : okD n d) : d.own = false := by
  cases d <;> first | rfl | (have := h.1; simp [TL.D.py, PyData.canLay0] at this)
theorem dEq_ok {n m : Nat} {a b : TL.D} (h : okD n a) (k : okD m b) (hn : n ≤ 64) (hm : m ≤ 64) : dEq a b = some (.bl (a.eqv b)) := by
  unfold dEq
  rw [h.shp hn, k.shp hm]
  rfl
theorem dNe_ok {n m : Nat} {a b : TL.D} (h : okD n a) (k : okD m b) (hn : n ≤ 64) (hm : m ≤ 64) : dNe a b = some (.bl (!a.eqv b)) := by
  unfold dNe
  rw [h.shp hn, k.shp hm]
  rfl
/-- a comprehension whose parts are quiet -/
theorem lcGo_map {bnd : TL.D → Option Env} {c e : Env → Sto → R TL.D} {st : Sto} {p : TL.D → Bool} {g : TL.D → TL.D} : ∀ {xs : List TL.D}, (∀ x ∈ xs, ∃ ρ, bnd x = some ρ ∧ c ρ st = .ok (.bl (p x)) st ∧ (p x = true → e ρ st = .ok (g x) st ∧ (g x).own = false)) → lcGo bnd c e xs st = .ok ((xs.filter p).map g) st := by
  intro xs
  induction xs with
  | nil => intro _; rfl
  | cons x xs ih =>
    intro h
    obtain ⟨ρ, h1, h2, h3⟩ := h x (List.mem_cons_self ..)
    have ih := ih fun y hy => h y (List.mem_cons_of_mem _ hy)
    unfold lcGo
    simp only [h1, h2, R.bind]
    cases hp : p x with
    | true =>
      obtain ⟨h3, h4⟩ := h3 hp
      simp only [h3, h4, ih, List.filter_cons, hp, if_true, List.map_cons, Bool.false_eq_true, if_false]
    | false => simp only [ih, List.filter_cons, hp, Bool.false_eq_true, if_false]
/-- a comprehension that asks nothing -/
theorem lcGo_all {bnd : TL.D → Option Env} {c e : Env → Sto → R TL.D} {st : Sto} {g : TL.D → TL.D} {xs : List TL.D} (h : ∀ x ∈ xs, ∃ ρ, bnd x = some ρ ∧ c ρ st = .ok (.bl true) st ∧ e ρ st = .ok (g x) st ∧ (g x).own = false) : lcGo bnd c e xs st = .ok (xs.map g) st := by
  have z := lcGo_map (bnd := bnd) (c := c) (e := e) (st := st) (p := fun _ => true) (g := g) (xs := xs) fun x hx => by
    obtain ⟨ρ, a, b, d⟩ := h x hx
    exact ⟨ρ, a, b, fun _ => d⟩
  rw [z, List.filter_eq_self.mpr fun _ _ => rfl]
theorem lcGo_ex {bnd : TL.D → Option Env} {c e : Env → Sto → R TL.D} {st : Sto} {P : TL.D → Prop} : ∀ {xs : List TL.D}, (∀ x ∈ xs, ∃ ρ d, bnd x = some ρ ∧ c ρ st = .ok (.bl true) st ∧ e ρ st = .ok d st ∧ d.own = false ∧ P d) →
    ∃ ds, lcGo bnd c e xs st = .ok ds st ∧ ds.length = xs.length ∧ ∀ d ∈ ds, P d := by
  intro xs
  induction xs with
  | nil => intro _; exact ⟨[], rfl, rfl, fun _ h => nomatch h⟩
  | cons x xs ih =>
    intro h
    obtain ⟨ρ, d, h1, h2, h3, h4, h5⟩ := h x (List.mem_cons_self ..)
    obtain ⟨ds, e1, e2, e3⟩ := ih fun y hy => h y (List.mem_cons_of_mem _ hy)
    refine ⟨d :: ds, ?_, by rw [List.length_cons, List.length_cons, e2], fun y hy => ?_⟩
    · unfold lcGo
      simp only [h1, h2, R.bind, h3, h4, e1, Bool.false_eq_true, if_false]
    · rcases List.mem_cons.mp hy with rfl | hy
      · exact h5
      · exact e3 y hy
/-- a for that only goes through -/
theorem forGo_inv {bnd : TL.D → Env → Option Env} {b : Env → Sto → Fl} {st : Sto} {I : List TL.D → Env → Prop} {Q : Fl → Prop} : ∀ (xs : List TL.D) {ρ : Env}, I xs ρ → (∀ ρ, I [] ρ → Q (.nx ρ st)) →
    (∀ x xs ρ, I (x :: xs) ρ → ∃ ρ1, bnd x ρ = some ρ1 ∧ ((∃ ρ2, b ρ1 st = .nx ρ2 st ∧ I xs ρ2) ∨ (∃ d, b ρ1 st = .rt d st ∧ Q (.rt d st)))) → Q (forGo bnd b xs ρ st)
  | [], ρ, h, e, _ => e ρ h
  | x :: xs, ρ, h, e, s => by
    obtain ⟨ρ1, h1, h2⟩ := s x xs ρ h
    unfold forGo
    rw [h1]
    rcases h2 with ⟨ρ2, h2, h3⟩ | ⟨d, h2, h3⟩
    · simp only [h2, Fl.seq]
      exact forGo_inv xs h3 e s
    · simp only [h2, Fl.seq]
      exact h3
@[simp] theorem str_inj (x y : String) : (Str.ofString x = Str.ofString y) = (x = y) := by
  apply propext
  constructor
  · intro h
    rw [Str.ofString_eq_toList, Str.ofString_eq_toList] at h
    have h : x.toList.map Char.toNat = y.toList.map Char.toNat := by
      have := congrArg (fun s : Str => s.cps.toList) h
      simpa using this
    have h2 : x.toList = y.toList := by
      have inj : ∀ a b : Char, a.toNat = b.toNat → a = b := fun a b e => Char.ext (UInt32.toNat_inj.mp e)
      have : ∀ (l m : List Char), l.map Char.toNat = m.map Char.toNat → l = m := by
        intro l
        induction l with
        | nil => intro m e; cases m with
          | nil => rfl
          | cons _ _ => cases e
        | cons a l ih => intro m e; cases m with
          | nil => cases e
          | cons b m =>
            simp only [List.map_cons, List.cons.injEq] at e
            rw [inj a b e.1, ih m e.2]
      exact this _ _ h
    exact String.toList_inj.mp h2
  · intro h
    rw [h]
/-- loops over code: named, so that simp leaves them alone -/
def lcE (C : Cal) (elt : E) (tg : T) (own : List Nat) (cond : List E) (xs : List TL.D) (ρ : TL.Env) (st : Sto) : R (List TL.D) := lcGo (fun x => bindT tg x (wipeE ρ own)) (fun ρ st => evAnd1 C cond ρ st) (fun ρ st => ev C elt ρ st) xs st
def forE (C : Cal) (tg : T) (body : List S) (xs : List TL.D) (ρ : TL.Env) (st : Sto) : Fl := forGo (bindT tg) (fun ρ st => execs C body ρ st) xs ρ st
def whileE (C : Cal) (c : E) (body : List S) (n : Nat) (ρ : TL.Env) (st : Sto) : Fl := whileGo (fun ρ st => ev C c ρ st) (fun ρ st => execs C body ρ st) n ρ st
def ropt {α β : Type} (o : Option α) (f : α → R β) : R β := match o with
  | none => .fail
  | some a => f a
def fopt {α : Type} (o : Option α) (f : α → Fl) : Fl := match o with
  | none => .fail
  | some a => f a
def kTup (ds : List TL.D) (st : List TL.D) : R TL.D := .ok (.tup ds) st
def kLst (ds : List TL.D) (st : List TL.D) : R TL.D := .ok (.lst ds) st
def kO1 (o : O1) (d : TL.D) (st : List TL.D) : R TL.D := R.lift st (o1 o d)
def kO2b (o : O2) (x y : TL.D) (st : List TL.D) : R TL.D := R.lift st (o2 o x y)
def kO2 (C : Cal) (o : O2) (b : E) (ρ : TL.Env) (x : TL.D) (st : List TL.D) : R TL.D := (ev C b ρ st).bind (kO2b o x)
def kNot (k : Bool) (st : List TL.D) : R TL.D := .ok (.bl (!k)) st
def kIf (C : Cal) (a b : E) (ρ : TL.Env) (k : Bool) (st : List TL.D) : R TL.D := if k then ev C a ρ st else ev C b ρ st
def kSl5 (d : TL.D) (l h : Option Int) (st : List TL.D) : R TL.D := R.lift st (dCut d l h)
def kSl4 (d : TL.D) (l : Option Int) (h : List TL.D) (st : List TL.D) : R TL.D := (R.lift st (optI h)).bind (kSl5 d l)
def kSl3 (C : Cal) (hi : List E) (ρ : TL.Env) (d : TL.D) (l : Option Int) (st : List TL.D) : R TL.D := (evs C hi ρ st).bind (kSl4 d l)
def kSl2 (C : Cal) (hi : List E) (ρ : TL.Env) (d : TL.D) (l : List TL.D) (st : List TL.D) : R TL.D := (R.lift st (optI l)).bind (kSl3 C hi ρ d)
def kSl1 (C : Cal) (lo hi : List E) (ρ : TL.Env) (d : TL.D) (st : List TL.D) : R TL.D := (evs C lo ρ st).bind (kSl2 C hi ρ d)
def kAnd (C : Cal) (es : List E) (ρ : TL.Env) (k : Bool) (st : List TL.D) : R TL.D := if k then evAnd C es ρ st else .ok (.bl false) st
def kOr (C : Cal) (es : List E) (ρ : TL.Env) (k : Bool) (st : List TL.D) : R TL.D := if k then .ok (.bl true) st else evOr C es ρ st
def kEsb (d : TL.D) (ds : List TL.D) (st : List TL.D) : R (List TL.D) := .ok (d :: ds) st
def kEs (C : Cal) (es : List E) (ρ : TL.Env) (d : TL.D) (st : List TL.D) : R (List TL.D) := (evs C es ρ st).bind (kEsb d)
def kSm (C : Cal) (o : O2) (b : E) (ρ : TL.Env) (x : TL.D) (st : List TL.D) : R TL.D := match x with
  | .str x => (ev C b ρ st).bind (kO2b o (.str x))
  | _ => .fail
def kCh3 (C : Cal) (o : O2) (c : E) (ρ : TL.Env) (y : TL.D) (k : Bool) (st : List TL.D) : R TL.D := if k then (ev C c ρ st).bind (kO2b o y) else .ok (.bl false) st
def kCh2 (C : Cal) (o o' : O2) (c : E) (ρ : TL.Env) (x y : TL.D) (st : List TL.D) : R TL.D := (R.lift st (o2 o x y)).bool (kCh3 C o' c ρ y)
def kCh1 (C : Cal) (o o' : O2) (b c : E) (ρ : TL.Env) (x : TL.D) (st : List TL.D) : R TL.D := (ev C b ρ st).bind (kCh2 C o o' c ρ x)
def kLc2 (C : Cal) (elt : E) (tg : T) (cond : List E) (own : List Nat) (ρ : TL.Env) (st : List TL.D) (xs : List TL.D) : R TL.D := ((lcE C elt tg own cond xs ρ st).quiet).bind kLst
def kLc (C : Cal) (elt : E) (tg : T) (ik : IK) (cond : List E) (own : List Nat) (ρ : TL.Env) (ds : List TL.D) (st : List TL.D) : R TL.D := ropt (items ik ds) (kLc2 C elt tg cond own ρ st)
def kDic (ks : List Str) (ds : List TL.D) (st : List TL.D) : R TL.D := .ok (.dic (ks.zip ds)) st
def kDg3 (kvs : List (Str × TL.D)) (y z : TL.D) (st : List TL.D) : R TL.D := R.lift st (dGet kvs y z)
def kDg2 (C : Cal) (d : E) (ρ : TL.Env) (kvs : List (Str × TL.D)) (y : TL.D) (st : List TL.D) : R TL.D := (ev C d ρ st).bind (kDg3 kvs y)
def kDg1 (C : Cal) (k d : E) (ρ : TL.Env) (x : TL.D) (st : List TL.D) : R TL.D := match x with
  | .dic kvs => (ev C k ρ st).bind (kDg2 C d ρ kvs)
  | _ => .fail
def kSet (i : Nat) (ρ : TL.Env) (d : TL.D) (st : List TL.D) : Fl := if d.own then .fail else .nx (ρ.set i (some d)) st
def kOwn (i : Nat) (ρ : TL.Env) (ds : List TL.D) (st : List TL.D) : Fl := .nx (ρ.set i (some (.mlst ds))) st
def kNx (st : List TL.D) (ρ : TL.Env) : Fl := .nx ρ st
def kUnp (is : List Nat) (ρ : TL.Env) (d : TL.D) (st : List TL.D) : Fl := fopt (bindT (.tp is) d ρ) (kNx st)
def kIfs (C : Cal) (a b : List S) (ρ : TL.Env) (d : TL.D) (st : List TL.D) : Fl := match d with
  | .bl k => if k then execs C a ρ st else execs C b ρ st
  | _ => .fail
def kRet (d : TL.D) (st : List TL.D) : Fl := if d.own then .fail else .rt d st
def kEx (ρ : TL.Env) (d : TL.D) (st : List TL.D) : Fl := .nx ρ st
def kFor2 (C : Cal) (tg : T) (body : List S) (ρ : TL.Env) (st : List TL.D) (xs : List TL.D) : Fl := forE C tg body xs ρ st
def kFor (C : Cal) (tg : T) (ik : IK) (body : List S) (ρ : TL.Env) (ds : List TL.D) (st : List TL.D) : Fl := fopt (items ik ds) (kFor2 C tg body ρ st)
def kApp2 (i : Nat) (ρ : TL.Env) (ds : List TL.D) (d : TL.D) (st : List TL.D) : Fl := if d.own then .fail else if ds.length < sizeLine then .nx (ρ.set i (some (.mlst (ds ++ [d])))) st else .fail
def kApp (C : Cal) (i : Nat) (e : E) (ρ : TL.Env) (st : List TL.D) (x : Option (Option TL.D)) : Fl := match x with
  | some (some (.mlst ds)) => Fl.of ρ (ev C e ρ st) (kApp2 i ρ ds)
  | _ => .fail
def kExt2 (i : Nat) (ρ : TL.Env) (ds : List TL.D) (d : TL.D) (st : List TL.D) : Fl := match d with
  | .lst es => if ds.length + es.length ≤ sizeLine then .nx (ρ.set i (some (.mlst (ds ++ es)))) st else .fail
  | .tup es => if ds.length + es.length ≤ sizeLine then .nx (ρ.set i (some (.mlst (ds ++ es)))) st else .fail
  | _ => .fail
def kExt (C : Cal) (i : Nat) (e : E) (ρ : TL.Env) (st : List TL.D) (x : Option (Option TL.D)) : Fl := match x with
  | some (some (.mlst ds)) => Fl.of ρ (ev C e ρ st) (kExt2 i ρ ds)
  | _ => .fail
def kIn2 (neg : Bool) (y : Option (Option TL.D)) (x : TL.D) (st : List TL.D) : R TL.D := match y with
  | some (some (.mlst ds)) => R.lift st ((inD x (.mlst ds)).map fun b => .bl (if neg then !b else b))
  | some (some (.mset ks)) => R.lift st ((inD x (.mset ks)).map fun b => .bl (if neg then !b else b))
  | _ => .fail
def kUnpL (is : List Nat) (ρ : TL.Env) (d : TL.D) (st : List TL.D) : Fl := match d with
  | .lst ds => if ds.length = is.length then .nx (setAll is ds ρ) st else .fail
  | _ => .fail
def kSrt (d : TL.D) (st : List TL.D) : R TL.D := R.lift st (o1 .sortedSet d)
def kMinN (d : TL.D) (st : List TL.D) : R TL.D := R.lift st (o1 .minN d)
def kLm (C : Cal) (o : O2) (b : E) (ρ : TL.Env) (x : TL.D) (st : List TL.D) : R TL.D := match x with
  | .lst x => (ev C b ρ st).bind (kO2b o (.lst x))
  | _ => .fail
def kOwnd (i : Nat) (ρ : TL.Env) (d : TL.D) (st : List TL.D) : Fl := if isKey d then .nx (ρ.set i (some (.mset [d]))) st else .fail
def kPut2 (i : Nat) (ρ : TL.Env) (ks : List TL.D) (d : TL.D) (st : List TL.D) : Fl := if isKey d && decide (ks.length < sizeLine) then .nx (ρ.set i (some (.mset (if ks.any fun y => y.eqv d then ks else ks ++ [d])))) st else .fail
def kPut (C : Cal) (i : Nat) (e : E) (ρ : TL.Env) (st : List TL.D) (x : Option (Option TL.D)) : Fl := match x with
  | some (some (.mset ks)) => Fl.of ρ (ev C e ρ st) (kPut2 i ρ ks)
  | _ => .fail
def kFrz (i : Nat) (ρ : TL.Env) (st : List TL.D) (x : Option (Option TL.D)) : Fl := match x with
  | some (some (.mlst ds)) => .nx (ρ.set i (some (.lst ds))) st
  | _ => .fail
section simps
variable {α β : Type} {C : Cal} {st : Sto} {ρ : TL.Env}
theorem itRng {k : Int} (h1 : 0 ≤ k) (h2 : k ≤ 100000) : items .rng [.int k] = some ((List.range k.toNat).map fun (i : Nat) => .int (i : Int)) := by
  simp only [items, Int.zero_add]
  rw [if_pos ⟨by omega, by unfold sizeLine; omega⟩]
theorem itRng2 {a k : Int} (h : 0 ≤ a) (h0 : a ≤ 100000) (h1 : 0 ≤ k) (h2 : k ≤ 100000) : items .rng [.int a, .int k] = some ((List.range (k - a).toNat).map fun (i : Nat) => .int (a + (i : Int))) := by
  simp only [items]
  rw [if_pos ⟨by omega, by omega, by omega, by omega, by unfold sizeLine; omega⟩]
@[simp] theorem itTup {ds : List TL.D} : items .tup [.tup ds] = some ds := rfl
@[simp] theorem itLst {ds : List TL.D} : items .lst [.lst ds] = some ds := rfl
@[simp] theorem itFls {ds : List TL.D} : items .fls [.fls ds] = some ds := rfl
@[simp] theorem itEnT {ds : List TL.D} : items .enumT [.tup ds] = some (ds.zipIdx.map fun p => .tup [.int (p.2 : Nat), p.1]) := rfl
@[simp] theorem itEnL {ds : List TL.D} : items .enumL [.lst ds] = some (ds.zipIdx.map fun p => .tup [.int (p.2 : Nat), p.1]) := rfl
@[simp] theorem ropt_some {a : α} {f : α → R β} : ropt (some a) f = f a := by unfold ropt; rfl
@[simp] theorem fopt_some {a : α} {f : α → Fl} : fopt (some a) f = f a := by unfold fopt; rfl
@[simp] theorem bind_ok {a : α} {f : α → List TL.D → R β} : (R.ok a st).bind f = f a st := by unfold R.bind; rfl
@[simp] theorem bind_exc {c : Nat} {f : α → List TL.D → R β} : (R.exc c st).bind f = .exc c st := rfl
@[simp] theorem bind_fail {f : α → List TL.D → R β} : (R.fail).bind f = .fail := rfl
@[simp] theorem bind_ite {p : Prop} [Decidable p] {a b : R α} {f : α → List TL.D → R β} : (if p then a else b).bind f = if p then a.bind f else b.bind f := by split <;> rfl
@[simp] theorem bool_ok {b : Bool} {f : Bool → List TL.D → R TL.D} : (R.ok (.bl b) st).bool f = f b st := by unfold R.bool; rfl
@[simp] theorem bool_exc {c : Nat} {f : Bool → List TL.D → R TL.D} : (R.exc c st).bool f = .exc c st := rfl
@[simp] theorem lift_some {a : α} : R.lift st (some a) = .ok a st := rfl
@[simp] theorem lift_none : R.lift st (none : Option α) = .fail := rfl
@[simp] theorem quiet_ok {a : α} : (R.ok a st).quiet = .ok a st := by unfold R.quiet; rfl
@[simp] theorem of_ok {a : TL.D} {f : TL.D → List TL.D → Fl} : Fl.of ρ (.ok a st) f = f a st := by unfold Fl.of; rfl
@[simp] theorem of_exc {c : Nat} {f : TL.D → List TL.D → Fl} : Fl.of ρ (.exc c st) f = .ex c ρ st := rfl
@[simp] theorem ofs_ok {a : List TL.D} {f : List TL.D → List TL.D → Fl} : Fl.ofs ρ (.ok a st) f = f a st := by unfold Fl.ofs; rfl
@[simp] theorem seq_nx {f : TL.Env → Sto → Fl} : (Fl.nx ρ st).seq f = f ρ st := by unfold Fl.seq; rfl
@[simp] theorem seq_rt {d : TL.D} {f : TL.Env → Sto → Fl} : (Fl.rt d st).seq f = .rt d st := by unfold Fl.seq; rfl
@[simp] theorem seq_ex {c : Nat} {f : TL.Env → Sto → Fl} : (Fl.ex c ρ st).seq f = .ex c ρ st := rfl
@[simp] theorem seq_ite {p : Prop} [Decidable p] {a b : Fl} {f : TL.Env → Sto → Fl} : (if p then a else b).seq f = if p then a.seq f else b.seq f := by split <;> rfl
@[simp] theorem fin_nx : finish (.nx ρ st) = .ok .non st := rfl
@[simp] theorem fin_rt {d : TL.D} : finish (.rt d st) = .ok d st := rfl
@[simp] theorem fin_ex {c : Nat} : finish (.ex c ρ st) = .exc c st := rfl
@[simp] theorem fin_ite {p : Prop} [Decidable p] {a b : Fl} : finish (if p then a else b) = if p then finish a else finish b := by split <;> rfl
@[simp] theorem own_non : TL.D.non.own = false := rfl
@[simp] theorem own_bl {b : Bool} : (TL.D.bl b).own = false := rfl
@[simp] theorem own_int {b : Int} : (TL.D.int b).own = false := rfl
@[simp] theorem own_str {b : Str} : (TL.D.str b).own = false := rfl
@[simp] theorem own_tup {b : List TL.D} : (TL.D.tup b).own = false := rfl
@[simp] theorem own_lst {b : List TL.D} : (TL.D.lst b).own = false := rfl
@[simp] theorem own_fls {b : List TL.D} : (TL.D.fls b).own = false := rfl
@[simp] theorem evv {i : Nat} : ev C (.var i) ρ st = match ρ[i]? with
    | some (some d) => if d.own then .fail else .ok d st
    | _ => .fail := by unfold ev; rfl
@[simp] theorem evc {d : TL.D} : ev C (.con d) ρ st = .ok d st := by unfold ev; rfl
@[simp] theorem evt {es : List E} : ev C (.tup es) ρ st = (evs C es ρ st).bind kTup := by rw [ev] <;> rfl
@[simp] theorem evl {es : List E} : ev C (.lst es) ρ st = (evs C es ρ st).bind kLst := by rw [ev] <;> rfl
@[simp] theorem ev1 {o : O1} {e : E} : ev C (.o1 o e) ρ st = (ev C e ρ st).bind (kO1 o) := by rw [ev] <;> rfl
@[simp] theorem ev2 {o : O2} {a b : E} : ev C (.o2 o a b) ρ st = (ev C a ρ st).bind (kO2 C o b ρ) := by rw [ev] <;> rfl
@[simp] theorem evn {e : E} : ev C (.not e) ρ st = (ev C e ρ st).bool kNot := by rw [ev] <;> rfl
@[simp] theorem evi {c a b : E} : ev C (.ife c a b) ρ st = (ev C c ρ st).bool (kIf C a b ρ) := by rw [ev] <;> rfl
@[simp] theorem evcall {f : Nat} {es : List E} : ev C (.call f es) ρ st = (evs C es ρ st).bind (C f) := by rw [ev] <;> rfl
@[simp] theorem evsl {e : E} {lo hi : List E} : ev C (.sl e lo hi) ρ st = (ev C e ρ st).bind (kSl1 C lo hi ρ) := by rw [ev] <;> rfl
@[simp] theorem evand {es : List E} : ev C (.and es) ρ st = evAnd C es ρ st := by rw [ev]
@[simp] theorem evor {es : List E} : ev C (.or es) ρ st = evOr C es ρ st := by rw [ev]
@[simp] theorem evA1 {e : E} : evAnd C [e] ρ st = ev C e ρ st := by rw [evAnd]
@[simp] theorem evA2 {e f : E} {es : List E} : evAnd C (e :: f :: es) ρ st = (ev C e ρ st).bool (kAnd C (f :: es) ρ) := by
  rw [evAnd]
  · rfl
  · intro h; cases h
@[simp] theorem evO1 {e : E} : evOr C [e] ρ st = ev C e ρ st := by rw [evOr]
@[simp] theorem evO2 {e f : E} {es : List E} : evOr C (e :: f :: es) ρ st = (ev C e ρ st).bool (kOr C (f :: es) ρ) := by
  rw [evOr]
  · rfl
  · intro h; cases h
@[simp] theorem evs0 : evs C [] ρ st = .ok [] st := by rw [evs]
@[simp] theorem evs1 {e : E} {es : List E} : evs C (e :: es) ρ st = (ev C e ρ st).bind (kEs C es ρ) := by rw [evs] <;> rfl
@[simp] theorem evA10 : evAnd1 C [] ρ st = .ok (.bl true) st := by rw [evAnd1]
@[simp] theorem evA11 {e : E} {es : List E} : evAnd1 C (e :: es) ρ st = ev C e ρ st := by rw [evAnd1]
@[simp] theorem evsm {o : O2} {a b : E} : ev C (.sm o a b) ρ st = (ev C a ρ st).bind (kSm C o b ρ) := by
  rw [ev] <;> first | rfl | (congr 1; done) | (congr 1; funext x st; cases x <;> rfl)
@[simp] theorem evch {o o' : O2} {a b c : E} : ev C (.chain o o' a b c) ρ st = (ev C a ρ st).bind (kCh1 C o o' b c ρ) := by rw [ev] <;> rfl
@[simp] theorem evlc {elt : E} {tg : T} {ik : IK} {ie cond : List E} {own : List Nat} : ev C (.lc elt tg ik ie cond own) ρ st = (evs C ie ρ st).bind (kLc C elt tg ik cond own ρ) := by
  rw [ev]
  congr 1
  funext ds st
  unfold kLc ropt kLc2 lcE
  split <;> rename_i h <;> first | rfl | (simp only [h]; done) | (simp only [h]; rfl)
@[simp] theorem ex0 : execs C [] ρ st = .nx ρ st := by rw [execs]
@[simp] theorem ex1 {s : S} {ss : List S} : execs C (s :: ss) ρ st = (exec C s ρ st).seq (execs C ss) := by rw [execs]
@[simp] theorem exset {i : Nat} {e : E} : exec C (.set i e) ρ st = Fl.of ρ (ev C e ρ st) (kSet i ρ) := by rw [exec] <;> rfl
@[simp] theorem exown {i : Nat} {es : List E} : exec C (.own i es) ρ st = Fl.ofs ρ (evs C es ρ st) (kOwn i ρ) := by rw [exec] <;> rfl
@[simp] theorem exunp {is : List Nat} {e : E} : exec C (.unpack is e) ρ st = Fl.of ρ (ev C e ρ st) (kUnp is ρ) := by
  rw [exec]
  congr 1
  funext ds st
  unfold kUnp fopt kNx
  split <;> rename_i h <;> first | rfl | (simp only [h]; done) | (simp only [h]; rfl)
@[simp] theorem exifs {c : E} {a b : List S} : exec C (.ifs c a b) ρ st = Fl.of ρ (ev C c ρ st) (kIfs C a b ρ) := by
  rw [exec] <;> first | rfl | (congr 1; done) | (congr 1; funext x st; cases x <;> rfl)
@[simp] theorem exret {e : E} : exec C (.ret e) ρ st = Fl.of ρ (ev C e ρ st) kRet := by rw [exec] <;> rfl
@[simp] theorem exretN : exec C .retN ρ st = .rt .non st := by rw [exec]
@[simp] theorem exexpr {e : E} : exec C (.expr e) ρ st = Fl.of ρ (ev C e ρ st) (kEx ρ) := by rw [exec] <;> rfl
@[simp] theorem exfor {tg : T} {ik : IK} {ie : List E} {body : List S} : exec C (.for tg ik ie body) ρ st = Fl.ofs ρ (evs C ie ρ st) (kFor C tg ik body ρ) := by
  rw [exec]
  congr 1
  funext ds st
  unfold kFor fopt kFor2 forE
  split <;> rename_i h <;> first | rfl | (simp only [h]; done) | (simp only [h]; rfl)
@[simp] theorem exwhile {c : E} {body : List S} : exec C (.while c body) ρ st = whileE C c body FU ρ st := by unfold whileE; rw [exec]
@[simp] theorem exapp {i : Nat} {e : E} : exec C (.app i e) ρ st = kApp C i e ρ st ρ[i]? := by
  rw [exec]
  unfold kApp
  split <;> rename_i h <;> first | rfl | (simp only [h]; done) | (simp only [h]; rfl)
@[simp] theorem exfrz {i : Nat} : exec C (.freeze i) ρ st = kFrz i ρ st ρ[i]? := by
  rw [exec]
  unfold kFrz
  split <;> rename_i h <;> first | rfl | (simp only [h]; done) | (simp only [h]; rfl)
@[simp] theorem evdic {ks : List Str} {es : List E} : ev C (.dic ks es) ρ st = (evs C es ρ st).bind (kDic ks) := by rw [ev] <;> rfl
@[simp] theorem evdget {e k d : E} : ev C (.dget e k d) ρ st = (ev C e ρ st).bind (kDg1 C k d ρ) := by
  rw [ev] <;> first | rfl | (congr 1; done) | (congr 1; funext x st; cases x <;> rfl)
@[simp] theorem k_Dic {ks : List Str} {ds : List TL.D} : kDic ks ds st = .ok (.dic (ks.zip ds)) st := by unfold kDic; rfl
@[simp] theorem k_Dg1 {k d : E} {kvs : List (Str × TL.D)} : kDg1 C k d ρ (.dic kvs) st = (ev C k ρ st).bind (kDg2 C d ρ kvs) := by unfold kDg1; rfl
@[simp] theorem k_Dg2 {d : E} {kvs : List (Str × TL.D)} {y : TL.D} : kDg2 C d ρ kvs y st = (ev C d ρ st).bind (kDg3 kvs y) := by unfold kDg2; rfl
@[simp] theorem k_Dg3 {kvs : List (Str × TL.D)} {y z : TL.D} : kDg3 kvs y z st = R.lift st (dGet kvs y z) := by unfold kDg3; rfl
@[simp] theorem own_dic {kvs : List (Str × TL.D)} : (TL.D.dic kvs).own = false := rfl
@[simp] theorem exext {i : Nat} {e : E} : exec C (.ext i e) ρ st = kExt C i e ρ st ρ[i]? := by
  rw [exec]
  unfold kExt
  split <;> rename_i h <;> first | rfl | (simp only [h]; done) | (simp only [h]; rfl) | (simp only [h]; congr 1; funext d st; cases d <;> rfl)
@[simp] theorem evin {neg : Bool} {e : E} {i : Nat} : ev C (.inOwn neg e i) ρ st = (ev C e ρ st).bind (kIn2 neg ρ[i]?) := by
  rw [ev] <;> first | rfl | (congr 1; done) | (congr 1; funext x st; unfold kIn2; split <;> rename_i h <;> first | rfl | (simp only [h]; done) | (simp only [h]; rfl))
@[simp] theorem k_Ext2 {i : Nat} {ds es : List TL.D} : kExt2 i ρ ds (.lst es) st = if ds.length + es.length ≤ sizeLine then .nx (ρ.set i (some (.mlst (ds ++ es)))) st else .fail := by unfold kExt2; rfl
@[simp] theorem k_Ext {i : Nat} {e : E} {ds : List TL.D} : kExt C i e ρ st (some (some (.mlst ds))) = Fl.of ρ (ev C e ρ st) (kExt2 i ρ ds) := by unfold kExt; rfl
@[simp] theorem k_In2 {neg : Bool} {x : TL.D} {ds : List TL.D} : kIn2 neg (some (some (.mlst ds))) x st = R.lift st ((inD x (.mlst ds)).map fun b => .bl (if neg then !b else b)) := by unfold kIn2; rfl
@[simp] theorem exunpL {is : List Nat} {e : E} : exec C (.unpackL is e) ρ st = Fl.of ρ (ev C e ρ st) (kUnpL is ρ) := by
  rw [exec] <;> first | rfl | (congr 1; done) | (congr 1; funext x st; cases x <;> rfl)
@[simp] theorem k_UnpL {is : List Nat} {ds : List TL.D} : kUnpL is ρ (.lst ds) st = if ds.length = is.length then .nx (setAll is ds ρ) st else .fail := by unfold kUnpL; rfl
@[simp] theorem evsrt {e : E} : ev C (.srt e) ρ st = (ev C e ρ st).bind kSrt := by rw [ev] <;> rfl
@[simp] theorem evminN {e : E} : ev C (.minN e) ρ st = (ev C e ρ st).bind kMinN := by rw [ev] <;> rfl
@[simp] theorem k_MinN {d : TL.D} : kMinN d st = R.lift st (o1 .minN d) := by unfold kMinN; rfl
@[simp] theorem evlm {o : O2} {a b : E} : ev C (.lm o a b) ρ st = (ev C a ρ st).bind (kLm C o b ρ) := by
  rw [ev] <;> first | rfl | (congr 1; done) | (congr 1; funext x st; cases x <;> rfl)
@[simp] theorem k_Srt {d : TL.D} : kSrt d st = R.lift st (o1 .sortedSet d) := by unfold kSrt; rfl
@[simp] theorem k_Lm {o : O2} {b : E} {x : List TL.D} : kLm C o b ρ (.lst x) st = (ev C b ρ st).bind (kO2b o (.lst x)) := by unfold kLm; rfl
@[simp] theorem exownd {i : Nat} {e : E} : exec C (.ownd i e) ρ st = Fl.of ρ (ev C e ρ st) (kOwnd i ρ) := by rw [exec] <;> rfl
@[simp] theorem k_Ownd {i : Nat} {d : TL.D} : kOwnd i ρ d st = if isKey d then .nx (ρ.set i (some (.mset [d]))) st else .fail := by unfold kOwnd; rfl
@[simp] theorem exput {i : Nat} {e : E} : exec C (.put i e) ρ st = kPut C i e ρ st ρ[i]? := by
  rw [exec]
  unfold kPut
  split <;> rename_i h <;> first | rfl | (simp only [h]; done) | (simp only [h]; rfl)
@[simp] theorem k_Put {i : Nat} {e : E} {ks : List TL.D} : kPut C i e ρ st (some (some (.mset ks))) = Fl.of ρ (ev C e ρ st) (kPut2 i ρ ks) := by unfold kPut; rfl
@[simp] theorem k_Put2 {i : Nat} {ks : List TL.D} {d : TL.D} : kPut2 i ρ ks d st = if isKey d && decide (ks.length < sizeLine) then .nx (ρ.set i (some (.mset (if ks.any fun y => y.eqv d then ks else ks ++ [d])))) st else .fail := by unfold kPut2; rfl
@[simp] theorem k_In2m {neg : Bool} {x : TL.D} {ks : List TL.D} : kIn2 neg (some (some (.mset ks))) x st = R.lift st ((inD x (.mset ks)).map fun b => .bl (if neg then !b else b)) := by unfold kIn2; rfl
@[simp] theorem k_Tup {ds : List TL.D} : kTup ds st = .ok (.tup ds) st := rfl
@[simp] theorem k_Lst {ds : List TL.D} : kLst ds st = .ok (.lst ds) st := rfl
@[simp] theorem k_O1 {o : O1} {d : TL.D} : kO1 o d st = R.lift st (o1 o d) := rfl
@[simp] theorem k_O2b {o : O2} {x y : TL.D} : kO2b o x y st = R.lift st (o2 o x y) := rfl
@[simp] theorem k_O2 {o : O2} {b : E} {x : TL.D} : kO2 C o b ρ x st = (ev C b ρ st).bind (kO2b o x) := rfl
@[simp] theorem k_Not {k : Bool} : kNot k st = .ok (.bl (!k)) st := rfl
@[simp] theorem k_If {a b : E} {k : Bool} : kIf C a b ρ k st = if k then ev C a ρ st else ev C b ρ st := rfl
@[simp] theorem k_Sl5 {d : TL.D} {l h : Option Int} : kSl5 d l h st = R.lift st (dCut d l h) := rfl
@[simp] theorem k_Sl4 {d : TL.D} {l : Option Int} {h : List TL.D} : kSl4 d l h st = (R.lift st (optI h)).bind (kSl5 d l) := rfl
@[simp] theorem k_Sl3 {hi : List E} {d : TL.D} {l : Option Int} : kSl3 C hi ρ d l st = (evs C hi ρ st).bind (kSl4 d l) := rfl
@[simp] theorem k_Sl2 {hi : List E} {d : TL.D} {l : List TL.D} : kSl2 C hi ρ d l st = (R.lift st (optI l)).bind (kSl3 C hi ρ d) := rfl
@[simp] theorem k_Sl1 {lo hi : List E} {d : TL.D} : kSl1 C lo hi ρ d st = (evs C lo ρ st).bind (kSl2 C hi ρ d) := rfl
@[simp] theorem k_And {es : List E} {k : Bool} : kAnd C es ρ k st = if k then evAnd C es ρ st else .ok (.bl false) st := rfl
@[simp] theorem k_Or {es : List E} {k : Bool} : kOr C es ρ k st = if k then .ok (.bl true) st else evOr C es ρ st := rfl
@[simp] theorem k_Esb {d : TL.D} {ds : List TL.D} : kEsb d ds st = .ok (d :: ds) st := rfl
@[simp] theorem k_Es {es : List E} {d : TL.D} : kEs C es ρ d st = (evs C es ρ st).bind (kEsb d) := rfl
@[simp] theorem k_Sm {o : O2} {b : E} {x : Str} : kSm C o b ρ (.str x) st = (ev C b ρ st).bind (kO2b o (.str x)) := rfl
@[simp] theorem k_Ch3 {o : O2} {c : E} {y : TL.D} {k : Bool} : kCh3 C o c ρ y k st = if k then (ev C c ρ st).bind (kO2b o y) else .ok (.bl false) st := rfl
@[simp] theorem k_Ch2 {o o' : O2} {c : E} {x y : TL.D} : kCh2 C o o' c ρ x y st = (R.lift st (o2 o x y)).bool (kCh3 C o' c ρ y) := rfl
@[simp] theorem k_Ch1 {o o' : O2} {b c : E} {x : TL.D} : kCh1 C o o' b c ρ x st = (ev C b ρ st).bind (kCh2 C o o' c ρ x) := rfl
@[simp] theorem k_Lc2 {elt : E} {tg : T} {cond : List E} {own : List Nat} {xs : List TL.D} : kLc2 C elt tg cond own ρ st xs = ((lcE C elt tg own cond xs ρ st).quiet).bind kLst := rfl
@[simp] theorem k_Lc {elt : E} {tg : T} {ik : IK} {cond : List E} {own : List Nat} {ds : List TL.D} : kLc C elt tg ik cond own ρ ds st = ropt (items ik ds) (kLc2 C elt tg cond own ρ st) := by rw [kLc]
@[simp] theorem k_Set {i : Nat} {d : TL.D} : kSet i ρ d st = if d.own then .fail else .nx (ρ.set i (some d)) st := rfl
@[simp] theorem k_Own {i : Nat} {ds : List TL.D} : kOwn i ρ ds st = .nx (ρ.set i (some (.mlst ds))) st := rfl
@[simp] theorem k_Nx : kNx st ρ = .nx ρ st := rfl
@[simp] theorem k_Unp {is : List Nat} {d : TL.D} : kUnp is ρ d st = fopt (bindT (.tp is) d ρ) (kNx st) := rfl
@[simp] theorem k_Ifs {a b : List S} {k : Bool} : kIfs C a b ρ (.bl k) st = if k then execs C a ρ st else execs C b ρ st := rfl
@[simp] theorem k_Ret {d : TL.D} : kRet d st = if d.own then .fail else .rt d st := rfl
@[simp] theorem k_Ex {d : TL.D} : kEx ρ d st = .nx ρ st := rfl
@[simp] theorem k_For2 {tg : T} {body : List S} {xs : List TL.D} : kFor2 C tg body ρ st xs = forE C tg body xs ρ st := rfl
@[simp] theorem k_For {tg : T} {ik : IK} {body : List S} {ds : List TL.D} : kFor C tg ik body ρ ds st = fopt (items ik ds) (kFor2 C tg body ρ st) := by rw [kFor]
@[simp] theorem k_App2 {i : Nat} {ds : List TL.D} {d : TL.D} : kApp2 i ρ ds d st = if d.own then .fail else if ds.length < sizeLine then .nx (ρ.set i (some (.mlst (ds ++ [d])))) st else .fail := rfl
@[simp] theorem k_App {i : Nat} {e : E} {ds : List TL.D} : kApp C i e ρ st (some (some (.mlst ds))) = Fl.of ρ (ev C e ρ st) (kApp2 i ρ ds) := rfl
@[simp] theorem k_Frz {i : Nat} {ds : List TL.D} : kFrz i ρ st (some (some (.mlst ds))) = .nx (ρ.set i (some (.lst ds))) st := rfl
@[simp] theorem atI0 {x : α} {xs : List α} : atI (x :: xs) 0 = some x := by
  unfold atI ixN
  simp
@[simp] theorem atI1 {x y : α} {xs : List α} : atI (x :: y :: xs) 1 = some y := by
  unfold atI ixN
  have : ((1 : Int) < ((xs.length : Int) + 1 + 1)) := by omega
  simp [this]
@[simp] theorem atI2 {x y z : α} {xs : List α} : atI (x :: y :: z :: xs) 2 = some z := by
  unfold atI ixN
  have : ((2 : Int) < ((xs.length : Int) + 1 + 1 + 1)) := by omega
  simp [this]
theorem atI_nat {xs : List α} {k : Int} {x : α} (h : 0 ≤ k) (e : xs[k.toNat]? = some x) : atI xs k = some x := by
  have hl : k.toNat < xs.length := (List.getElem?_eq_some_iff.mp e).1
  unfold atI ixN
  rw [if_pos h, if_pos (by omega)]
  exact e
@[simp] theorem oIx {xs : List TL.D} {i : Int} : o2 .ix (.tup xs) (.int i) = atI xs i := rfl
@[simp] theorem oIxl {xs : List TL.D} {i : Int} : o2 .ix (.lst xs) (.int i) = atI xs i := rfl
@[simp] theorem oIxf {xs : List TL.D} {i : Int} : o2 .ix (.fls xs) (.int i) = atI xs i := rfl
@[simp] theorem oAdd {i j : Int} : o2 .add (.int i) (.int j) = some (.int (i + j)) := rfl
@[simp] theorem oSub {i j : Int} : o2 .sub (.int i) (.int j) = some (.int (i - j)) := rfl
@[simp] theorem oLt {i j : Int} : o2 .lt (.int i) (.int j) = some (.bl (decide (i < j))) := rfl
@[simp] theorem oGt {i j : Int} : o2 .gt (.int i) (.int j) = some (.bl (decide (j < i))) := rfl
@[simp] theorem oLe {i j : Int} : o2 .le (.int i) (.int j) = some (.bl (decide (i ≤ j))) := rfl
@[simp] theorem oGe {i j : Int} : o2 .ge (.int i) (.int j) = some (.bl (decide (j ≤ i))) := rfl
@[simp] theorem oEq {a b : TL.D} : o2 .eq a b = dEq a b := rfl
@[simp] theorem oNe {a b : TL.D} : o2 .ne a b = dNe a b := rfl
@[simp] theorem oIn {a b : TL.D} : o2 .isIn a b = dIn a b := rfl
@[simp] theorem oNotIn {a b : TL.D} : o2 .notIn a b = dNotIn a b := rfl
@[simp] theorem dEqi {i j : Int} : dEq (.int i) (.int j) = some (.bl (decide (i = j))) := by
  rw [dEq_ok (okD_int 0 i) (okD_int 0 j) (by decide) (by decide), eqv_int]
@[simp] theorem dNei {i j : Int} : dNe (.int i) (.int j) = some (.bl (!decide (i = j))) := by
  rw [dNe_ok (okD_int 0 i) (okD_int 0 j) (by decide) (by decide), eqv_int]
theorem dEqs {x y : Str} (h : PyData.strOk x = true) (k : PyData.strOk y = true) : dEq (.str x) (.str y) = some (.bl (decide (x = y))) := by
  rw [dEq_ok (okD_str 0 h) (okD_str 0 k) (by decide) (by decide), eqv_str]
theorem dNes {x y : Str} (h : PyData.strOk x = true) (k : PyData.strOk y = true) : dNe (.str x) (.str y) = some (.bl (!decide (x = y))) := by
  rw [dNe_ok (okD_str 0 h) (okD_str 0 k) (by decide) (by decide), eqv_str]
@[simp] theorem strOk_of (x : String) : PyData.strOk (Str.ofString x) = true := by
  rw [Str.ofString_eq_toList]
  unfold PyData.strOk
  rw [← Array.all_toList]
  simp only [List.all_eq_true, List.mem_map]
  rintro _ ⟨c, _, rfl⟩
  have := c.valid
  simp only [decide_eq_true_eq]
  rcases this with h | h
  · exact Nat.lt_trans h (by decide)
  · exact h.2
@[simp] theorem oLent {ds : List TL.D} : o1 .len (.tup ds) = some (.int ds.length) := rfl
@[simp] theorem oLenl {ds : List TL.D} : o1 .len (.lst ds) = some (.int ds.length) := rfl
@[simp] theorem oLenf {ds : List TL.D} : o1 .len (.fls ds) = some (.int ds.length) := rfl
@[simp] theorem oTupl {ds : List TL.D} : o1 .tuple (.lst ds) = some (.tup ds) := rfl
@[simp] theorem oLstt {ds : List TL.D} : o1 .list (.tup ds) = some (.lst ds) := rfl
@[simp] theorem oLstl {ds : List TL.D} : o1 .list (.lst ds) = some (.lst ds) := rfl
@[simp] theorem oInt {b : Bool} : o1 .int (.bl b) = some (.int (if b then 1 else 0)) := rfl
@[simp] theorem oIsS {x : Str} : o1 .isStr (.str x) = some (.bl true) := rfl
@[simp] theorem oIsT {x : List TL.D} : o1 .isStr (.tup x) = some (.bl false) := rfl
@[simp] theorem oNone : o1 .isNone .non = some (.bl true) := rfl
@[simp] theorem oNonei {i : Int} : o1 .isNone (.int i) = some (.bl false) := rfl
@[simp] theorem oNonet {i : List TL.D} : o1 .isNone (.tup i) = some (.bl false) := rfl
@[simp] theorem oNNone : o1 .notNone .non = some (.bl false) := rfl
@[simp] theorem oNNonei {i : Int} : o1 .notNone (.int i) = some (.bl true) := rfl
@[simp] theorem oNNonet {i : List TL.D} : o1 .notNone (.tup i) = some (.bl true) := rfl
theorem oMod {i j : Int} (h : 0 < j) : o2 .mod (.int i) (.int j) = some (.int (i % j)) := by
  show TL.dMod (.int i) (.int j) = _
  unfold TL.dMod
  simp only [h, if_true]
theorem oDiv {i j : Int} (h : 0 < j) (k : j < 1073741824) : o2 .div (.int i) (.int j) = some (.int (i / j)) := by
  show TL.dDiv (.int i) (.int j) = _
  unfold TL.dDiv
  simp only [h, k, and_self, if_true]
theorem oMul {i j : Int} (h : (-(2 ^ 64) < i ∧ i < 2 ^ 64) ∨ (-(2 ^ 64) < j ∧ j < 2 ^ 64)) : o2 .mul (.int i) (.int j) = some (.int (i * j)) := by
  show TL.dMul (.int i) (.int j) = _
  unfold TL.dMul
  simp only [h, if_true]
theorem lcE_ex {elt : E} {tg : T} {own : List Nat} {cond : List E} {P : TL.D → Prop} {xs : List TL.D} (h : ∀ x ∈ xs, ∃ ρ' d, bindT tg x (wipeE ρ own) = some ρ' ∧ evAnd1 C cond ρ' st = .ok (.bl true) st ∧ ev C elt ρ' st = .ok d st ∧ d.own = false ∧ P d) :
    ∃ ds, lcE C elt tg own cond xs ρ st = .ok ds st ∧ ds.length = xs.length ∧ ∀ d ∈ ds, P d := lcGo_ex h
theorem lcE_map {elt : E} {tg : T} {own : List Nat} {cond : List E} {p : TL.D → Bool} {g : TL.D → TL.D} {xs : List TL.D} (h : ∀ x ∈ xs, ∃ ρ', bindT tg x (wipeE ρ own) = some ρ' ∧ evAnd1 C cond ρ' st = .ok (.bl (p x)) st ∧ (p x = true → ev C elt ρ' st = .ok (g x) st ∧ (g x).own = false)) :
    lcE C elt tg own cond xs ρ st = .ok ((xs.filter p).map g) st := lcGo_map h
theorem lcE_all {elt : E} {tg : T} {own : List Nat} {cond : List E} {g : TL.D → TL.D} {xs : List TL.D} (h : ∀ x ∈ xs, ∃ ρ', bindT tg x (wipeE ρ own) = some ρ' ∧ evAnd1 C cond ρ' st = .ok (.bl true) st ∧ ev C elt ρ' st = .ok (g x) st ∧ (g x).own = false) :
    lcE C elt tg own cond xs ρ st = .ok (xs.map g) st := lcGo_all h
theorem forE_nil {tg : T} {body : List S} : forE C tg body [] ρ st = .nx ρ st := rfl
theorem forE_cons {tg : T} {body : List S} {x : TL.D} {xs : List TL.D} {ρ1 : TL.Env} (h : bindT tg x ρ = some ρ1) : forE C tg body (x :: xs) ρ st = (execs C body ρ1 st).seq (forE C tg body xs) := by
  unfold forE
  rw [forGo, h]
/-- a turn of a for, and what is left -/
def kForS (C : Cal) (tg : T) (body : List S) (xs : List TL.D) (st : List TL.D) (ρ : TL.Env) : Fl := (execs C body ρ st).seq (forE C tg body xs)
theorem k_ForS {tg : T} {body : List S} {xs : List TL.D} : kForS C tg body xs st ρ = (execs C body ρ st).seq (forE C tg body xs) := by unfold kForS; rfl
theorem forE_c {tg : T} {body : List S} {x : TL.D} {xs : List TL.D} : forE C tg body (x :: xs) ρ st = fopt (bindT tg x ρ) (kForS C tg body xs st) := by
  cases h : bindT tg x ρ with
  | none => unfold forE; rw [forGo, h]; rfl
  | some ρ1 => rw [forE_cons h]; rfl
theorem ite_ok {p : Prop} [Decidable p] {a b : α} : (if p then R.ok a st else R.ok b st) = R.ok (if p then a else b) st := by split <;> rfl
theorem ite_bl {p : Prop} [Decidable p] {a b : Bool} : (if p then TL.D.bl a else TL.D.bl b) = TL.D.bl (if p then a else b) := by split <;> rfl
theorem ite_int {p : Prop} [Decidable p] {a b : Int} : (if p then TL.D.int a else TL.D.int b) = TL.D.int (if p then a else b) := by split <;> rfl
theorem ite_rt {p : Prop} [Decidable p] {a b : TL.D} : (if p then Fl.rt a st else Fl.rt b st) = Fl.rt (if p then a else b) st := by split <;> rfl
theorem of_ite {p : Prop} [Decidable p] {a b : R TL.D} {f : TL.D → List TL.D → Fl} : Fl.of ρ (if p then a else b) f = if p then Fl.of ρ a f else Fl.of ρ b f := by split <;> rfl
theorem bool_ite {p : Prop} [Decidable p] {a b : R TL.D} {f : Bool → List TL.D → R TL.D} : (if p then a else b).bool f = if p then a.bool f else b.bool f := by split <;> rfl
/-- a call -/
theorem run_c {P : List Fn} {n f : Nat} {F : Fn} {ds : List TL.D} {st : Sto} (h : P[f]? = some F) (k : ds.length = F.np) : TL.run P (n+1) f ds st = TL.finish (TL.execs (TL.run P n) F.body (enter F ds) st) := by
  simp only [TL.run, h, k, if_true]
theorem cut_from {α : Type} (xs : List α) (k : Nat) : cutD xs (some (k : Int)) none = xs.drop k := by
  have e : HT.sIx xs.length 0 (some (k : Int)) = min k xs.length := by
    show (if (k : Int) < 0 then ((k : Int) + (xs.length : Int)).toNat else min (k : Int).toNat xs.length) = _
    rw [if_neg (by omega), Int.toNat_natCast]
  have e2 : HT.sIx xs.length xs.length none = xs.length := rfl
  unfold cutD
  rw [e, e2]
  by_cases h : k ≤ xs.length
  · rw [Nat.min_eq_left h]
    exact List.take_of_length_le (by simp)
  · rw [Nat.min_eq_right (by omega), List.drop_of_length_le (Nat.le_refl _), List.drop_of_length_le (by omega), List.take_nil]
theorem cut_to {α : Type} (xs : List α) (k : Nat) : cutD xs none (some (k : Int)) = xs.take k := by
  have e : HT.sIx xs.length xs.length (some (k : Int)) = min k xs.length := by
    show (if (k : Int) < 0 then ((k : Int) + (xs.length : Int)).toNat else min (k : Int).toNat xs.length) = _
    rw [if_neg (by omega), Int.toNat_natCast]
  have e2 : HT.sIx xs.length 0 none = 0 := rfl
  unfold cutD
  rw [e, e2, List.drop_zero, Nat.sub_zero]
  by_cases h : k ≤ xs.length
  · rw [Nat.min_eq_left h]
  · rw [Nat.min_eq_right (by omega), List.take_of_length_le (Nat.le_refl _), List.take_of_length_le (by omega)]
@[simp] theorem cutT {ds : List TL.D} {lo hi : Option Int} : dCut (.tup ds) lo hi = some (.tup (cutD ds lo hi)) := rfl
@[simp] theorem cutL {ds : List TL.D} {lo hi : Option Int} : dCut (.lst ds) lo hi = some (.lst (cutD ds lo hi)) := rfl
@[simp] theorem opt0 : optI [] = some none := rfl
@[simp] theorem opt1 {i : Int} : optI [.int i] = some (some i) := rfl
@[simp] theorem cut_from1 {α : Type} (x : α) (xs : List α) : cutD (x :: xs) (some 1) none = xs := cut_from (x :: xs) 1
theorem oAddl {a b : List TL.D} (h : a.length + b.length ≤ 100000) : o2 .add (.lst a) (.lst b) = some (.lst (a ++ b)) := by
  show TL.dAdd (.lst a) (.lst b) = _
  unfold TL.dAdd
  simp only
  rw [if_pos (by unfold sizeLine; omega)]
theorem oAddt {a b : List TL.D} (h : a.length + b.length ≤ 100000) : o2 .add (.tup a) (.tup b) = some (.tup (a ++ b)) := by
  show TL.dAdd (.tup a) (.tup b) = _
  unfold TL.dAdd
  simp only
  rw [if_pos (by unfold sizeLine; omega)]
@[simp] theorem bnm {i : Nat} {d : TL.D} : bindT (.nm i) d ρ = if d.own then none else some (ρ.set i (some d)) := rfl
@[simp] theorem btp {is : List Nat} {ds : List TL.D} : bindT (.tp is) (.tup ds) ρ = if ds.length = is.length then some (setAll is ds ρ) else none := rfl
@[simp] theorem sa0 {ds : List TL.D} : setAll [] ds ρ = ρ := by unfold setAll; rfl
@[simp] theorem sa1 {i : Nat} {is : List Nat} {d : TL.D} {ds : List TL.D} : setAll (i :: is) (d :: ds) ρ = setAll is ds (ρ.set i (some d)) := rfl
@[simp] theorem wi0 : wipeE ρ [] = ρ := rfl
@[simp] theorem wi1 {v : Nat} {vs : List Nat} : wipeE ρ (v :: vs) = (wipeE ρ vs).set v none := rfl
end simps
end TL

namespace TL
open PySem hiding run execs exec finish Env
open L2
def kFld (c f : Str) (x : TL.D) (st : List TL.D) : R TL.D := R.lift st (fldD st c x f)
def kMeth2 (C : Cal) (i : Nat) (x : TL.D) (ds : List TL.D) (st : List TL.D) : R TL.D := C i (x :: ds) st
def kMeth (C : Cal) (i : Nat) (c m : Str) (es : List E) (ρ : TL.Env) (x : TL.D) (st : List TL.D) : R TL.D := if hasM st c x m then (evs C es ρ st).bind (kMeth2 C i x) else .fail
def kMake (C : Cal) (i : Nat) (c : Str) (ds : List TL.D) (st : List TL.D) : R TL.D := mkR st.length (C i (.ref st.length :: ds) (st ++ [.ins c []]))
def kSetF3 (ρ : TL.Env) (st : List TL.D) : Fl := .nx ρ st
def kSetF2 (c f : Str) (ρ : TL.Env) (d x : TL.D) (st : List TL.D) : Fl := fopt (setFD st c x f d) (kSetF3 ρ)
def kSetF (C : Cal) (c : Str) (e : E) (f : Str) (ρ : TL.Env) (d : TL.D) (st : List TL.D) : Fl := Fl.of ρ (ev C e ρ st) (kSetF2 c f ρ d)
section simps
variable {α β : Type} {C : Cal} {st : Sto} {ρ : TL.Env}
@[simp] theorem own_ref {l : Nat} : (TL.D.ref l).own = false := rfl
@[simp] theorem ofs_exc {c : Nat} {f : List TL.D → List TL.D → Fl} : Fl.ofs ρ (.exc c st) f = .ex c ρ st := rfl
@[simp] theorem quiet_exc {c : Nat} : (R.exc c st : R α).quiet = .fail := rfl
@[simp] theorem evfld {c f : Str} {e : E} : ev C (.fld c e f) ρ st = (ev C e ρ st).bind (kFld c f) := by rw [ev] <;> rfl
@[simp] theorem k_Fld {c f : Str} {x : TL.D} : kFld c f x st = R.lift st (fldD st c x f) := by unfold kFld; rfl
@[simp] theorem evmeth {i : Nat} {c m : Str} {e : E} {es : List E} : ev C (.meth i c m e es) ρ st = (ev C e ρ st).bind (kMeth C i c m es ρ) := by rw [ev] <;> rfl
@[simp] theorem k_Meth2 {i : Nat} {x : TL.D} {ds : List TL.D} : kMeth2 C i x ds st = C i (x :: ds) st := by unfold kMeth2; rfl
@[simp] theorem k_Meth {i : Nat} {c m : Str} {es : List E} {x : TL.D} : kMeth C i c m es ρ x st = if hasM st c x m then (evs C es ρ st).bind (kMeth2 C i x) else .fail := by unfold kMeth; rfl
@[simp] theorem evmake {i : Nat} {c : Str} {es : List E} : ev C (.make i c es) ρ st = (evs C es ρ st).bind (kMake C i c) := by rw [ev] <;> rfl
@[simp] theorem k_Make {i : Nat} {c : Str} {ds : List TL.D} : kMake C i c ds st = mkR st.length (C i (.ref st.length :: ds) (st ++ [.ins c []])) := by unfold kMake; rfl
@[simp] theorem mk_ok {l : Nat} : mkR l (.ok .non st) = .ok (.ref l) st := by unfold mkR; rfl
@[simp] theorem exsetF {c f : Str} {e v : E} : exec C (.setF c e f v) ρ st = Fl.of ρ (ev C v ρ st) (kSetF C c e f ρ) := by
  rw [exec]
  congr 1
  funext d st
  unfold kSetF
  congr 1
  funext x st
  unfold kSetF2 fopt kSetF3
  split <;> rename_i h <;> first | rfl | (simp only [h]; done) | (simp only [h]; rfl)
@[simp] theorem k_SetF {c f : Str} {e : E} {d : TL.D} : kSetF C c e f ρ d st = Fl.of ρ (ev C e ρ st) (kSetF2 c f ρ d) := by unfold kSetF; rfl
@[simp] theorem k_SetF2 {c f : Str} {d x : TL.D} : kSetF2 c f ρ d x st = fopt (setFD st c x f d) (kSetF3 ρ) := by unfold kSetF2; rfl
@[simp] theorem k_SetF3 : kSetF3 ρ st = .nx ρ st := by unfold kSetF3; rfl
@[simp] theorem exraise {c : Nat} : exec C (.raise c) ρ st = .ex c ρ st := by rw [exec]
@[simp] theorem extry {body : List S} {j : Nat} {cs ncs : List Nat} {ret : Bool} {i : Nat} {d : TL.D} : exec C (.tryS body j cs ncs ret i d) ρ st = Fl.catch cs ncs ret i d (execs C body ρ st) := by rw [exec]
@[simp] theorem catch_nx {cs ncs : List Nat} {ret : Bool} {i : Nat} {d : TL.D} : Fl.catch cs ncs ret i d (.nx ρ st) = .nx ρ st := by unfold Fl.catch; rfl
@[simp] theorem catch_rt {cs ncs : List Nat} {ret : Bool} {i : Nat} {d d' : TL.D} : Fl.catch cs ncs ret i d (.rt d' st) = .rt d' st := by unfold Fl.catch; rfl
@[simp] theorem catch_ex {cs ncs : List Nat} {ret : Bool} {i : Nat} {d : TL.D} {c : Nat} : Fl.catch cs ncs ret i d (.ex c ρ st) = if c ∈ cs then (if ret then .rt d st else .nx (ρ.set i (some d)) st) else if c ∈ ncs then .ex c ρ st else .fail := by unfold Fl.catch; rfl
end simps
end TL

namespace TL
open PySem hiding run execs exec finish Env
theorem split_sp {parts : List Str} (h : parts ≠ []) (hp : ∀ p ∈ parts, (32 : Nat) ∉ p.cps.toList) : Txt.split (Txt.join " " parts) " " = parts :=
  split_join (y := " ") (s := 32) (S := []) (by decide +kernel) (by decide +kernel) h hp
theorem joinL_len : ∀ {parts : List (List Nat)}, (∀ p ∈ parts, p.length ≤ 7) → (joinL [32] parts).length ≤ 8 * parts.length
  | [], _ => Nat.zero_le _
  | [p], h => by
    have := h p (by simp)
    simp [joinL]
    omega
  | p :: q :: r, h => by
    have a := h p (by simp)
    have b := joinL_len (parts := q :: r) fun p hp => h p (List.mem_cons_of_mem _ hp)
    simp only [joinL, List.length_append, List.length_cons, List.length_nil] at b ⊢
    omega
theorem join_len {parts : List Str} (h : ∀ p ∈ parts, p.length ≤ 7) : (Txt.join " " parts).length ≤ 8 * parts.length := by
  rw [join_eq, len_tl, tl_join, show tl (" " : Str) = [32] by decide +kernel]
  refine Nat.le_trans (joinL_len fun p hp => ?_) (by rw [List.length_map]; exact Nat.le_refl _)
  obtain ⟨q, hq, rfl⟩ := List.mem_map.mp hp
  rw [← len_tl]
  exact h q hq
theorem strOk_tl (x : Str) : PyData.strOk x = (tl x).all fun c => decide (c < 1114112) := by
  unfold PyData.strOk tl
  rw [← Array.all_toList]
theorem joinL_all {p : Nat → Bool} {S : List Nat} (hS : S.all p = true) : ∀ {parts : List (List Nat)}, (∀ q ∈ parts, q.all p = true) → (joinL S parts).all p = true
  | [], _ => rfl
  | [q], h => h q (by simp)
  | q :: r :: l, h => by
    have a := h q (by simp)
    have b := joinL_all hS (parts := r :: l) fun x hx => h x (List.mem_cons_of_mem _ hx)
    rw [joinL, List.all_append, List.all_append, a, hS, b]
    rfl
theorem strOk_join {parts : List Str} (h : ∀ p ∈ parts, PyData.strOk p = true) : PyData.strOk (Txt.join " " parts) = true := by
  rw [strOk_tl, join_eq, tl_join]
  refine joinL_all (by decide +kernel) fun q hq => ?_
  obtain ⟨p, hp, rfl⟩ := List.mem_map.mp hq
  rw [← strOk_tl]
  exact h p hp
end TL

namespace TP
open TL
open PySem (Str PyData)
open L2 (atI)
theorem w__law_cell_at {N : Nat} (hN : 1 ≤ N) (s : List Int) (k : Nat) (st : Sto) : TL.run Pg N 10 [.fls (s.map .int), .int k] st = .ok (.int (s.getD k 0)) st := by
  obtain ⟨M, rfl⟩ : ∃ M, N = M + 1 := ⟨N - 1, by omega⟩
  rw [run_c (F := c__law_cell_at) rfl rfl]
  simp [c__law_cell_at, enter]
  split
  · next h =>
    rw [atI_nat (x := .int (s[k]'h)) (by omega) (by simp [h])]
    simp [h]
  · next h =>
    have : s[k]? = none := List.getElem?_eq_none (by omega)
    simp [this]
/-- what _law_mixed gives -/
def mixZ (s : List Int) (k : Nat) : Int := let h := (s.getD k 0 + 7919 * k + 1) * 48271 % 2147483647; (h * h + 7 * h + k) % 2147483629
theorem mixZ_nn (s : List Int) (k : Nat) : 0 ≤ mixZ s k := Int.emod_nonneg _ (by decide)
theorem w__law_mixed {N : Nat} (hN : 2 ≤ N) (s : List Int) (k : Nat) (st : Sto) : TL.run Pg N 11 [.fls (s.map .int), .int k] st = .ok (.int (mixZ s k)) st := by
  obtain ⟨M, rfl⟩ : ∃ M, N = M + 2 := ⟨N - 2, by omega⟩
  rw [run_c (F := c__law_mixed) rfl rfl]
  have a := w__law_cell_at (N := M+1) (by omega) s k
  have m1 := oMul (i := 7919) (j := k) (.inl (by decide))
  have m2 := oMul (i := s.getD k 0 + 7919 * k + 1) (j := 48271) (.inr (by decide))
  have r := oMod (i := (s.getD k 0 + 7919 * k + 1) * 48271) (j := 2147483647) (by decide)
  have hlo := Int.emod_nonneg ((s.getD k 0 + 7919 * k + 1) * 48271) (b := 2147483647) (by decide)
  have hhi := Int.emod_lt_of_pos ((s.getD k 0 + 7919 * k + 1) * 48271) (b := 2147483647) (by decide)
  show _ = R.ok (D.int ((((s.getD k 0 + 7919 * k + 1) * 48271 % 2147483647) * ((s.getD k 0 + 7919 * k + 1) * 48271 % 2147483647) + 7 * ((s.getD k 0 + 7919 * k + 1) * 48271 % 2147483647) + k) % 2147483629)) st
  generalize hz : s.getD k 0 = z at *
  generalize hh : (z + 7919 * (k : Int) + 1) * 48271 % 2147483647 = h at *
  have m3 := oMul (i := h) (j := h) (.inl (by omega))
  have m4 := oMul (i := 7) (j := h) (.inl (by decide))
  have r2 := oMod (i := h * h + 7 * h + k) (j := 2147483629) (by decide)
  simp [c__law_mixed, enter, a, m1, m2, m3, m4, r, r2]
def drawZ (z k : Int) : Int := let h := (z + 104729 * k + 17) * 69621 % 2147483647; (h * h + 3 * h + k) % 2147483629
theorem drawZ_nn (z k : Int) : 0 ≤ drawZ z k := Int.emod_nonneg _ (by decide)
theorem w__law_drawn {N : Nat} (hN : 1 ≤ N) (z k : Int) (st : Sto) : TL.run Pg N 12 [.int z, .int k] st = .ok (.int (drawZ z k)) st := by
  obtain ⟨M, rfl⟩ : ∃ M, N = M + 1 := ⟨N - 1, by omega⟩
  rw [run_c (F := c__law_drawn) rfl rfl]
  have m1 := oMul (i := 104729) (j := k) (.inl (by decide))
  have m2 := oMul (i := z + 104729 * k + 17) (j := 69621) (.inr (by decide))
  have r := oMod (i := (z + 104729 * k + 17) * 69621) (j := 2147483647) (by decide)
  have hlo := Int.emod_nonneg ((z + 104729 * k + 17) * 69621) (b := 2147483647) (by decide)
  have hhi := Int.emod_lt_of_pos ((z + 104729 * k + 17) * 69621) (b := 2147483647) (by decide)
  show _ = R.ok (D.int ((((z + 104729 * k + 17) * 69621 % 2147483647) * ((z + 104729 * k + 17) * 69621 % 2147483647) + 3 * ((z + 104729 * k + 17) * 69621 % 2147483647) + k) % 2147483629)) st
  generalize hh : (z + 104729 * k + 17) * 69621 % 2147483647 = h at *
  have m3 := oMul (i := h) (j := h) (.inl (by omega))
  have m4 := oMul (i := 3) (j := h) (.inl (by decide))
  have r2 := oMod (i := h * h + 3 * h + k) (j := 2147483629) (by decide)
  simp [c__law_drawn, enter, m1, m2, m3, m4, r, r2]
/-- a deed's name, as drawn -/
def nmOk (a : Str) : Prop := PyData.strOk a = true ∧ a ≠ "zz"
theorem letter3 (i : Int) : ∃ a, nmOk a ∧ o2 .ix (.str "abc") (.int (i % 3)) = some (.str a) := by
  have h1 := Int.emod_nonneg i (b := 3) (by decide)
  have h2 := Int.emod_lt_of_pos i (b := 3) (by decide)
  generalize i % 3 = j at *
  have : j = 0 ∨ j = 1 ∨ j = 2 := by omega
  rcases this with rfl | rfl | rfl
  · exact ⟨⟨#[97]⟩, ⟨by decide +kernel, by decide +kernel⟩, rfl⟩
  · exact ⟨⟨#[98]⟩, ⟨by decide +kernel, by decide +kernel⟩, rfl⟩
  · exact ⟨⟨#[99]⟩, ⟨by decide +kernel, by decide +kernel⟩, rfl⟩
theorem letter7 (i : Int) : ∃ a, PyData.strOk a = true ∧ o2 .ix (.str "abcabcd") (.int (i % 7)) = some (.str a) := by
  have h1 := Int.emod_nonneg i (b := 7) (by decide)
  have h2 := Int.emod_lt_of_pos i (b := 7) (by decide)
  generalize i % 7 = j at *
  have : j = 0 ∨ j = 1 ∨ j = 2 ∨ j = 3 ∨ j = 4 ∨ j = 5 ∨ j = 6 := by omega
  rcases this with rfl | rfl | rfl | rfl | rfl | rfl | rfl
  · exact ⟨⟨#[97]⟩, by decide +kernel, rfl⟩
  · exact ⟨⟨#[98]⟩, by decide +kernel, rfl⟩
  · exact ⟨⟨#[99]⟩, by decide +kernel, rfl⟩
  · exact ⟨⟨#[97]⟩, by decide +kernel, rfl⟩
  · exact ⟨⟨#[98]⟩, by decide +kernel, rfl⟩
  · exact ⟨⟨#[99]⟩, by decide +kernel, rfl⟩
  · exact ⟨⟨#[100]⟩, by decide +kernel, rfl⟩

end TP

namespace TP
open TL
open PySem (Str PyData)
open L2 (atI)
/-- a task of depth at most n -/
def Good : Nat → TL.D → Prop
  | 0, _ => False
  | n + 1, d => (∃ a k, nmOk a ∧ 1 ≤ k ∧ d = .tup [.str "do", .str a, .int k]) ∨
      (∃ (w : String) (ts : List TL.D), (w = "all" ∨ w = "any" ∨ w = "then") ∧ ts ≠ [] ∧ ts.length ≤ 1000 ∧ (w = "then" → 2 ≤ ts.length) ∧ (∀ t ∈ ts, Good n t) ∧ d = .tup [.str w, .tup ts]) ∨
      (∃ a t, nmOk a ∧ Good n t ∧ d = .tup [.str "without", .str a, t]) ∨
      (∃ k t, (1 : Int) ≤ k ∧ Good n t ∧ d = .tup [.str "within", .int k, t])
theorem Good.succ : ∀ {n : Nat} {d : TL.D}, Good n d → Good (n + 1) d
  | 0, _, h => h.elim
  | n + 1, d, h => by
    rcases h with h | ⟨w, ts, a, b, b2, c, e, f⟩ | ⟨a, t, b, c, e⟩ | ⟨k, t, b, c, e⟩
    · exact .inl h
    · exact .inr (.inl ⟨w, ts, a, b, b2, c, fun t ht => (e t ht).succ, f⟩)
    · exact .inr (.inr (.inl ⟨a, t, b, c.succ, e⟩))
    · exact .inr (.inr (.inr ⟨k, t, b, c.succ, e⟩))
theorem Good.mono {n m : Nat} {d : TL.D} (h : Good n d) (k : n ≤ m) : Good m d := by
  induction k with
  | refl => exact h
  | step _ ih => exact ih.succ
theorem Good.ok : ∀ {n : Nat} {d : TL.D}, Good n d → okD (2 * n) d
  | 0, _, h => h.elim
  | n + 1, d, h => by
    rcases h with ⟨a, k, b, _, rfl⟩ | ⟨w, ts, a, b, b2, c, e, rfl⟩ | ⟨a, t, b, c, rfl⟩ | ⟨k, t, b, c, rfl⟩
    · refine okD_tup (n := 2 * n + 1) fun x hx => ?_
      simp at hx
      rcases hx with rfl | rfl | rfl
      · exact okD_str _ (strOk_of _)
      · exact okD_str _ b.1
      · exact okD_int _ _
    · refine okD_tup (n := 2 * n + 1) fun x hx => ?_
      simp at hx
      rcases hx with rfl | rfl
      · exact okD_str _ (strOk_of _)
      · exact okD_tup fun t ht => (e t ht).ok
    · refine okD_tup (n := 2 * n + 1) fun x hx => ?_
      simp at hx
      rcases hx with rfl | rfl | rfl
      · exact okD_str _ (strOk_of _)
      · exact okD_str _ b.1
      · exact c.ok.mono (by omega)
    · refine okD_tup (n := 2 * n + 1) fun x hx => ?_
      simp at hx
      rcases hx with rfl | rfl | rfl
      · exact okD_str _ (strOk_of _)
      · exact okD_int _ _
      · exact c.ok.mono (by omega)
theorem Good.isT {n : Nat} {d : TL.D} (h : Good n d) : ∃ ds, d = .tup ds := by
  cases n with
  | zero => exact h.elim
  | succ n => rcases h with ⟨a, k, b, _, rfl⟩ | ⟨w, ts, a, b, b2, c, e, rfl⟩ | ⟨a, t, b, c, rfl⟩ | ⟨k, t, b, c, rfl⟩ <;> exact ⟨_, rfl⟩
theorem w__law_task : ∀ (n N : Nat) (z : Int) (m : Nat) (st : Sto), 1 ≤ m → m ≤ 1000 → n + 2 ≤ N → ∃ d, Good (n + 1) d ∧ TL.run Pg N 13 [.int z, .int ((n : Int) + 1), .int m] st = .ok d st := by
  intro n
  induction n with
  | zero =>
    intro N z m st h1 h2 hN
    obtain ⟨N, rfl⟩ : ∃ M, N = M + 1 := ⟨N - 1, by omega⟩
    obtain ⟨a, ha, ea⟩ := letter3 (z / 8)
    have d8 := oDiv (i := z) (j := 8) (by decide) (by decide)
    have r3 := oMod (i := z / 8) (j := 3) (by decide)
    have r8 := oMod (i := z) (j := 8) (by decide)
    have d64 := oDiv (i := z) (j := 64) (by decide) (by decide)
    have rm := oMod (i := z / 64) (j := m) (by omega)
    have hm := Int.emod_nonneg (z / 64) (b := (m : Int)) (by omega)
    refine ⟨.tup [.str "do", .str a, .int (1 + z / 64 % m)], .inl ⟨a, _, ha, by omega, rfl⟩, ?_⟩
    rw [run_c (F := c__law_task) rfl rfl]
    simp [c__law_task, enter, d8, r3, r8, ea, d64, rm]
  | succ n ih =>
    intro N z m st h1 h2 hN
    obtain ⟨N, rfl⟩ : ∃ M, N = M + 1 := ⟨N - 1, by omega⟩
    obtain ⟨a, ha, ea⟩ := letter3 (z / 8)
    have d8 := oDiv (i := z) (j := 8) (by decide) (by decide)
    have r3 := oMod (i := z / 8) (j := 3) (by decide)
    have r8 := oMod (i := z) (j := 8) (by decide)
    have d64 := oDiv (i := z) (j := 64) (by decide) (by decide)
    have rm := oMod (i := z / 64) (j := m) (by omega)
    have hm := Int.emod_nonneg (z / 64) (b := (m : Int)) (by omega)
    have k0 := Int.emod_nonneg z (b := 8) (by decide)
    have k8 := Int.emod_lt_of_pos z (b := 8) (by decide)
    have sn : (((n + 1 : Nat) : Int) + 1 - 1) = (n : Int) + 1 := by omega
    have ne : ¬ (((n + 1 : Nat) : Int) + 1 = 1) := by omega
    rw [run_c (F := c__law_task) rfl rfl]
    generalize ((n + 1 : Nat) : Int) + 1 = nn at *
    generalize hk : z % 8 = k at *
    by_cases lt2 : k < 2
    · refine ⟨.tup [.str "do", .str a, .int (1 + z / 64 % m)], .inl ⟨a, _, ha, by omega, rfl⟩, ?_⟩
      simp [c__law_task, enter, d8, r3, r8, ea, d64, rm, ne, lt2]
    by_cases e6 : k = 6
    · subst e6
      have w := w__law_drawn (N := N) (by omega) z 1 st
      obtain ⟨t, gt, wt⟩ := ih N (drawZ z 1 / 4) m st h1 h2 (by omega)
      have gt0 := gt.ok.own
      have d4 := oDiv (i := drawZ z 1) (j := 4) (by decide) (by decide)
      refine ⟨.tup [.str "without", .str a, t], .inr (.inr (.inl ⟨a, t, ha, gt, rfl⟩)), ?_⟩
      simp [c__law_task, enter, d8, r3, r8, ea, d64, rm, ne, sn, w, d4, wt, gt0]
    by_cases e7 : k = 7
    · subst e7
      have w := w__law_drawn (N := N) (by omega) z 2 st
      obtain ⟨t, gt, wt⟩ := ih N (drawZ z 2 / 4) m st h1 h2 (by omega)
      have gt0 := gt.ok.own
      have d4 := oDiv (i := drawZ z 2) (j := 4) (by decide) (by decide)
      have d10 := oDiv (i := z) (j := 1024) (by decide) (by decide)
      have r2 := oMod (i := z / 1024) (j := 2) (by decide)
      have q0 := Int.emod_nonneg (z / 1024) (b := 2) (by decide)
      have q1 := Int.emod_lt_of_pos (z / 1024) (b := 2) (by decide)
      obtain ⟨y, hy, ey⟩ : ∃ y : Int, 1 ≤ y ∧ o2 .ix (.tup [.int 9, .int 4]) (.int (z / 1024 % 2)) = some (.int y) := by
        generalize z / 1024 % 2 = j at *
        have : j = 0 ∨ j = 1 := by omega
        rcases this with rfl | rfl
        · exact ⟨9, by decide, by simp⟩
        · exact ⟨4, by decide, by simp⟩
      rw [oIx] at ey
      have ry := oMod (i := z / 64) (j := y) (by omega)
      have hy0 := Int.emod_nonneg (z / 64) (b := y) (by omega)
      refine ⟨.tup [.str "within", .int (1 + z / 64 % y), t], .inr (.inr (.inr ⟨_, t, by omega, gt, rfl⟩)), ?_⟩
      simp [c__law_task, enter, d8, r3, r8, ea, d64, rm, ne, sn, w, d4, wt, gt0, d10, r2, ey, ry]
    have r3' := oMod (i := z / 64) (j := 3) (by decide)
    have p0 := Int.emod_nonneg (z / 64) (b := 3) (by decide)
    have p1 := Int.emod_lt_of_pos (z / 64) (b := 3) (by decide)
    obtain ⟨wd, hw, ew⟩ : ∃ w : String, (w = "all" ∨ w = "any" ∨ w = "then") ∧ atI [TL.D.str "all", .str "any", .str "then", .str "all"] (k - 2) = some (.str w) := by
      have : k = 2 ∨ k = 3 ∨ k = 4 ∨ k = 5 := by omega
      rcases this with rfl | rfl | rfl | rfl
      · exact ⟨"all", .inl rfl, rfl⟩
      · exact ⟨"any", .inr (.inl rfl), rfl⟩
      · exact ⟨"then", .inr (.inr rfl), rfl⟩
      · exact ⟨"all", .inl rfl, rfl⟩
    generalize hq : 1 + z / 64 % 3 = q at *
    have lc : ∀ (q : Int), 0 ≤ q → q ≤ 100 → ∃ ds, lcE (TL.run Pg N) (.call 13 [.o2 .div (.call 12 [.var 0, .o2 .add (.con (.int 3)) (.var 7)]) (.con (.int 4)), .o2 .sub (.var 1) (.con (.int 1)), .var 2]) (.nm 7) [7] [] ((List.range q.toNat).map fun (i : Nat) => .int (i : Int)) [some (.int z), some (.int nn), some (.int m), some (.str a), some (.int k), some (.int q), some (.str wd), none] st = .ok ds st ∧ ds.length = q.toNat ∧ ∀ d ∈ ds, Good (n + 1) d := by
      intro q h0 h100
      have z := lcE_ex (C := TL.run Pg N) (P := Good (n + 1)) (st := st) (ρ := [some (.int z), some (.int nn), some (.int m), some (.str a), some (.int k), some (.int q), some (.str wd), none]) (tg := .nm 7) (own := [7]) (cond := [])
        (elt := .call 13 [.o2 .div (.call 12 [.var 0, .o2 .add (.con (.int 3)) (.var 7)]) (.con (.int 4)), .o2 .sub (.var 1) (.con (.int 1)), .var 2])
        (xs := (List.range q.toNat).map fun (i : Nat) => .int (i : Int)) (fun x hx => by
          obtain ⟨i, _, rfl⟩ := List.mem_map.mp hx
          obtain ⟨t, gt, wt⟩ := ih N (drawZ z (3 + i) / 4) m st h1 h2 (by omega)
          have w := w__law_drawn (N := N) (by omega) z (3 + i) st
          have d4 := oDiv (i := drawZ z (3 + i)) (j := 4) (by decide) (by decide)
          exact ⟨_, t, by simp [bindT, wipeE]; rfl, by simp, by simp [w, d4, sn, wt], gt.ok.own, gt⟩)
      rw [List.length_map, List.length_range] at z
      exact z
    by_cases ht : wd = "then"
    · subst ht
      obtain ⟨ds, e, hl, hg⟩ := lc (max 2 q) (by omega) (by omega)
      have rg := itRng (k := max 2 q) (by omega) (by omega)
      have mx : o2 .max (.int 2) (.int q) = some (.int (max 2 q)) := by
        show some (TL.D.int _) = _
        congr 2
        split <;> omega
      refine ⟨.tup [.str "then", .tup ds], .inr (.inl ⟨"then", ds, hw, by rintro rfl; simp at hl; omega, by omega, fun _ => by omega, hg, rfl⟩), ?_⟩
      simp [c__law_task, enter, d8, r3, r8, ea, d64, rm, ne, sn, lt2, e6, e7, r3', hq, ew, mx, dEqs, rg, e]
    · obtain ⟨ds, e, hl, hg⟩ := lc q (by omega) (by omega)
      have rg := itRng (k := q) (by omega) (by omega)
      refine ⟨.tup [.str wd, .tup ds], .inr (.inl ⟨wd, ds, hw, by rintro rfl; simp at hl; omega, by omega, fun h => (ht h).elim, hg, rfl⟩), ?_⟩
      simp [c__law_task, enter, d8, r3, r8, ea, d64, rm, ne, sn, lt2, e6, e7, r3', hq, ew, ht, dEqs, rg, e, str_inj]

end TP

namespace TP
open TL
open PySem (Str PyData)
open L2 (atI)
/-- the names of deeds -/
def Nm (a : String) : Prop := a = "a" ∨ a = "b" ∨ a = "c" ∨ a = "d"
/-- drawn: at most n deep, each do at most m times -/
def DrP (P : String → Prop) (m : Nat) : Nat → TL.D → Prop
  | 0, _ => False
  | n + 1, d => (∃ (a : String) (k : Int), P a ∧ 1 ≤ k ∧ k ≤ m ∧ d = .tup [.str "do", .str a, .int k]) ∨
      (∃ (w : String) (ts : List TL.D), (w = "all" ∨ w = "any" ∨ w = "then") ∧ 1 ≤ ts.length ∧ ts.length ≤ 3 ∧ (w = "then" → 2 ≤ ts.length) ∧ (∀ t ∈ ts, DrP P m n t) ∧ d = .tup [.str w, .tup ts]) ∨
      (∃ (a : String) (t : TL.D), P a ∧ DrP P m n t ∧ d = .tup [.str "without", .str a, t]) ∨
      (∃ (k : Int) (t : TL.D), 1 ≤ k ∧ k ≤ 9 ∧ DrP P m n t ∧ d = .tup [.str "within", .int k, t])
abbrev Dr := DrP Nm
/-- the names of deeds that are drawn -/
def Nm3 (a : String) : Prop := a = "a" ∨ a = "b" ∨ a = "c"
theorem Nm3.nm {a : String} (h : Nm3 a) : Nm a := by
  rcases h with h | h | h
  · exact .inl h
  · exact .inr (.inl h)
  · exact .inr (.inr (.inl h))
theorem DrP.imp {P Q : String → Prop} (hpq : ∀ a, P a → Q a) {m : Nat} : ∀ {n : Nat} {d : TL.D}, DrP P m n d → DrP Q m n d
  | 0, _, h => h.elim
  | n + 1, d, h => by
    rcases h with ⟨a, k, ha, hk, hm, rfl⟩ | ⟨w, ts, hw, h1, h3, h2, hg, rfl⟩ | ⟨a, t, ha, hg, rfl⟩ | ⟨k, t, hk, h9, hg, rfl⟩
    · exact .inl ⟨a, k, hpq a ha, hk, hm, rfl⟩
    · exact .inr (.inl ⟨w, ts, hw, h1, h3, h2, fun t ht => (hg t ht).imp hpq, rfl⟩)
    · exact .inr (.inr (.inl ⟨a, t, hpq a ha, hg.imp hpq, rfl⟩))
    · exact .inr (.inr (.inr ⟨k, t, hk, h9, hg.imp hpq, rfl⟩))
theorem abc_ok {a : String} (h : Nm a) : nmOk a := by
  rcases h with rfl | rfl | rfl | rfl <;> exact ⟨strOk_of _, by decide +kernel⟩
theorem DrP.good {m : Nat} : ∀ {n : Nat} {d : TL.D}, DrP Nm m n d → Good n d
  | 0, _, h => h.elim
  | n + 1, d, h => by
    rcases h with ⟨a, k, ha, hk, _, rfl⟩ | ⟨w, ts, hw, h1, h3, h2, hg, rfl⟩ | ⟨a, t, ha, hg, rfl⟩ | ⟨k, t, hk, _, hg, rfl⟩
    · exact .inl ⟨_, k, abc_ok ha, hk, rfl⟩
    · exact .inr (.inl ⟨w, ts, hw, by rintro rfl; simp at h1, by omega, h2, fun t ht => (hg t ht).good, rfl⟩)
    · exact .inr (.inr (.inl ⟨_, t, abc_ok ha, hg.good, rfl⟩))
    · exact .inr (.inr (.inr ⟨k, t, hk, hg.good, rfl⟩))
theorem DrP.succ {P : String → Prop} {m : Nat} : ∀ {n : Nat} {d : TL.D}, DrP P m n d → DrP P m (n + 1) d
  | 0, _, h => h.elim
  | n + 1, d, h => by
    rcases h with h | ⟨w, ts, hw, h1, h3, h2, hg, rfl⟩ | ⟨a, t, ha, hg, rfl⟩ | ⟨k, t, hk, h9, hg, rfl⟩
    · exact .inl h
    · exact .inr (.inl ⟨w, ts, hw, h1, h3, h2, fun t ht => (hg t ht).succ, rfl⟩)
    · exact .inr (.inr (.inl ⟨a, t, ha, hg.succ, rfl⟩))
    · exact .inr (.inr (.inr ⟨k, t, hk, h9, hg.succ, rfl⟩))
theorem DrP.mono {P : String → Prop} {m n k : Nat} {d : TL.D} (h : DrP P m n d) (l : n ≤ k) : DrP P m k d := by
  induction l with
  | refl => exact h
  | step _ ih => exact ih.succ
theorem letter3' (i : Int) : ∃ a : String, Nm3 a ∧ o2 .ix (.str "abc") (.int (i % 3)) = some (.str a) := by
  have h1 := Int.emod_nonneg i (b := 3) (by decide)
  have h2 := Int.emod_lt_of_pos i (b := 3) (by decide)
  generalize i % 3 = j at *
  have : j = 0 ∨ j = 1 ∨ j = 2 := by omega
  rcases this with rfl | rfl | rfl
  · exact ⟨"a", .inl rfl, rfl⟩
  · exact ⟨"b", .inr (.inl rfl), rfl⟩
  · exact ⟨"c", .inr (.inr rfl), rfl⟩
theorem w__law_task3 : ∀ (n N : Nat) (z : Int) (m : Nat) (st : Sto), 1 ≤ m → m ≤ 1000 → n + 2 ≤ N → ∃ d, DrP Nm3 m (n + 1) d ∧ TL.run Pg N 13 [.int z, .int ((n : Int) + 1), .int m] st = .ok d st := by
  intro n
  induction n with
  | zero =>
    intro N z m st h1 h2 hN
    obtain ⟨N, rfl⟩ : ∃ M, N = M + 1 := ⟨N - 1, by omega⟩
    obtain ⟨a, ha, ea⟩ := letter3' (z / 8)
    have d8 := oDiv (i := z) (j := 8) (by decide) (by decide)
    have r3 := oMod (i := z / 8) (j := 3) (by decide)
    have r8 := oMod (i := z) (j := 8) (by decide)
    have d64 := oDiv (i := z) (j := 64) (by decide) (by decide)
    have rm := oMod (i := z / 64) (j := m) (by omega)
    have hm := Int.emod_nonneg (z / 64) (b := (m : Int)) (by omega)
    have hm' := Int.emod_lt_of_pos (z / 64) (b := (m : Int)) (by omega)
    refine ⟨.tup [.str "do", .str a, .int (1 + z / 64 % m)], .inl ⟨a, _, ha, by omega, by omega, rfl⟩, ?_⟩
    rw [run_c (F := c__law_task) rfl rfl]
    simp [c__law_task, enter, d8, r3, r8, ea, d64, rm]
  | succ n ih =>
    intro N z m st h1 h2 hN
    obtain ⟨N, rfl⟩ : ∃ M, N = M + 1 := ⟨N - 1, by omega⟩
    obtain ⟨a, ha, ea⟩ := letter3' (z / 8)
    have d8 := oDiv (i := z) (j := 8) (by decide) (by decide)
    have r3 := oMod (i := z / 8) (j := 3) (by decide)
    have r8 := oMod (i := z) (j := 8) (by decide)
    have d64 := oDiv (i := z) (j := 64) (by decide) (by decide)
    have rm := oMod (i := z / 64) (j := m) (by omega)
    have hm := Int.emod_nonneg (z / 64) (b := (m : Int)) (by omega)
    have hm' := Int.emod_lt_of_pos (z / 64) (b := (m : Int)) (by omega)
    have k0 := Int.emod_nonneg z (b := 8) (by decide)
    have k8 := Int.emod_lt_of_pos z (b := 8) (by decide)
    have sn : (((n + 1 : Nat) : Int) + 1 - 1) = (n : Int) + 1 := by omega
    have ne : ¬ (((n + 1 : Nat) : Int) + 1 = 1) := by omega
    rw [run_c (F := c__law_task) rfl rfl]
    generalize ((n + 1 : Nat) : Int) + 1 = nn at *
    generalize hk : z % 8 = k at *
    by_cases lt2 : k < 2
    · refine ⟨.tup [.str "do", .str a, .int (1 + z / 64 % m)], .inl ⟨a, _, ha, by omega, by omega, rfl⟩, ?_⟩
      simp [c__law_task, enter, d8, r3, r8, ea, d64, rm, ne, lt2]
    by_cases e6 : k = 6
    · subst e6
      have w := w__law_drawn (N := N) (by omega) z 1 st
      obtain ⟨t, gt, wt⟩ := ih N (drawZ z 1 / 4) m st h1 h2 (by omega)
      have gt0 := (gt.imp fun _ => Nm3.nm).good.ok.own
      have d4 := oDiv (i := drawZ z 1) (j := 4) (by decide) (by decide)
      refine ⟨.tup [.str "without", .str a, t], .inr (.inr (.inl ⟨a, t, ha, gt, rfl⟩)), ?_⟩
      simp [c__law_task, enter, d8, r3, r8, ea, d64, rm, ne, sn, w, d4, wt, gt0]
    by_cases e7 : k = 7
    · subst e7
      have w := w__law_drawn (N := N) (by omega) z 2 st
      obtain ⟨t, gt, wt⟩ := ih N (drawZ z 2 / 4) m st h1 h2 (by omega)
      have gt0 := (gt.imp fun _ => Nm3.nm).good.ok.own
      have d4 := oDiv (i := drawZ z 2) (j := 4) (by decide) (by decide)
      have d10 := oDiv (i := z) (j := 1024) (by decide) (by decide)
      have r2 := oMod (i := z / 1024) (j := 2) (by decide)
      have q0 := Int.emod_nonneg (z / 1024) (b := 2) (by decide)
      have q1 := Int.emod_lt_of_pos (z / 1024) (b := 2) (by decide)
      obtain ⟨y, hy, hy9, ey⟩ : ∃ y : Int, 1 ≤ y ∧ y ≤ 9 ∧ o2 .ix (.tup [.int 9, .int 4]) (.int (z / 1024 % 2)) = some (.int y) := by
        generalize z / 1024 % 2 = j at *
        have : j = 0 ∨ j = 1 := by omega
        rcases this with rfl | rfl
        · exact ⟨9, by decide, by decide, by simp⟩
        · exact ⟨4, by decide, by decide, by simp⟩
      rw [oIx] at ey
      have ry := oMod (i := z / 64) (j := y) (by omega)
      have hy0 := Int.emod_nonneg (z / 64) (b := y) (by omega)
      have hy1 := Int.emod_lt_of_pos (z / 64) (b := y) (by omega)
      refine ⟨.tup [.str "within", .int (1 + z / 64 % y), t], .inr (.inr (.inr ⟨_, t, by omega, by omega, gt, rfl⟩)), ?_⟩
      simp [c__law_task, enter, d8, r3, r8, ea, d64, rm, ne, sn, w, d4, wt, gt0, d10, r2, ey, ry]
    have r3' := oMod (i := z / 64) (j := 3) (by decide)
    have p0 := Int.emod_nonneg (z / 64) (b := 3) (by decide)
    have p1 := Int.emod_lt_of_pos (z / 64) (b := 3) (by decide)
    obtain ⟨wd, hw, ew⟩ : ∃ w : String, (w = "all" ∨ w = "any" ∨ w = "then") ∧ atI [TL.D.str "all", .str "any", .str "then", .str "all"] (k - 2) = some (.str w) := by
      have : k = 2 ∨ k = 3 ∨ k = 4 ∨ k = 5 := by omega
      rcases this with rfl | rfl | rfl | rfl
      · exact ⟨"all", .inl rfl, rfl⟩
      · exact ⟨"any", .inr (.inl rfl), rfl⟩
      · exact ⟨"then", .inr (.inr rfl), rfl⟩
      · exact ⟨"all", .inl rfl, rfl⟩
    generalize hq : 1 + z / 64 % 3 = q at *
    have lc : ∀ (q : Int), 0 ≤ q → q ≤ 100 → ∃ ds, lcE (TL.run Pg N) (.call 13 [.o2 .div (.call 12 [.var 0, .o2 .add (.con (.int 3)) (.var 7)]) (.con (.int 4)), .o2 .sub (.var 1) (.con (.int 1)), .var 2]) (.nm 7) [7] [] ((List.range q.toNat).map fun (i : Nat) => .int (i : Int)) [some (.int z), some (.int nn), some (.int m), some (.str a), some (.int k), some (.int q), some (.str wd), none] st = .ok ds st ∧ ds.length = q.toNat ∧ ∀ d ∈ ds, DrP Nm3 m (n + 1) d := by
      intro q h0 h100
      have z := lcE_ex (C := TL.run Pg N) (P := DrP Nm3 m (n + 1)) (st := st) (ρ := [some (.int z), some (.int nn), some (.int m), some (.str a), some (.int k), some (.int q), some (.str wd), none]) (tg := .nm 7) (own := [7]) (cond := [])
        (elt := .call 13 [.o2 .div (.call 12 [.var 0, .o2 .add (.con (.int 3)) (.var 7)]) (.con (.int 4)), .o2 .sub (.var 1) (.con (.int 1)), .var 2])
        (xs := (List.range q.toNat).map fun (i : Nat) => .int (i : Int)) (fun x hx => by
          obtain ⟨i, _, rfl⟩ := List.mem_map.mp hx
          obtain ⟨t, gt, wt⟩ := ih N (drawZ z (3 + i) / 4) m st h1 h2 (by omega)
          have w := w__law_drawn (N := N) (by omega) z (3 + i) st
          have d4 := oDiv (i := drawZ z (3 + i)) (j := 4) (by decide) (by decide)
          exact ⟨_, t, by simp [bindT, wipeE]; rfl, by simp, by simp [w, d4, sn, wt], (gt.imp fun _ => Nm3.nm).good.ok.own, gt⟩)
      rw [List.length_map, List.length_range] at z
      exact z
    by_cases ht : wd = "then"
    · subst ht
      obtain ⟨ds, e, hl, hg⟩ := lc (max 2 q) (by omega) (by omega)
      have rg := itRng (k := max 2 q) (by omega) (by omega)
      have mx : o2 .max (.int 2) (.int q) = some (.int (max 2 q)) := by
        show some (TL.D.int _) = _
        congr 2
        split <;> omega
      refine ⟨.tup [.str "then", .tup ds], .inr (.inl ⟨"then", ds, hw, by omega, by omega, fun _ => by omega, hg, rfl⟩), ?_⟩
      simp [c__law_task, enter, d8, r3, r8, ea, d64, rm, ne, sn, lt2, e6, e7, r3', hq, ew, mx, dEqs, rg, e]
    · obtain ⟨ds, e, hl, hg⟩ := lc q (by omega) (by omega)
      have rg := itRng (k := q) (by omega) (by omega)
      refine ⟨.tup [.str wd, .tup ds], .inr (.inl ⟨wd, ds, hw, by omega, by omega, fun h => (ht h).elim, hg, rfl⟩), ?_⟩
      simp [c__law_task, enter, d8, r3, r8, ea, d64, rm, ne, sn, lt2, e6, e7, r3', hq, ew, ht, dEqs, rg, e, str_inj]
theorem w__law_task' (n N : Nat) (z : Int) (m : Nat) (st : Sto) (h1 : 1 ≤ m) (h2 : m ≤ 1000) (hN : n + 2 ≤ N) : ∃ d, Dr m (n + 1) d ∧ TL.run Pg N 13 [.int z, .int ((n : Int) + 1), .int m] st = .ok d st := by
  obtain ⟨d, h, e⟩ := w__law_task3 n N z m st h1 h2 hN
  exact ⟨d, h.imp fun _ => Nm3.nm, e⟩

end TP

namespace TP
open TL
open PySem (Str PyData)
open L2 (atI)
theorem inL {n : Nat} {x : Str} {ds : List TL.D} (hx : PyData.strOk x = true) (hn : n + 1 ≤ 64) (h : ∀ d ∈ ds, okD n d) : dIn (.str x) (.lst ds) = some (.bl (ds.any fun d => d.eqv (.str x))) := by
  have a := (okD_str 0 hx).shp (by decide)
  have b := (okD_lst h).shp hn
  simp [dIn, inD, a, b]
theorem inT {x : Str} (ys : List String) (hx : PyData.strOk x = true) : dIn (.str x) (.tup (ys.map fun y => TL.D.str (Str.ofString y))) = some (.bl (ys.any fun y => decide (Str.ofString y = x))) := by
  have a := (okD_str 0 hx).shp (by decide)
  have b := (okD_tup (n := 0) (ds := ys.map fun y => TL.D.str (Str.ofString y)) (fun d hd => by
    obtain ⟨y, _, rfl⟩ := List.mem_map.mp hd
    exact okD_str 0 (strOk_of y))).shp (by decide)
  simp [dIn, inD, a, b, Function.comp_def, eqv_str]
theorem inG {x : String} : dIn (.str x) (.tup [.str "all", .str "any", .str "then"]) = some (.bl (decide (x = "all") || (decide (x = "any") || decide (x = "then")))) := by
  have z := inT (x := x) ["all", "any", "then"] (strOk_of _)
  simp at z
  rw [z]
  congr 2
  simp only [eq_comm]

end TP

namespace TP
open TL
open PySem (Str PyData)
open L2 (atI)
mutual
def pv : TL.D → Bool
  | .non => true
  | .bl _ => true
  | .int _ => true
  | .str s => PyData.strOk s
  | .tup ds => pvs ds
  | .lst ds => pvs ds
  | _ => false
def pvs : List TL.D → Bool
  | [] => true
  | d :: ds => pv d && pvs ds
end
theorem blsOf_map : ∀ (l : List Bool), blsOf (l.map TL.D.bl) = some l
  | [] => rfl
  | x :: r => by simp [blsOf, blsOf_map r]
theorem oAll (l : List Bool) : o1 .all (.lst (l.map TL.D.bl)) = some (.bl (l.all id)) := by
  show (blsOf _).map _ = _
  rw [blsOf_map]
  rfl
/-- a small letter -/
def low (c : Nat) : Bool := decide (97 ≤ c) && decide (c ≤ 122)
theorem letters_mem (c : Nat) : decide (c ∈ (Str.ofString "abcdefghijklmnopqrstuvwxyz").cps.toList) = low c := by
  have e : (Str.ofString "abcdefghijklmnopqrstuvwxyz").cps.toList = (List.range 26).map (97 + ·) := by decide +kernel
  rw [e]
  unfold low
  by_cases h : 97 ≤ c ∧ c ≤ 122
  · have : c ∈ (List.range 26).map (97 + ·) := List.mem_map.mpr ⟨c - 97, List.mem_range.mpr (by omega), by omega⟩
    rw [decide_eq_true this, decide_eq_true h.1, decide_eq_true h.2]
    rfl
  · have : ¬ c ∈ (List.range 26).map (97 + ·) := fun m => by
      obtain ⟨i, hi, e⟩ := List.mem_map.mp m
      have := List.mem_range.mp hi
      exact h (by omega)
    rw [decide_eq_false this]
    by_cases h1 : 97 ≤ c
    · have h2 : ¬ c ≤ 122 := fun x => h ⟨h1, x⟩
      simp [h1, h2]
    · simp [h1]
def nmB : TL.D → Bool
  | .str s => decide (1 ≤ s.length) && (decide (s.length ≤ 5) && s.cps.toList.all low)
  | _ => false
@[simp] theorem itStr {x : Str} : items .str [.str x] = some (x.cps.toList.map sign) := rfl
@[simp] theorem oLens {x : Str} : o1 .len (.str x) = some (.int x.length) := rfl
theorem w_is_name {N : Nat} (hN : 1 ≤ N) {d : TL.D} (h : pv d = true) (st : Sto) : TL.run Pg N 0 [d] st = .ok (.bl (nmB d)) st := by
  obtain ⟨N, rfl⟩ : ∃ M, N = M + 1 := ⟨N - 1, by omega⟩
  have s0 : o1 .isStr .non = some (.bl false) := rfl
  have s1 : ∀ b, o1 .isStr (.bl b) = some (.bl false) := fun _ => rfl
  have s2 : ∀ b, o1 .isStr (.int b) = some (.bl false) := fun _ => rfl
  have s3 : ∀ b, o1 .isStr (.lst b) = some (.bl false) := fun _ => rfl
  rw [run_c (F := c_is_name) rfl rfl]
  cases d <;> first | (cases h; done) | skip
  · simp [c_is_name, enter, s0, nmB]
  · simp [c_is_name, enter, s1, nmB]
  · simp [c_is_name, enter, s2, nmB]
  · rename_i s
    have lc : ∀ ρ : TL.Env, 1 < ρ.length → lcE (TL.run Pg N) (.o2 .isIn (.var 1) (.con (.str "abcdefghijklmnopqrstuvwxyz"))) (.nm 1) [1] [] (s.cps.toList.map sign) ρ st = .ok ((s.cps.toList.map low).map .bl) st := by
      intro ρ h1
      have g1 : ∀ y, (ρ.set 1 y)[1]? = some y := fun y => by rw [List.getElem?_set_self h1]
      have dI : ∀ c, dIn (sign c) (.str "abcdefghijklmnopqrstuvwxyz") = some (.bl (low c)) := fun c => by
        rw [← letters_mem c]
        rfl
      have so : ∀ c, (sign c).own = false := fun _ => rfl
      have z := lcE_all (C := TL.run Pg N) (st := st) (ρ := ρ) (tg := .nm 1) (own := [1]) (elt := .o2 .isIn (.var 1) (.con (.str "abcdefghijklmnopqrstuvwxyz"))) (cond := []) (g := fun d => match d with | .str x => .bl (x.cps.toList.all low) | _ => .non) (xs := s.cps.toList.map sign) (fun x hx => by
        obtain ⟨c, _, rfl⟩ := List.mem_map.mp hx
        exact ⟨ρ.set 1 (some (sign c)), by simp [so], by simp, by simp [g1, so, dI]; simp [sign], rfl⟩)
      rw [z, List.map_map, List.map_map]
      congr 1
      refine List.map_congr_left fun c _ => ?_
      simp [sign]
    have al : o1 .all (.lst ((s.cps.toList.map low).map TL.D.bl)) = some (.bl (s.cps.toList.all low)) := by
      rw [oAll, List.all_map]
      rfl
    by_cases h1 : 1 ≤ s.length
    · by_cases h2 : s.length ≤ 5
      · have i1 : (1 : Int) ≤ (s.length : Int) := by omega
        have i2 : (s.length : Int) ≤ 5 := by omega
        have e : nmB (.str s) = s.cps.toList.all low := by simp [nmB, h1, h2]
        simp [-List.map_map, c_is_name, enter, lc, al, i1, i2]
        rw [e]
        simp
      · have i1 : (1 : Int) ≤ (s.length : Int) := by omega
        have i2 : ¬ (s.length : Int) ≤ 5 := by omega
        simp [-List.map_map, c_is_name, enter, nmB, lc, al, i1, i2, h2]
    · have i1 : ¬ (1 : Int) ≤ (s.length : Int) := by omega
      simp [-List.map_map, c_is_name, enter, nmB, lc, al, i1, h1]
  · simp [c_is_name, enter, nmB]
  · simp [c_is_name, enter, s3, nmB]
/-- a whole number from low to high -/
def whB (lo hi : Int) : TL.D → Bool
  | .int i => decide (lo ≤ i) && decide (i ≤ hi)
  | _ => false
theorem w_is_whole {N : Nat} (hN : 1 ≤ N) {d : TL.D} (h : pv d = true) (lo hi : Int) (st : Sto) : TL.run Pg N 1 [d, .int lo, .int hi] st = .ok (.bl (whB lo hi d)) st := by
  obtain ⟨N, rfl⟩ : ∃ M, N = M + 1 := ⟨N - 1, by omega⟩
  rw [run_c (F := c_is_whole) rfl rfl]
  have i0 : o1 .isInt .non = some (.bl false) := rfl
  have i1 : ∀ b, o1 .isInt (.bl b) = some (.bl true) := fun _ => rfl
  have i2 : ∀ b, o1 .isInt (.int b) = some (.bl true) := fun _ => rfl
  have i3 : ∀ b, o1 .isInt (.lst b) = some (.bl false) := fun _ => rfl
  have i4 : ∀ b, o1 .isInt (.tup b) = some (.bl false) := fun _ => rfl
  have i5 : ∀ b, o1 .isInt (.str b) = some (.bl false) := fun _ => rfl
  have b1 : ∀ b, o1 .isBool (.bl b) = some (.bl true) := fun _ => rfl
  have b2 : ∀ b, o1 .isBool (.int b) = some (.bl false) := fun _ => rfl
  cases d <;> first | (cases h; done) | skip
  · simp [c_is_whole, enter, i0, whB]
  · simp [c_is_whole, enter, i1, b1, whB]
  · rename_i i
    by_cases h1 : lo ≤ i
    · simp [c_is_whole, enter, i2, b2, whB, h1]
    · simp [c_is_whole, enter, i2, b2, whB, h1]
  · simp [c_is_whole, enter, i5, whB]
  · simp [c_is_whole, enter, i4, whB]
  · simp [c_is_whole, enter, i3, whB]

end TP

namespace TP
open TL
open PySem (Str PyData)
open L2 (atI)
/-- what is_task_to tells -/
def isTk : Nat → TL.D → Bool
  | 0, _ => false
  | n + 1, .tup [.str w, .tup ts] => (decide (w = "all") || decide (w = "any") || decide (w = "then")) && (decide ((if w = "then" then 2 else 1) ≤ ts.length) && decide (ts.length ≤ 3) && ts.all (isTk n))
  | n + 1, .tup [.str w, x, y] => if w = "all" ∨ w = "any" ∨ w = "then" then false else if w = "do" then nmB x && whB 1 4 y else if w = "without" then nmB x && isTk n y else decide (w = "within") && (whB 1 9 x && isTk n y)
  | _ + 1, _ => false
theorem pvs_mem : ∀ {ds : List TL.D}, pvs ds = true → ∀ d ∈ ds, pv d = true
  | d :: ds, h, x, hx => by
    unfold pvs at h
    rw [Bool.and_eq_true] at h
    rcases List.mem_cons.mp hx with rfl | hx
    · exact h.1
    · exact pvs_mem h.2 x hx
theorem pv_own {d : TL.D} (h : pv d = true) : d.own = false := by
  cases d <;> first | rfl | (cases h; done)
theorem iGs {w : Str} (hw : PyData.strOk w = true) : dIn (.str w) (.tup [.str "all", .str "any", .str "then"]) = some (.bl (decide (w = "all") || (decide (w = "any") || decide (w = "then")))) := by
  have z := inT (x := w) ["all", "any", "then"] hw
  simp at z
  rw [z]
  congr 2
  simp only [eq_comm]
theorem o1T {d : TL.D} (h : pv d = true) : o1 .isTuple d = some (.bl (match d with | .tup _ => true | _ => false)) := by
  cases d <;> first | (cases h; done) | rfl
theorem o1S {d : TL.D} (h : pv d = true) : o1 .isStr d = some (.bl (match d with | .str _ => true | _ => false)) := by
  cases d <;> first | (cases h; done) | rfl
theorem isTk_ns {n : Nat} {x : TL.D} {l : List TL.D} (h : ∀ w, x ≠ .str w) : isTk (n + 1) (.tup (x :: l)) = false := by
  unfold isTk
  split
  · simp_all
  · simp_all
  · simp_all
  · rfl
theorem w_is_task_to : ∀ (n N : Nat) {d : TL.D} (st : Sto), n + 2 ≤ N → pv d = true → TL.run Pg N 2 [d, .int n] st = .ok (.bl (isTk n d)) st := by
  intro n
  induction n with
  | zero =>
    intro N d st hN h
    obtain ⟨N, rfl⟩ : ∃ M, N = M + 1 := ⟨N - 1, by omega⟩
    rw [run_c (F := c_is_task_to) rfl rfl]
    simp [c_is_task_to, enter, isTk]
  | succ n IH =>
    intro N d st hN h
    obtain ⟨N, rfl⟩ : ∃ M, N = M + 1 := ⟨N - 1, by omega⟩
    have ho := pv_own h
    have n0 : ¬ (((n + 1 : Nat) : Int) = 0) := by omega
    have n1 : (((n + 1 : Nat) : Int) - 1) = (n : Int) := by omega
    have iT := o1T h
    rw [run_c (F := c_is_task_to) rfl rfl]
    generalize ((n + 1 : Nat) : Int) = nn at *
    cases d <;> first | (cases h; done) | skip
    · simp [c_is_task_to, enter, isTk, n0, iT]
    · simp [c_is_task_to, enter, isTk, n0, iT]
    · simp [c_is_task_to, enter, isTk, n0, iT]
    · simp [c_is_task_to, enter, isTk, n0, iT]
    · rename_i ds
      match ds, h with
      | [], _ => simp [c_is_task_to, enter, isTk, n0, iT]
      | [x], _ => simp [c_is_task_to, enter, isTk, n0, iT]
      | x :: y :: r, h =>
        have l2 : ¬ ((r.length : Int) + 1 + 1 < 2) := by omega
        have px := pvs_mem h x (List.mem_cons_self ..)
        have py := pvs_mem h y (by simp)
        have xS := o1S px
        by_cases hx : ∃ w, x = .str w
        · obtain ⟨w, rfl⟩ := hx
          have ws : PyData.strOk w = true := px
          have gg := iGs ws
          have yT := o1T py
          by_cases hw : w = "all" ∨ w = "any" ∨ w = "then"
          · have gt : dIn (.str w) (.tup [.str "all", .str "any", .str "then"]) = some (.bl true) := by
              rw [gg]
              rcases hw with rfl | rfl | rfl <;> simp
            match r with
            | z :: r' =>
              have l3 : ¬ ((r'.length : Int) + 1 + 1 + 1 = 2) := by omega
              have l3' : ¬ ((r'.length : Int) + 1 + 1 + 1 < 2) := by omega
              have e : isTk (n + 1) (.tup (.str w :: y :: z :: r')) = false := by
                cases r' with
                | nil => simp [isTk, hw]
                | cons _ _ => simp [isTk]
              rw [e]
              rcases hw with rfl | rfl | rfl <;> simp [c_is_task_to, enter, n0, iT, xS, gt, l3, l3', dEqs]
            | [] =>
              cases y <;> first | (cases py; done) | skip
              · rcases hw with rfl | rfl | rfl <;> simp [c_is_task_to, enter, n0, iT, xS, gt, dEqs, yT, isTk]
              · rcases hw with rfl | rfl | rfl <;> simp [c_is_task_to, enter, n0, iT, xS, gt, dEqs, yT, isTk]
              · rcases hw with rfl | rfl | rfl <;> simp [c_is_task_to, enter, n0, iT, xS, gt, dEqs, yT, isTk]
              · rcases hw with rfl | rfl | rfl <;> simp [c_is_task_to, enter, n0, iT, xS, gt, dEqs, yT, isTk]
              · rename_i ts
                have pt := pvs_mem (ds := ts) py
                have lc : ∀ ρ : TL.Env, ρ[1]? = some (some (.int nn)) → 3 < ρ.length → lcE (TL.run Pg N) (.call 2 [.var 3, .o2 .sub (.var 1) (.con (.int 1))]) (.nm 3) [3] [] ts ρ st = .ok ((ts.map (isTk n)).map .bl) st := by
                  intro ρ h1 h3
                  have g3 : ∀ y, (ρ.set 3 y)[3]? = some y := fun y => by rw [List.getElem?_set_self h3]
                  have z := lcE_all (C := TL.run Pg N) (st := st) (ρ := ρ) (tg := .nm 3) (own := [3]) (elt := .call 2 [.var 3, .o2 .sub (.var 1) (.con (.int 1))]) (cond := []) (g := fun s => .bl (isTk n s)) (xs := ts) fun s hs => ⟨ρ.set 3 (some s), by simp [pv_own (pt s hs)], by simp, by simp [pv_own (pt s hs), g3, h1, n1, IH N st (by omega) (pt s hs)], rfl⟩
                  rw [z, List.map_map]
                  rfl
                have al := oAll (ts.map (isTk n))
                rw [List.all_map] at al
                have al : o1 .all (.lst ((ts.map (isTk n)).map TL.D.bl)) = some (.bl (ts.all (isTk n))) := al
                have c1 : ((1 : Int) ≤ (ts.length : Int)) = (1 ≤ ts.length) := propext (by omega)
                have c2 : ((2 : Int) ≤ (ts.length : Int)) = (2 ≤ ts.length) := propext (by omega)
                have c3 : ((ts.length : Int) ≤ 3) = (ts.length ≤ 3) := propext (by omega)
                have cc : ((1 : Int) + 1) = 2 := rfl
                rcases hw with rfl | rfl | rfl
                · by_cases q1 : 1 ≤ ts.length <;> by_cases q3 : ts.length ≤ 3 <;> simp [-List.map_map, c_is_task_to, enter, n0, iT, xS, gt, dEqs, yT, isTk, lc, al, c1, c2, c3, cc, q1, q3]
                · by_cases q1 : 1 ≤ ts.length <;> by_cases q3 : ts.length ≤ 3 <;> simp [-List.map_map, c_is_task_to, enter, n0, iT, xS, gt, dEqs, yT, isTk, lc, al, c1, c2, c3, cc, q1, q3]
                · by_cases q1 : 2 ≤ ts.length <;> by_cases q3 : ts.length ≤ 3 <;> simp [-List.map_map, c_is_task_to, enter, n0, iT, xS, gt, dEqs, yT, isTk, lc, al, c1, c2, c3, cc, q1, q3]
              · rcases hw with rfl | rfl | rfl <;> simp [c_is_task_to, enter, n0, iT, xS, gt, dEqs, yT, isTk]
          · have gf : dIn (.str w) (.tup [.str "all", .str "any", .str "then"]) = some (.bl false) := by
              rw [gg]
              simp only [not_or] at hw
              simp [hw]
            match r with
            | [] =>
              have e : isTk (n + 1) (.tup [.str w, y]) = false := by
                simp only [not_or] at hw
                cases y <;> simp [isTk, hw]
              rw [e]
              simp [c_is_task_to, enter, n0, iT, xS, gf]
            | z :: z2 :: r' =>
              have l3 : ¬ ((r'.length : Int) + 1 + 1 + 1 + 1 = 3) := by omega
              have l3' : ¬ ((r'.length : Int) + 1 + 1 + 1 + 1 < 2) := by omega
              simp [c_is_task_to, enter, n0, iT, xS, gf, l3, l3', isTk]
            | [z] =>
              have pz := pvs_mem h z (by simp)
              have oy := pv_own py
              have oz := pv_own pz
              have wn := w_is_name (N := N) (by omega) py st
              have w4 := w_is_whole (N := N) (by omega) pz 1 4 st
              have w9 := w_is_whole (N := N) (by omega) py 1 9 st
              have wt := IH N (d := z) st (by omega) pz
              have e : isTk (n + 1) (.tup [.str w, y, z]) = if w = "do" then nmB y && whB 1 4 z else if w = "without" then nmB y && isTk n z else decide (w = "within") && (whB 1 9 y && isTk n z) := by
                simp [isTk, hw]
              rw [e]
              have d1 := dEqs (x := w) (y := "do") ws (strOk_of _)
              have d2 := dEqs (x := w) (y := "without") ws (strOk_of _)
              have d3 := dEqs (x := w) (y := "within") ws (strOk_of _)
              by_cases e1 : w = "do"
              · cases q : nmB y <;> simp_all [c_is_task_to, enter]
              · by_cases e2 : w = "without"
                · cases q : nmB y <;> simp_all [c_is_task_to, enter]
                · by_cases e3 : w = "within"
                  · cases q : whB 1 9 y <;> simp_all [c_is_task_to, enter]
                  · simp_all [c_is_task_to, enter]
        · have e := isTk_ns (n := n) (l := y :: r) fun w e => hx ⟨w, e⟩
          rw [e]
          have xS : o1 .isStr x = some (.bl false) := by
            rw [xS]
            cases x <;> first | rfl | (exact (hx ⟨_, rfl⟩).elim)
          simp [c_is_task_to, enter, n0, iT, l2, xS]
    · simp [c_is_task_to, enter, isTk, n0, iT]

end TP

namespace TP
open TL
open PySem (Str PyData)
open L2 (atI)
theorem w_is_task {N : Nat} (hN : 7 ≤ N) {d : TL.D} (h : pv d = true) (st : Sto) : TL.run Pg N 3 [d] st = .ok (.bl (isTk 4 d)) st := by
  obtain ⟨N, rfl⟩ : ∃ M, N = M + 1 := ⟨N - 1, by omega⟩
  rw [run_c (F := c_is_task) rfl rfl]
  have w := w_is_task_to 4 N (d := d) st (by omega) h
  have o := pv_own h
  have w : TL.run Pg N 2 [d, .int 4] st = .ok (.bl (isTk 4 d)) st := w
  simp [c_is_task, enter, o, w]
theorem okD_mem {n : Nat} {ds : List TL.D} {d : TL.D} (h : okD n (.tup ds)) (hd : d ∈ ds) : okD n d := by
  have key : ∀ (ds : List TL.D), d ∈ ds → PyData.canLayAll0 (pys ds) = true → d.py.canLay0 = true ∧ d.py.depth ≤ PyData.depthAll (pys ds) := by
    intro ds
    induction ds with
    | nil => intro hd; cases hd
    | cons x ds ih =>
      intro hd hc
      simp only [pys, PyData.canLayAll0, Bool.and_eq_true] at hc
      simp only [pys, PyData.depthAll]
      rcases List.mem_cons.mp hd with rfl | hd
      · exact ⟨hc.1, Nat.le_max_left _ _⟩
      · obtain ⟨a, b⟩ := ih hd hc.2
        exact ⟨a, Nat.le_trans b (Nat.le_max_right _ _)⟩
  obtain ⟨a, b⟩ := h
  simp only [TL.D.py, PyData.canLay0, PyData.depth] at a b
  obtain ⟨c, e⟩ := key ds hd a
  exact ⟨c, by omega⟩
theorem le_a (c : Nat) : dLe (.str "a") (sign c) = some (.bl (decide (97 ≤ c))) := by
  have e : (Str.ofString "a").cps.toList = [97] := by decide +kernel
  show some (TL.D.bl (!decide ([c] < (Str.ofString "a").cps.toList))) = _
  rw [e]
  congr 2
  by_cases h : 97 ≤ c
  · simp [h, List.cons_lt_cons_iff]
    try omega
  · simp [h, List.cons_lt_cons_iff]
    try omega
theorem le_z (c : Nat) : dLe (sign c) (.str "z") = some (.bl (decide (c ≤ 122))) := by
  have e : (Str.ofString "z").cps.toList = [122] := by decide +kernel
  show some (TL.D.bl (!decide ((Str.ofString "z").cps.toList < [c]))) = _
  rw [e]
  congr 2
  by_cases h : c ≤ 122
  · simp [h, List.cons_lt_cons_iff]
    try omega
  · simp [h, List.cons_lt_cons_iff]
    try omega
@[simp] theorem oLeD {a b : TL.D} : o2 .le a b = dLe a b := rfl
theorem dLei {i j : Int} : dLe (.int i) (.int j) = some (.bl (decide (i ≤ j))) := rfl
theorem sign_ok {s : Str} (h : PyData.strOk s = true) {c : Nat} (hc : c ∈ s.cps.toList) : okD 0 (sign c) := by
  refine okD_str 0 ?_
  unfold PyData.strOk at h ⊢
  rw [← Array.all_toList, List.all_eq_true] at h
  have := h c hc
  simpa using this
theorem nil_eq {n : Nat} {ds : List TL.D} (h : ∀ d ∈ ds, okD n d) (hn : n + 1 ≤ 64) : dEq (.lst ds) (.lst []) = some (.bl (decide (ds = []))) := by
  rw [dEq_ok (okD_lst h) (okD_lst (n := 0) (fun _ (h : _ ∈ []) => by cases h)) hn (by decide), eqv_lst_nil]
theorem all_filter {α : Type} (p : α → Bool) : ∀ l : List α, decide (l.filter (fun x => !p x) = []) = l.all p
  | [] => rfl
  | x :: l => by
    rw [List.filter_cons, List.all_cons, ← all_filter p l]
    cases p x <;> simp

end TP

namespace TP
open TL
open PySem (Str PyData)
open L2 (atI)
theorem intsOf_map' : ∀ (l : List Int), intsOf (l.map TL.D.int) = some l
  | [] => rfl
  | x :: r => by simp [intsOf, intsOf_map' r]
theorem oSum (l : List Int) : o1 .sum (.lst (l.map TL.D.int)) = some (.int l.sum) := by
  show (intsOf _).map _ = _
  rw [intsOf_map']
  rfl
/-- how many tasks -/
def szT : Nat → TL.D → Int
  | 0, _ => 0
  | n + 1, .tup [_, .tup ts] => 1 + (ts.map (szT n)).sum
  | n + 1, .tup [.str w, _, y] => if w = "do" then 1 else 1 + szT n y
  | _ + 1, _ => 0
theorem inW {w : Str} (hw : PyData.strOk w = true) : dIn (.str w) (.tup [.str "without", .str "within"]) = some (.bl (decide (w = "without") || decide (w = "within"))) := by
  have z := inT (x := w) ["without", "within"] hw
  simp at z
  rw [z]
  congr 2
  simp only [eq_comm]
/-- a task, taken apart -/
theorem isTk_cases {n : Nat} {d : TL.D} (h : isTk (n + 1) d = true) (p : pv d = true) :
    (∃ (w : String) (ts : List TL.D), (w = "all" ∨ w = "any" ∨ w = "then") ∧ (∀ t ∈ ts, isTk n t = true ∧ pv t = true) ∧ d = .tup [.str w, .tup ts]) ∨
    (∃ x y, pv x = true ∧ pv y = true ∧ d = .tup [.str "do", x, y]) ∨ ∃ (w : String) (x t : TL.D), (w = "without" ∨ w = "within") ∧ pv x = true ∧ pv t = true ∧ isTk n t = true ∧ d = .tup [.str w, x, t] := by
  unfold isTk at h
  split at h
  · cases h
  · rename_i n' w ts e
    have e : n' = n := by omega
    subst e
    simp only [Bool.and_eq_true, Bool.or_eq_true, decide_eq_true_eq, List.all_eq_true] at h
    refine .inl ?_
    have pt := pvs_mem (ds := ts) (by have := pvs_mem p (.tup ts) (by simp); exact this)
    rcases h.1 with (rfl | rfl) | rfl
    · exact ⟨"all", ts, .inl rfl, fun t ht => ⟨h.2.2 t ht, pt t ht⟩, rfl⟩
    · exact ⟨"any", ts, .inr (.inl rfl), fun t ht => ⟨h.2.2 t ht, pt t ht⟩, rfl⟩
    · exact ⟨"then", ts, .inr (.inr rfl), fun t ht => ⟨h.2.2 t ht, pt t ht⟩, rfl⟩
  · rename_i n' w x y e
    have e : n' = n := by omega
    subst e
    have px := pvs_mem p x (by simp)
    have py := pvs_mem p y (by simp)
    split at h
    · cases h
    · split at h
      · rename_i e1
        subst e1
        exact .inr (.inl ⟨x, y, px, py, rfl⟩)
      · split at h
        · rename_i e2
          subst e2
          rw [Bool.and_eq_true] at h
          exact .inr (.inr ⟨"without", x, y, .inl rfl, px, py, h.2, rfl⟩)
        · simp only [Bool.and_eq_true, decide_eq_true_eq] at h
          obtain ⟨e3, _, h3⟩ := h
          subst e3
          exact .inr (.inr ⟨"within", x, y, .inr rfl, px, py, h3, rfl⟩)
  · cases h
theorem inG' {x : String} : dIn (.str x) (.tup [.str "all", .str "any", .str "then"]) = some (.bl (decide (x = "all") || (decide (x = "any") || decide (x = "then")))) := by
  have z := iGs (w := x) (strOk_of _)
  rw [z]
  simp
theorem w_tasks_in' {N n : Nat} (hN : 1 ≤ N) {t : TL.D} (g : isTk (n + 1) t = true) (p : pv t = true) (st : Sto) : ∃ ts, TL.run Pg N 4 [t] st = .ok (.tup ts) st ∧ (∀ s ∈ ts, isTk n s = true ∧ pv s = true) ∧ szT (n + 1) t = 1 + (ts.map (szT n)).sum := by
  obtain ⟨N, rfl⟩ : ∃ M, N = M + 1 := ⟨N - 1, by omega⟩
  have cf := fun (x y z : TL.D) => cut_from [x, y, z] 2
  simp at cf
  rcases isTk_cases g p with ⟨w, ts, hw, hg, rfl⟩ | ⟨x, y, px, py, rfl⟩ | ⟨w, x, t, hw, px, pt, ht, rfl⟩
  · refine ⟨ts, ?_, hg, by simp [szT]⟩
    rw [run_c (F := c_tasks_in) rfl rfl]
    rcases hw with rfl | rfl | rfl <;> simp [c_tasks_in, enter, dEqs, inG']
  · refine ⟨[], ?_, fun _ h => (nomatch h), by simp [szT]⟩
    rw [run_c (F := c_tasks_in) rfl rfl]
    simp [c_tasks_in, enter, dEqs, inG']
  · refine ⟨[t], ?_, fun s hs => by rw [List.mem_singleton.mp hs]; exact ⟨ht, pt⟩, ?_⟩
    · rw [run_c (F := c_tasks_in) rfl rfl]
      rcases hw with rfl | rfl <;> simp [c_tasks_in, enter, dEqs, inG', cf]
    · rcases hw with rfl | rfl <;> simp [szT]
theorem w_size' : ∀ (n N : Nat) {t : TL.D} (st : Sto), n + 1 ≤ N → isTk n t = true → pv t = true → TL.run Pg N 5 [t] st = .ok (.int (szT n t)) st := by
  intro n
  induction n with
  | zero => intro N t st _ g; cases g
  | succ n IH =>
    intro N t st hN g p
    obtain ⟨N, rfl⟩ : ∃ M, N = M + 1 := ⟨N - 1, by omega⟩
    obtain ⟨ts, h1, h2, h3⟩ := w_tasks_in' (N := N) (by omega) g p st
    rw [run_c (F := c_size) rfl rfl]
    have go := pv_own p
    simp [c_size, enter, go, h1]
    rw [lcE_all (g := fun s => .int (szT n s)) (fun s hs => ⟨_, by simp [pv_own (h2 s hs).2]; rfl, by simp, by simp [pv_own (h2 s hs).2, IH N st (by omega) (h2 s hs).1 (h2 s hs).2], rfl⟩)]
    have e := oSum (ts.map (szT n))
    rw [List.map_map] at e
    have e : o1 .sum (.lst (ts.map fun s => TL.D.int (szT n s))) = some (.int (ts.map (szT n)).sum) := e
    simp [e, h3]

end TP

namespace TP
open TL
open PySem (Str PyData)
open L2 (atI)
def rS (ws : List Str) (a : Nat) : TL.D := .ins "Reader" [("words", .lst (ws.map .str)), ("at", .int (a : Int))]
theorem rS_words {st : Sto} {l a : Nat} {ws : List Str} (h : st[l]? = some (rS ws a)) : fldD st "Reader" (.ref l) "words" = some (.lst (ws.map .str)) := by
  simp [fldD, h, rS, List.lookup]
theorem rS_at {st : Sto} {l a : Nat} {ws : List Str} (h : st[l]? = some (rS ws a)) : fldD st "Reader" (.ref l) "at" = some (.int (a : Int)) := by
  have e : (Str.ofString "at" == Str.ofString "words") = false := by decide +kernel
  simp [fldD, h, rS, List.lookup, e]
theorem rS_meth {st : Sto} {l a : Nat} {ws : List Str} (h : st[l]? = some (rS ws a)) {m : Str} (h1 : m ≠ "words") (h2 : m ≠ "at") : hasM st "Reader" (.ref l) m = true := by
  have e1 : (m == ("words" : Str)) = false := by simpa using h1
  have e2 : (m == ("at" : Str)) = false := by simpa using h2
  simp [hasM, h, rS, List.lookup, e1, e2]
theorem rS_set {st : Sto} {l a b : Nat} {ws : List Str} (h : st[l]? = some (rS ws a)) : setFD st "Reader" (.ref l) "at" (.int (b : Int)) = some (st.set l (rS ws b)) := by
  simp [setFD, h, rS, putD]
theorem w_need {N : Nat} (hN : 1 ≤ N) (b : Bool) (st : Sto) : TL.run Pg N 8 [.bl b] st = if b then .ok .non st else .exc 1 st := by
  obtain ⟨M, rfl⟩ : ∃ M, N = M + 1 := ⟨N - 1, by omega⟩
  rw [run_c (F := c_need) rfl rfl]
  cases b <;> simp [c_need, enter]

theorem w_word_ok {N : Nat} (hN : 2 ≤ N) {st : Sto} {l a : Nat} {ws : List Str} (h : st[l]? = some (rS ws a)) {w : Str} (hw : ws[a]? = some w) : TL.run Pg N 17 [.ref l] st = .ok (.str w) (st.set l (rS ws (a + 1))) := by
  obtain ⟨M, rfl⟩ : ∃ M, N = M + 2 := ⟨N - 2, by omega⟩
  rw [run_c (F := c_Reader_word) rfl rfl]
  have ha : a < ws.length := (List.getElem?_eq_some_iff.mp hw).1
  have hl : l < st.length := (List.getElem?_eq_some_iff.mp h).1
  have f1 := rS_words h
  have f2 := rS_at h
  have h' : (st.set l (rS ws (a + 1)))[l]? = some (rS ws (a + 1)) := by rw [List.getElem?_set_self hl]
  have f3 := rS_words h'
  have f4 := rS_at h'
  have s1 := rS_set (b := a + 1) h
  have nd := w_need (N := M + 1) (by omega) true st
  have lt : o2 .lt (.int (a : Int)) (.int (ws.length : Int)) = some (.bl true) := by
    show some (TL.D.bl (decide ((a : Int) < (ws.length : Int)))) = _
    rw [decide_eq_true (by omega)]
  have ix : atI (ws.map TL.D.str) (a : Int) = some (.str w) := by
    rw [atI_nat (x := .str w) (by omega) (by simp [hw])]
  push_cast at s1 f4
  have sub : (a : Int) + 1 - 1 = (a : Int) := by omega
  simp at nd
  simp [c_Reader_word, enter, f1, f2, f3, f4, s1, nd, lt, ix, sub]
theorem w_word_no {N : Nat} (hN : 2 ≤ N) {st : Sto} {l a : Nat} {ws : List Str} (h : st[l]? = some (rS ws a)) (hw : ws.length ≤ a) : TL.run Pg N 17 [.ref l] st = .exc 1 st := by
  obtain ⟨M, rfl⟩ : ∃ M, N = M + 2 := ⟨N - 2, by omega⟩
  rw [run_c (F := c_Reader_word) rfl rfl]
  have f1 := rS_words h
  have f2 := rS_at h
  have nd := w_need (N := M + 1) (by omega) false st
  have lt : o2 .lt (.int (a : Int)) (.int (ws.length : Int)) = some (.bl false) := by
    show some (TL.D.bl (decide ((a : Int) < (ws.length : Int)))) = _
    rw [decide_eq_false (by omega)]
  simp at nd
  simp [c_Reader_word, enter, f1, f2, nd, lt]

def figs : Str := "0123456789"
/-- one figure -/
def figB (w : Str) : Bool := match w.cps.toList with
  | [c] => decide (48 ≤ c) && decide (c < 58)
  | _ => false
def figV (w : Str) : Int := match w.cps.toList with
  | [c] => ((c - 48 : Nat) : Int)
  | _ => 0
theorem fig_mem (c : Nat) : decide (c ∈ (Str.ofString "0123456789").cps.toList) = (decide (48 ≤ c) && decide (c < 58)) := by
  have e : (Str.ofString "0123456789").cps.toList = (List.range 10).map (48 + ·) := by decide +kernel
  rw [e]
  by_cases h : 48 ≤ c ∧ c < 58
  · have : c ∈ (List.range 10).map (48 + ·) := List.mem_map.mpr ⟨c - 48, List.mem_range.mpr (by omega), by omega⟩
    rw [decide_eq_true this, decide_eq_true h.1, decide_eq_true h.2]
    rfl
  · have : ¬ c ∈ (List.range 10).map (48 + ·) := fun m => by
      obtain ⟨i, hi, e⟩ := List.mem_map.mp m
      have := List.mem_range.mp hi
      exact h (by omega)
    rw [decide_eq_false this]
    by_cases h1 : 48 ≤ c
    · have h2 : ¬ c < 58 := fun x => h ⟨h1, x⟩
      simp [h1, h2]
    · simp [h1]
/-- number: what is asked of a word -/
theorem w_number {N : Nat} (hN : 3 ≤ N) {st : Sto} {l a : Nat} {ws : List Str} (h : st[l]? = some (rS ws a)) {w : Str} (hw : ws[a]? = some w) : TL.run Pg N 18 [.ref l] st = if figB w then .ok (.int (figV w)) (st.set l (rS ws (a + 1))) else .exc 1 (st.set l (rS ws (a + 1))) := by
  obtain ⟨M, rfl⟩ : ∃ M, N = M + 3 := ⟨N - 3, by omega⟩
  rw [run_c (F := c_Reader_number) rfl rfl]
  have wd := w_word_ok (N := M + 2) (by omega) h hw
  have hm := rS_meth h (m := "word") (by decide +kernel) (by decide +kernel)
  have n1 := w_need (N := M + 2) (by omega) true (st.set l (rS ws (a + 1)))
  have n0 := w_need (N := M + 2) (by omega) false (st.set l (rS ws (a + 1)))
  simp at n1 n0
  have ol : o1 .len (.str w) = some (.int w.cps.toList.length) := rfl
  have eq1 : ∀ i : Nat, dEq (.int (i : Int)) (.int 1) = some (.bl (decide (i = 1))) := fun i => by
    rw [dEq_ok (okD_int 0 _) (okD_int 0 _) (by decide) (by decide), eqv_int]
    congr 2
    exact decide_eq_decide.mpr (by omega)
  by_cases hl : w.cps.toList.length = 1
  · obtain ⟨c, hc⟩ := List.length_eq_one_iff.mp hl
    have di : dIn (.str w) (.str "0123456789") = some (.bl (decide (48 ≤ c) && decide (c < 58))) := by
      simp only [dIn, inD, hc, fig_mem]
      rfl
    have oi : (decide (48 ≤ c) && decide (c < 58)) = true → o1 .int (.str w) = some (.int ((c - 48 : Nat) : Int)) := fun q => by
      simp only [Bool.and_eq_true, decide_eq_true_eq] at q
      simp only [o1, hc]
      rw [if_pos q]
    unfold figB figV
    rw [hc]
    dsimp only
    by_cases q : (decide (48 ≤ c) && decide (c < 58)) = true
    · rw [if_pos q]
      rw [q] at di
      simp [c_Reader_number, enter, hm, wd, ol, eq1, hl, di, n1, oi q]
    · rw [if_neg q]
      rw [Bool.not_eq_true] at q
      rw [q] at di
      simp [c_Reader_number, enter, hm, wd, ol, eq1, hl, di, n0]
  · have : figB w = false := by
      unfold figB
      split
      · rename_i c hc
        rw [hc] at hl
        exact absurd rfl hl
      · rfl
    rw [this]
    have hl' : ¬ w.cps.size = 1 := by simpa using hl
    simp [c_Reader_number, enter, hm, wd, ol, eq1, hl', n0]
theorem w_number_no {N : Nat} (hN : 3 ≤ N) {st : Sto} {l a : Nat} {ws : List Str} (h : st[l]? = some (rS ws a)) (hw : ws.length ≤ a) : TL.run Pg N 18 [.ref l] st = .exc 1 st := by
  obtain ⟨M, rfl⟩ : ∃ M, N = M + 3 := ⟨N - 3, by omega⟩
  rw [run_c (F := c_Reader_number) rfl rfl]
  have wd := w_word_no (N := M + 2) (by omega) h hw
  have hm := rS_meth h (m := "word") (by decide +kernel) (by decide +kernel)
  simp [c_Reader_number, enter, hm, wd]

end TP

namespace TP
open TL
open PySem (Str PyData)
open L2 (atI)
def rdL (f : List Str → Option (TL.D × List Str)) : Nat → List Str → Option (List TL.D × List Str)
  | 0, _ => none
  | _ + 1, [] => none
  | k + 1, w :: r => if w = ")" then some ([], r) else match f (w :: r) with
    | some (d, r2) => (match rdL f k r2 with
      | some (ds, r3) => some (d :: ds, r3)
      | none => none)
    | none => none
def rdG (f : List Str → Option (TL.D × List Str)) : List Str → Option (List TL.D × List Str)
  | [] => none
  | b :: r => if b = "(" then rdL f (r.length + 1) r else none
def rdT : Nat → List Str → Option (TL.D × List Str)
  | 0, _ => none
  | _ + 1, [] => none
  | n + 1, w :: r =>
    if w = "all" ∨ w = "any" ∨ w = "then" then (match rdG (rdT n) r with
      | some (ds, r2) => some (.tup [.str w, .tup ds], r2)
      | none => none)
    else if w = "do" then (match r with
      | a :: k :: r1 => if figB k then some (.tup [.str w, .str a, .int (figV k)], r1) else none
      | _ => none)
    else if w = "without" then (match r with
      | a :: r1 => (match rdT n r1 with
        | some (d, r2) => some (.tup [.str w, .str a, d], r2)
        | none => none)
      | [] => none)
    else if w = "within" then (match r with
      | k :: r1 => if figB k then (match rdT n r1 with
        | some (d, r2) => some (.tup [.str w, .int (figV k), d], r2)
        | none => none) else none
      | [] => none)
    else none
/-- what task does, from a place on -/
def TaskOk (C : Cal) (t n : Nat) (ws : List Str) : Prop := ∀ (st : Sto) (l a : Nat), st[l]? = some (rS ws a) → a ≤ ws.length → match rdT n (ws.drop a) with
  | some (d, r) => ∃ a', a < a' ∧ a' ≤ ws.length ∧ ws.drop a' = r ∧ pv d = true ∧ C t [.ref l, .int n] st = .ok d (st.set l (rS ws a'))
  | none => ∃ a', C t [.ref l, .int n] st = .exc 1 (st.set l (rS ws a'))
theorem wh_t {C : Cal} {c : E} {b : List S} {n : Nat} {ρ : TL.Env} {st st1 : Sto} (h : ev C c ρ st = .ok (.bl true) st1) : whileE C c b (n + 1) ρ st = (TL.execs C b ρ st1).seq (whileE C c b n) := by
  unfold whileE
  rw [whileGo, h]
  rfl
theorem wh_f {C : Cal} {c : E} {b : List S} {n : Nat} {ρ : TL.Env} {st st1 : Sto} (h : ev C c ρ st = .ok (.bl false) st1) : whileE C c b (n + 1) ρ st = .nx ρ st1 := by
  unfold whileE
  rw [whileGo, h]
  rfl
theorem pv_own' {d : TL.D} (h : pv d = true) : d.own = false := by
  cases d <;> first | rfl | (cases h)
abbrev whC : E := .and [.o2 .lt (.fld "Reader" (.var 0) "at") (.o1 .len (.fld "Reader" (.var 0) "words")), .o2 .ne (.o2 .ix (.fld "Reader" (.var 0) "words") (.fld "Reader" (.var 0) "at")) (.con (.str ")"))]
abbrev whB' : List S := [.app 2 (.meth 20 "Reader" "task" (.var 0) [.var 1])]
theorem w_loop {C : Cal} {n : Nat} {ws : List Str} (T : TaskOk C 20 n ws) (ok : ∀ w ∈ ws, PyData.strOk w = true) (hw : ws.length < 100000) {l : Nat} : ∀ (k F a : Nat) (ds : List TL.D) (st : Sto), st[l]? = some (rS ws a) → a ≤ ws.length → ws.length - a < k → k ≤ F → ds.length + (ws.length - a) < 100000 →
    match rdL (rdT n) k (ws.drop a) with
    | some (es, r) => ∃ b, a ≤ b ∧ ws[b]? = some (")" : Str) ∧ ws.drop (b + 1) = r ∧ (∀ e ∈ es, pv e = true) ∧ whileE C whC whB' F [some (.ref l), some (.int n), some (.mlst ds)] st = .nx [some (.ref l), some (.int n), some (.mlst (ds ++ es))] (st.set l (rS ws b))
    | none => (∃ es, whileE C whC whB' F [some (.ref l), some (.int n), some (.mlst ds)] st = .nx [some (.ref l), some (.int n), some (.mlst (ds ++ es))] (st.set l (rS ws ws.length))) ∨ ∃ ρ b, whileE C whC whB' F [some (.ref l), some (.int n), some (.mlst ds)] st = .ex 1 ρ (st.set l (rS ws b)) := by
  intro k
  induction k with
  | zero => intro F a ds st _ _ h; omega
  | succ k ih =>
    intro F a ds st h ha hk hF hd
    obtain ⟨F, rfl⟩ : ∃ M, F = M + 1 := ⟨F - 1, by omega⟩
    have hl : l < st.length := (List.getElem?_eq_some_iff.mp h).1
    have f1 := rS_words h
    have f2 := rS_at h
    have self : st.set l (rS ws a) = st := by
      apply List.ext_getElem?
      intro i
      rw [List.getElem?_set]
      split
      · rename_i e
        subst e
        first | (rw [h]; done) | (simp [hl, h])
      · rfl
    by_cases hlt : a < ws.length
    · obtain ⟨w, hwa⟩ : ∃ w, ws[a]? = some w := ⟨ws[a], List.getElem?_eq_getElem hlt⟩
      have dr : ws.drop a = w :: ws.drop (a + 1) := by
        rw [List.drop_eq_getElem_cons hlt]
        rw [List.getElem?_eq_getElem hlt] at hwa
        cases hwa
        rfl
      have lt : o2 .lt (.int (a : Int)) (.int (ws.length : Int)) = some (.bl true) := by
        show some (TL.D.bl (decide ((a : Int) < (ws.length : Int)))) = _
        rw [decide_eq_true (by omega)]
      have ix : atI (ws.map TL.D.str) (a : Int) = some (.str w) := by
        rw [atI_nat (x := .str w) (by omega) (by simp [hwa])]
      have wk : PyData.strOk w = true := ok w (List.mem_of_getElem? hwa)
      have ne : dNe (.str w) (.str ")") = some (.bl (!decide (w = ")"))) := by
        rw [dNe_ok (okD_str 0 wk) (okD_str 0 (strOk_of _)) (by decide) (by decide), eqv_str]
      have cnd : ev C whC [some (.ref l), some (.int n), some (.mlst ds)] st = .ok (.bl (!decide (w = ")"))) st := by
        simp [f1, f2, lt, ix, ne]
      rw [dr]
      unfold rdL
      by_cases q : w = ")"
      · rw [if_pos q]
        refine ⟨a, Nat.le_refl _, by rw [hwa, q], rfl, (fun _ h => nomatch h), ?_⟩
        rw [wh_f (st1 := st) (by rw [cnd, q]; simp), self, List.append_nil]
      · rw [if_neg q]
        have tt := T st l a h ha
        rw [dr] at tt
        have hm := rS_meth h (m := "task") (by decide +kernel) (by decide +kernel)
        cases e : rdT n (w :: ws.drop (a + 1)) with
        | none =>
          rw [e] at tt
          obtain ⟨b, tt⟩ := tt
          refine .inr ⟨[some (.ref l), some (.int n), some (.mlst ds)], b, ?_⟩
          rw [wh_t (st1 := st) (by rw [cnd]; simp [q])]
          simp [hm, tt]
        | some p =>
          obtain ⟨d, r2⟩ := p
          rw [e] at tt
          obtain ⟨b, b1, b2, b3, b4, tt⟩ := tt
          have h2 : (st.set l (rS ws b))[l]? = some (rS ws b) := by rw [List.getElem?_set_self hl]
          have z := ih F b (ds ++ [d]) (st.set l (rS ws b)) h2 b2 (by omega) (by omega) (by rw [List.length_append, List.length_singleton]; omega)
          rw [b3] at z
          have stp : whileE C whC whB' (F + 1) [some (.ref l), some (.int n), some (.mlst ds)] st = whileE C whC whB' F [some (.ref l), some (.int n), some (.mlst (ds ++ [d]))] (st.set l (rS ws b)) := by
            have lz : ds.length < PySem.sizeLine := by unfold PySem.sizeLine; omega
            rw [wh_t (st1 := st) (by rw [cnd]; simp [q])]
            simp [hm, tt, pv_own' b4, lz]
          dsimp only
          cases e2 : rdL (rdT n) k r2 with
          | none =>
            rw [e2] at z
            dsimp only at z ⊢
            rw [stp]
            rcases z with ⟨es, z⟩ | ⟨ρ, b', z⟩
            · refine .inl ⟨d :: es, ?_⟩
              rw [z, List.set_set, List.append_assoc]
              rfl
            · refine .inr ⟨ρ, b', ?_⟩
              rw [z, List.set_set]
          | some p2 =>
            obtain ⟨es, r3⟩ := p2
            rw [e2] at z
            dsimp only at z ⊢
            obtain ⟨b', c1, c2, c3, c4, z⟩ := z
            refine ⟨b', by omega, c2, c3, fun x hx => ?_, ?_⟩
            · rcases List.mem_cons.mp hx with rfl | hx
              · exact b4
              · exact c4 x hx
            · rw [stp, z, List.set_set, List.append_assoc]
              rfl
    · have dr : ws.drop a = [] := List.drop_eq_nil_of_le (by omega)
      have lt : o2 .lt (.int (a : Int)) (.int (ws.length : Int)) = some (.bl false) := by
        show some (TL.D.bl (decide ((a : Int) < (ws.length : Int)))) = _
        rw [decide_eq_false (by omega)]
      rw [dr]
      unfold rdL
      refine .inl ⟨[], ?_⟩
      have ea : a = ws.length := by omega
      rw [← ea, self, List.append_nil]
      rw [wh_f (st1 := st) (by simp [f1, f2, lt])]

end TP

namespace TP
open TL
open PySem (Str PyData)
open L2 (atI)
theorem rdG_cons {f : List Str → Option (TL.D × List Str)} {b : Str} {r : List Str} : rdG f (b :: r) = if b = "(" then rdL f (r.length + 1) r else none := rfl
theorem set_self {st : Sto} {l : Nat} {d : TL.D} (h : st[l]? = some d) : st.set l d = st := by
  have hl : l < st.length := (List.getElem?_eq_some_iff.mp h).1
  apply List.ext_getElem?
  intro i
  rw [List.getElem?_set]
  split
  · rename_i e
    subst e
    first | (rw [h]; done) | (simp [hl, h])
  · rfl
theorem w_group {M n : Nat} {ws : List Str} (hM : 3 ≤ M) (T : TaskOk (TL.run Pg M) 20 n ws) (ok : ∀ w ∈ ws, PyData.strOk w = true) (hw : ws.length < 100000) {l a : Nat} {st : Sto} (h : st[l]? = some (rS ws a)) (ha : a ≤ ws.length) :
    match rdG (rdT n) (ws.drop a) with
    | some (es, r) => ∃ a', a < a' ∧ a' ≤ ws.length ∧ ws.drop a' = r ∧ (∀ e ∈ es, pv e = true) ∧ TL.run Pg (M + 1) 19 [.ref l, .int n] st = .ok (.tup es) (st.set l (rS ws a'))
    | none => ∃ a', TL.run Pg (M + 1) 19 [.ref l, .int n] st = .exc 1 (st.set l (rS ws a')) := by
  rw [run_c (F := c_Reader_group) rfl rfl]
  have hl : l < st.length := (List.getElem?_eq_some_iff.mp h).1
  have hm := rS_meth h (m := "word") (by decide +kernel) (by decide +kernel)
  by_cases hlt : a < ws.length
  · obtain ⟨w, hwa⟩ : ∃ w, ws[a]? = some w := ⟨ws[a], List.getElem?_eq_getElem hlt⟩
    have dr : ws.drop a = w :: ws.drop (a + 1) := by
      rw [List.drop_eq_getElem_cons hlt]
      rw [List.getElem?_eq_getElem hlt] at hwa
      cases hwa
      rfl
    have wk : PyData.strOk w = true := ok w (List.mem_of_getElem? hwa)
    have wd := w_word_ok (N := M) (by omega) h hwa
    have h1 : (st.set l (rS ws (a + 1)))[l]? = some (rS ws (a + 1)) := by rw [List.getElem?_set_self hl]
    have eq : dEq (.str w) (.str "(") = some (.bl (decide (w = "("))) := by
      rw [dEq_ok (okD_str 0 wk) (okD_str 0 (strOk_of _)) (by decide) (by decide), eqv_str]
    have n1 := w_need (N := M) (by omega) true (st.set l (rS ws (a + 1)))
    have n0 := w_need (N := M) (by omega) false (st.set l (rS ws (a + 1)))
    simp at n1 n0
    rw [dr, rdG_cons]
    by_cases q : w = "("
    · rw [if_pos q]
      subst q
      have eq' : dEq (.str ("(" : Str)) (.str "(") = some (.bl true) := by rw [eq]; simp
      have z := w_loop T ok hw (l := l) ((ws.drop (a + 1)).length + 1) FU (a + 1) [] (st.set l (rS ws (a + 1))) h1 (by omega) (by rw [List.length_drop]; omega) (by rw [List.length_drop]; unfold FU; omega) (by simp; omega)
      cases e : rdL (rdT n) ((ws.drop (a + 1)).length + 1) (ws.drop (a + 1)) with
      | none =>
        rw [e] at z
        dsimp only at z ⊢
        rcases z with ⟨es, z⟩ | ⟨ρ, b, z⟩
        · rw [List.set_set] at z
          try simp only [List.nil_append] at z
          have h2 : (st.set l (rS ws ws.length))[l]? = some (rS ws ws.length) := by rw [List.getElem?_set_self hl]
          have hm2 := rS_meth h2 (m := "word") (by decide +kernel) (by decide +kernel)
          have wn := w_word_no (N := M) (by omega) h2 (Nat.le_refl _)
          refine ⟨ws.length, ?_⟩
          simp [c_Reader_group, enter, hm, wd, eq', n1, z, hm2, wn]
        · rw [List.set_set] at z
          try simp only [List.nil_append] at z
          refine ⟨b, ?_⟩
          simp [c_Reader_group, enter, hm, wd, eq', n1, z]
      | some p =>
        obtain ⟨es, r⟩ := p
        rw [e] at z
        dsimp only at z ⊢
        obtain ⟨b, c1, c2, c3, c4, z⟩ := z
        rw [List.set_set] at z
        simp only [List.nil_append] at z
        have hb : b < ws.length := (List.getElem?_eq_some_iff.mp c2).1
        have h2 : (st.set l (rS ws b))[l]? = some (rS ws b) := by rw [List.getElem?_set_self hl]
        have hm2 := rS_meth h2 (m := "word") (by decide +kernel) (by decide +kernel)
        have wn := w_word_ok (N := M) (by omega) h2 c2
        rw [List.set_set] at wn
        refine ⟨b + 1, by omega, by omega, c3, c4, ?_⟩
        simp [c_Reader_group, enter, hm, wd, eq', n1, z, hm2, wn]
    · rw [if_neg q]
      refine ⟨a + 1, ?_⟩
      simp [c_Reader_group, enter, hm, wd, eq, q, n0]
  · have dr : ws.drop a = [] := List.drop_eq_nil_of_le (by omega)
    have wn := w_word_no (N := M) (by omega) h (by omega)
    rw [dr]
    unfold rdG
    refine ⟨a, ?_⟩
    rw [set_self h]
    simp [c_Reader_group, enter, hm, wn]

end TP

namespace TP
open TL
open PySem (Str PyData)
open L2 (atI)
theorem inGs {w : Str} (wk : PyData.strOk w = true) : dIn (.str w) (.tup [.str "all", .str "any", .str "then"]) = some (.bl (decide (w = "all" ∨ w = "any" ∨ w = "then"))) := by
  have z := inT (x := w) ["all", "any", "then"] wk
  simp at z
  rw [z]
  congr 2
  simp only [eq_comm (b := w), Bool.decide_or]
theorem dEqS {w : Str} (wk : PyData.strOk w = true) (s : String) : dEq (.str w) (.str s) = some (.bl (decide (w = Str.ofString s))) := by
  rw [dEq_ok (okD_str 0 wk) (okD_str 0 (strOk_of _)) (by decide) (by decide), eqv_str]
theorem taskOk {ws : List Str} (ok : ∀ w ∈ ws, PyData.strOk w = true) (hw : ws.length < 100000) : ∀ (n M : Nat), 2 * n + 5 ≤ M → TaskOk (TL.run Pg M) 20 n ws := by
  intro n
  induction n with
  | zero =>
    intro M hM st l a h ha
    obtain ⟨M, rfl⟩ : ∃ K, M = K + 1 := ⟨M - 1, by omega⟩
    show ∃ a', _
    refine ⟨a, ?_⟩
    rw [run_c (F := c_Reader_task) rfl rfl, set_self h]
    have n0 := w_need (N := M) (by omega) false st
    have gt : o2 .gt (.int 0) (.int 0) = some (.bl false) := rfl
    simp at n0
    simp [c_Reader_task, enter, gt, n0]
  | succ n ih =>
    intro M hM st l a h ha
    obtain ⟨M, rfl⟩ : ∃ K, M = K + 2 := ⟨M - 2, by omega⟩
    rw [run_c (F := c_Reader_task) rfl rfl]
    have T := ih M (by omega)
    have T1 := ih (M + 1) (by omega)
    have hl : l < st.length := (List.getElem?_eq_some_iff.mp h).1
    have hm := rS_meth h (m := "word") (by decide +kernel) (by decide +kernel)
    have n1 := w_need (N := M + 1) (by omega) true st
    simp at n1
    have gt : o2 .gt (.int ((n : Int) + 1)) (.int 0) = some (.bl true) := by
      show some (TL.D.bl (decide ((0 : Int) < (n : Int) + 1))) = _
      rw [decide_eq_true (by omega)]
    have sb : ((n : Int) + 1 - 1) = (n : Int) := by omega
    by_cases hlt : a < ws.length
    · obtain ⟨w, hwa⟩ : ∃ w, ws[a]? = some w := ⟨ws[a], List.getElem?_eq_getElem hlt⟩
      have dr : ws.drop a = w :: ws.drop (a + 1) := by
        rw [List.drop_eq_getElem_cons hlt]
        rw [List.getElem?_eq_getElem hlt] at hwa
        cases hwa
        rfl
      have wk : PyData.strOk w = true := ok w (List.mem_of_getElem? hwa)
      have wd := w_word_ok (N := M + 1) (by omega) h hwa
      have h1 : (st.set l (rS ws (a + 1)))[l]? = some (rS ws (a + 1)) := by rw [List.getElem?_set_self hl]
      have hm1 := rS_meth h1 (m := "group") (by decide +kernel) (by decide +kernel)
      have ig := inGs wk
      rw [dr]
      unfold rdT
      by_cases q : w = "all" ∨ w = "any" ∨ w = "then"
      · rw [if_pos q]
        rw [decide_eq_true q] at ig
        have z := w_group (by omega) T ok hw h1 (by omega)
        cases e : rdG (rdT n) (ws.drop (a + 1)) with
        | none =>
          rw [e] at z
          obtain ⟨b, z⟩ := z
          rw [List.set_set] at z
          refine ⟨b, ?_⟩
          simp [c_Reader_task, enter, gt, n1, hm, wd, ig, hm1, sb, z]
        | some p =>
          obtain ⟨es, r⟩ := p
          rw [e] at z
          obtain ⟨b, b1, b2, b3, b4, z⟩ := z
          rw [List.set_set] at z
          refine ⟨b, by omega, b2, b3, ?_, ?_⟩
          · have : pvs es = true := by
              clear e z
              induction es with
              | nil => rfl
              | cons x es ihh => rw [pvs, b4 x List.mem_cons_self, ihh fun y hy => b4 y (List.mem_cons_of_mem _ hy)]; rfl
            simp [pv, pvs, wk, this]
          · simp [c_Reader_task, enter, gt, n1, hm, wd, ig, hm1, sb, z]
      · rw [if_neg q]
        rw [decide_eq_false q] at ig
        have d1 := dEqS wk "do"
        have d2 := dEqS wk "without"
        have d3 := dEqS wk "within"
        have hmw := rS_meth h1 (m := "word") (by decide +kernel) (by decide +kernel)
        have hmn := rS_meth h1 (m := "number") (by decide +kernel) (by decide +kernel)
        have m1 := w_need (N := M + 1) (by omega) true (st.set l (rS ws (a + 1)))
        have m0 := w_need (N := M + 1) (by omega) false (st.set l (rS ws (a + 1)))
        simp at m1 m0
        have nx : ∀ c, c < ws.length → ∃ w, ws[c]? = some w ∧ ws.drop c = w :: ws.drop (c + 1) ∧ PyData.strOk w = true := fun c hc => by
          refine ⟨ws[c], List.getElem?_eq_getElem hc, by rw [List.drop_eq_getElem_cons hc], ok _ (List.getElem_mem hc)⟩
        by_cases k1 : w = "do"
        · rw [if_pos k1]
          rw [decide_eq_true k1] at d1
          by_cases hb : a + 1 < ws.length
          · obtain ⟨w2, g1, g2, g3⟩ := nx (a + 1) hb
            have wd2 := w_word_ok (N := M + 1) (by omega) h1 g1
            rw [List.set_set] at wd2
            have h2 : (st.set l (rS ws (a + 1 + 1)))[l]? = some (rS ws (a + 1 + 1)) := by rw [List.getElem?_set_self hl]
            have hm2 := rS_meth h2 (m := "number") (by decide +kernel) (by decide +kernel)
            rw [g2]
            by_cases hc : a + 1 + 1 < ws.length
            · obtain ⟨w3, e1, e2, e3⟩ := nx (a + 1 + 1) hc
              have nb := w_number (N := M + 1) (by omega) h2 e1
              rw [List.set_set] at nb
              rw [e2]
              dsimp only
              by_cases f : figB w3 = true
              · rw [if_pos f]
                rw [if_pos f] at nb
                refine ⟨a + 1 + 1 + 1, by omega, by omega, rfl, by simp [pv, pvs, wk, g3], ?_⟩
                simp [c_Reader_task, enter, gt, n1, hm, wd, ig, d1, hmw, wd2, hm2, nb]
              · rw [if_neg f]
                rw [if_neg f] at nb
                refine ⟨a + 1 + 1 + 1, ?_⟩
                simp [c_Reader_task, enter, gt, n1, hm, wd, ig, d1, hmw, wd2, hm2, nb]
            · have e2 : ws.drop (a + 1 + 1) = [] := List.drop_eq_nil_of_le (by omega)
              have nb := w_number_no (N := M + 1) (by omega) h2 (by omega)
              rw [e2]
              refine ⟨a + 1 + 1, ?_⟩
              simp [c_Reader_task, enter, gt, n1, hm, wd, ig, d1, hmw, wd2, hm2, nb]
          · have g2 : ws.drop (a + 1) = [] := List.drop_eq_nil_of_le (by omega)
            have wd2 := w_word_no (N := M + 1) (by omega) h1 (by omega)
            rw [g2]
            refine ⟨a + 1, ?_⟩
            simp [c_Reader_task, enter, gt, n1, hm, wd, ig, d1, hmw, wd2]
        · rw [if_neg k1]
          rw [decide_eq_false k1] at d1
          by_cases k2 : w = "without"
          · rw [if_pos k2]
            rw [decide_eq_true k2] at d2
            by_cases hb : a + 1 < ws.length
            · obtain ⟨w2, g1, g2, g3⟩ := nx (a + 1) hb
              have wd2 := w_word_ok (N := M + 1) (by omega) h1 g1
              rw [List.set_set] at wd2
              have h2 : (st.set l (rS ws (a + 1 + 1)))[l]? = some (rS ws (a + 1 + 1)) := by rw [List.getElem?_set_self hl]
              have hm2 := rS_meth h2 (m := "task") (by decide +kernel) (by decide +kernel)
              have z := T1 _ l _ h2 (by omega)
              rw [g2]
              dsimp only
              cases e : rdT n (ws.drop (a + 1 + 1)) with
              | none =>
                rw [e] at z
                obtain ⟨b, z⟩ := z
                rw [List.set_set] at z
                refine ⟨b, ?_⟩
                simp [c_Reader_task, enter, gt, n1, hm, wd, ig, d1, d2, hmw, wd2, hm2, sb, z]
              | some p =>
                obtain ⟨d, r⟩ := p
                rw [e] at z
                obtain ⟨b, b1, b2, b3, b4, z⟩ := z
                rw [List.set_set] at z
                refine ⟨b, by omega, b2, b3, by simp [pv, pvs, wk, g3, b4], ?_⟩
                simp [c_Reader_task, enter, gt, n1, hm, wd, ig, d1, d2, hmw, wd2, hm2, sb, z]
            · have g2 : ws.drop (a + 1) = [] := List.drop_eq_nil_of_le (by omega)
              have wd2 := w_word_no (N := M + 1) (by omega) h1 (by omega)
              rw [g2]
              refine ⟨a + 1, ?_⟩
              simp [c_Reader_task, enter, gt, n1, hm, wd, ig, d1, d2, hmw, wd2]
          · rw [if_neg k2]
            rw [decide_eq_false k2] at d2
            by_cases k3 : w = "within"
            · rw [if_pos k3]
              rw [decide_eq_true k3] at d3
              by_cases hb : a + 1 < ws.length
              · obtain ⟨w2, g1, g2, g3⟩ := nx (a + 1) hb
                have nb := w_number (N := M + 1) (by omega) h1 g1
                rw [List.set_set] at nb
                have h2 : (st.set l (rS ws (a + 1 + 1)))[l]? = some (rS ws (a + 1 + 1)) := by rw [List.getElem?_set_self hl]
                have hm2 := rS_meth h2 (m := "task") (by decide +kernel) (by decide +kernel)
                have z := T1 _ l _ h2 (by omega)
                rw [g2]
                dsimp only
                by_cases f : figB w2 = true
                · rw [if_pos f]
                  rw [if_pos f] at nb
                  cases e : rdT n (ws.drop (a + 1 + 1)) with
                  | none =>
                    rw [e] at z
                    obtain ⟨b, z⟩ := z
                    rw [List.set_set] at z
                    refine ⟨b, ?_⟩
                    simp [c_Reader_task, enter, gt, n1, hm, wd, ig, d1, d2, d3, m1, hmn, nb, hm2, sb, z]
                  | some p =>
                    obtain ⟨d, r⟩ := p
                    rw [e] at z
                    obtain ⟨b, b1, b2, b3, b4, z⟩ := z
                    rw [List.set_set] at z
                    refine ⟨b, by omega, b2, b3, by simp [pv, pvs, wk, b4], ?_⟩
                    simp [c_Reader_task, enter, gt, n1, hm, wd, ig, d1, d2, d3, m1, hmn, nb, hm2, sb, z]
                · rw [if_neg f]
                  rw [if_neg f] at nb
                  refine ⟨a + 1 + 1, ?_⟩
                  simp [c_Reader_task, enter, gt, n1, hm, wd, ig, d1, d2, d3, m1, hmn, nb]
              · have g2 : ws.drop (a + 1) = [] := List.drop_eq_nil_of_le (by omega)
                have nb := w_number_no (N := M + 1) (by omega) h1 (by omega)
                rw [g2]
                refine ⟨a + 1, ?_⟩
                simp [c_Reader_task, enter, gt, n1, hm, wd, ig, d1, d2, d3, m1, hmn, nb]
            · rw [if_neg k3]
              rw [decide_eq_false k3] at d3
              refine ⟨a + 1, ?_⟩
              simp [c_Reader_task, enter, gt, n1, hm, wd, ig, d1, d2, d3, m0]
    · have dr : ws.drop a = [] := List.drop_eq_nil_of_le (by omega)
      have wn := w_word_no (N := M + 1) (by omega) h (by omega)
      rw [dr]
      refine ⟨a, ?_⟩
      rw [set_self h]
      simp [c_Reader_task, enter, gt, n1, hm, wn]

end TP

namespace TP
open TL
open PySem (Str PyData)
open L2 (atI)
def txtD : TL.D → Str
  | .str s => s
  | .int k => (toString k : String)
  | _ => ""
def wdsT : Nat → TL.D → List Str
  | 0, _ => []
  | n + 1, .tup [.str w, .tup ts] => w :: "(" :: ((ts.map (wdsT n)).flatten ++ [(")" : Str)])
  | n + 1, .tup [.str w, x, y] => if w = "do" then [w, txtD x, txtD y] else w :: txtD x :: wdsT n y
  | _ + 1, _ => []
theorem fig_k : ∀ k : Fin 10, figB ((toString ((k.val : Nat) : Int) : String) : Str) = true ∧ figV ((toString ((k.val : Nat) : Int) : String) : Str) = ((k.val : Nat) : Int) := by decide +kernel
theorem fig_i {k : Int} (h0 : 0 ≤ k) (h1 : k < 10) : figB ((toString k : String) : Str) = true ∧ figV ((toString k : String) : Str) = k := by
  have z := fig_k ⟨k.toNat, by omega⟩
  have e : ((k.toNat : Nat) : Int) = k := by omega
  dsimp only at z
  rw [e] at z
  exact z
theorem isTk_shape {n : Nat} {d : TL.D} (h : isTk (n + 1) d = true) :
    (∃ (w : Str) (ts : List TL.D), (w = "all" ∨ w = "any" ∨ w = "then") ∧ (∀ t ∈ ts, isTk n t = true) ∧ ts.length ≤ 3 ∧ d = .tup [.str w, .tup ts]) ∨
    (∃ (a : Str) (k : Int), nmB (.str a) = true ∧ 1 ≤ k ∧ k ≤ 4 ∧ d = .tup [.str "do", .str a, .int k]) ∨
    (∃ (a : Str) (t : TL.D), nmB (.str a) = true ∧ isTk n t = true ∧ d = .tup [.str "without", .str a, t]) ∨
    ∃ (k : Int) (t : TL.D), 1 ≤ k ∧ k ≤ 9 ∧ isTk n t = true ∧ d = .tup [.str "within", .int k, t] := by
  have nm : ∀ x : TL.D, nmB x = true → ∃ a, x = .str a := fun x hx => by
    cases x <;> first | (simp [nmB] at hx; done) | exact ⟨_, rfl⟩
  have wh : ∀ (hi : Int) (x : TL.D), whB 1 hi x = true → ∃ k, x = .int k ∧ 1 ≤ k ∧ k ≤ hi := fun hi x hx => by
    cases x <;> first | (simp [whB] at hx; done) | skip
    simp [whB] at hx
    exact ⟨_, rfl, hx.1, hx.2⟩
  unfold isTk at h
  split at h
  · cases h
  · rename_i n' w ts e
    have e : n' = n := by omega
    subst e
    simp only [Bool.and_eq_true, Bool.or_eq_true, decide_eq_true_eq, List.all_eq_true] at h
    obtain ⟨h1, ⟨h2, h3⟩, h4⟩ := h
    refine .inl ⟨_, _, ?_, h4, h3, rfl⟩
    rcases h1 with (h | h) | h
    · exact .inl h
    · exact .inr (.inl h)
    · exact .inr (.inr h)
  · rename_i n' w x y e
    have e : n' = n := by omega
    subst e
    split at h
    · cases h
    · split at h
      · rename_i q
        rw [Bool.and_eq_true] at h
        obtain ⟨a, rfl⟩ := nm _ h.1
        obtain ⟨k, rfl, k1, k2⟩ := wh 4 _ h.2
        exact .inr (.inl ⟨a, k, h.1, k1, k2, by rw [q]⟩)
      · split at h
        · rename_i q
          rw [Bool.and_eq_true] at h
          obtain ⟨a, rfl⟩ := nm _ h.1
          exact .inr (.inr (.inl ⟨a, _, h.1, h.2, by rw [q]⟩))
        · simp only [Bool.and_eq_true, decide_eq_true_eq] at h
          obtain ⟨k, rfl, k1, k2⟩ := wh 9 _ h.2.1
          exact .inr (.inr (.inr ⟨k, _, k1, k2, h.2.2, by rw [h.1]⟩))
  · cases h

end TP

namespace TP
open TL
open PySem (Str PyData)
open L2 (atI)
theorem wdsT_head : ∀ {n : Nat} {t : TL.D}, isTk n t = true → ∃ w r, wdsT n t = w :: r ∧ w ≠ (")" : Str)
  | 0, _, h => by cases h
  | n + 1, t, h => by
    rcases isTk_shape h with ⟨w, ts, hw, _, _, rfl⟩ | ⟨a, k, _, _, _, rfl⟩ | ⟨a, t, _, _, rfl⟩ | ⟨k, t, _, _, _, rfl⟩
    · refine ⟨w, _, by rw [wdsT], ?_⟩
      rcases hw with rfl | rfl | rfl <;> decide +kernel
    · exact ⟨"do", [a, (toString k : String)], by simp [wdsT, txtD], by decide +kernel⟩
    · exact ⟨"without", a :: wdsT n t, by simp [wdsT, txtD], by decide +kernel⟩
    · exact ⟨"within", (toString k : String) :: wdsT n t, by simp [wdsT, txtD], by decide +kernel⟩
theorem rdL_wds {n : Nat} (R : ∀ t r, isTk n t = true → rdT n (wdsT n t ++ r) = some (t, r)) (r : List Str) : ∀ (ts : List TL.D) (k : Nat), (∀ t ∈ ts, isTk n t = true) → ts.length < k → rdL (rdT n) k ((ts.map (wdsT n)).flatten ++ (")" : Str) :: r) = some (ts, r)
  | [], k + 1, _, _ => by
    simp [rdL]
  | t :: ts, k + 1, h, hk => by
    obtain ⟨w, x, e, hw⟩ := wdsT_head (h t List.mem_cons_self)
    have z := R t ((ts.map (wdsT n)).flatten ++ (")" : Str) :: r) (h t List.mem_cons_self)
    have y := rdL_wds R r ts k (fun t ht => h t (List.mem_cons_of_mem _ ht)) (by rw [List.length_cons] at hk; omega)
    rw [List.map_cons, List.flatten_cons, List.append_assoc]
    rw [e] at z ⊢
    rw [List.cons_append] at z ⊢
    rw [rdL, if_neg hw, z]
    dsimp only
    rw [y]
theorem len_wds {n : Nat} : ∀ (ts : List TL.D), (∀ t ∈ ts, isTk n t = true) → ts.length ≤ (ts.map (wdsT n)).flatten.length
  | [], _ => Nat.zero_le _
  | t :: ts, h => by
    obtain ⟨w, x, e, hw⟩ := wdsT_head (h t List.mem_cons_self)
    have y := len_wds ts fun t ht => h t (List.mem_cons_of_mem _ ht)
    rw [List.map_cons, List.flatten_cons, List.length_append, e, List.length_cons, List.length_cons]
    omega
/-- THE READ-BACK -/
theorem rdT_wds : ∀ (n : Nat) (t : TL.D) (r : List Str), isTk n t = true → rdT n (wdsT n t ++ r) = some (t, r)
  | 0, _, _, h => by cases h
  | n + 1, t, r, h => by
    rcases isTk_shape h with ⟨w, ts, hw, ht, _, rfl⟩ | ⟨a, k, _, k1, k2, rfl⟩ | ⟨a, t, _, ht, rfl⟩ | ⟨k, t, k1, k2, ht, rfl⟩
    · rw [wdsT, List.cons_append, List.cons_append]
      unfold rdT
      rw [if_pos hw, rdG_cons, if_pos rfl, List.append_assoc]
      show (match rdL (rdT n) _ ((ts.map (wdsT n)).flatten ++ (")" : Str) :: r) with | some (ds, r2) => some (TL.D.tup [.str w, .tup ds], r2) | none => none) = _
      rw [rdL_wds (fun t r h => rdT_wds n t r h) r ts _ ht (by have := len_wds ts ht; rw [List.length_append]; omega)]
    · have f := fig_i (k := k) (by omega) (by omega)
      simp at f
      simp [wdsT, txtD, rdT, f.1, f.2]
    · have z := rdT_wds n t r ht
      simp [wdsT, txtD, rdT, z]
    · have f := fig_i (k := k) (by omega) (by omega)
      simp at f
      have z := rdT_wds n t r ht
      simp [wdsT, txtD, rdT, f.1, f.2, z]

end TP

namespace TP
open TL
open PySem (Str PyData)
open L2 (atI)
theorem wds_len : ∀ {n : Nat} {t : TL.D}, isTk n t = true → (wdsT n t).length ≤ 6 ^ n
  | 0, _, h => by cases h
  | n + 1, t, h => by
    have p1 : 1 ≤ 6 ^ n := Nat.one_le_pow _ _ (by decide)
    have key : ∀ ts : List TL.D, (∀ t ∈ ts, isTk n t = true) → (ts.map (wdsT n)).flatten.length ≤ ts.length * 6 ^ n := by
      intro ts
      induction ts with
      | nil => intro _; simp
      | cons t ts ih =>
        intro h
        have a := wds_len (h t List.mem_cons_self)
        have b := ih fun t ht => h t (List.mem_cons_of_mem _ ht)
        rw [List.map_cons, List.flatten_cons, List.length_append, List.length_cons, Nat.add_mul]
        omega
    rw [Nat.pow_succ]
    rcases isTk_shape h with ⟨w, ts, hw, ht, hl, rfl⟩ | ⟨a, k, _, k1, k2, rfl⟩ | ⟨a, t, _, ht, rfl⟩ | ⟨k, t, k1, k2, ht, rfl⟩
    · have a := key ts ht
      have b : ts.length * 6 ^ n ≤ 3 * 6 ^ n := Nat.mul_le_mul_right _ hl
      rw [wdsT, List.length_cons, List.length_cons, List.length_append, List.length_singleton]
      omega
    · simp [wdsT, txtD]
      omega
    · have a := wds_len ht
      simp [wdsT, txtD]
      omega
    · have a := wds_len ht
      simp [wdsT, txtD]
      omega
theorem w_tin_g {N : Nat} (hN : 1 ≤ N) {w : Str} (hw : w = "all" ∨ w = "any" ∨ w = "then") (ts : List TL.D) (st : Sto) : TL.run Pg N 4 [.tup [.str w, .tup ts]] st = .ok (.tup ts) st := by
  obtain ⟨N, rfl⟩ : ∃ M, N = M + 1 := ⟨N - 1, by omega⟩
  rw [run_c (F := c_tasks_in) rfl rfl]
  have wk : PyData.strOk w = true := by rcases hw with rfl | rfl | rfl <;> exact strOk_of _
  have ig := inGs wk
  rw [decide_eq_true hw] at ig
  simp [c_tasks_in, enter, ig]
theorem w_tin_1 {N : Nat} (hN : 1 ≤ N) {w : Str} (hw : w = "without" ∨ w = "within") (x t : TL.D) (st : Sto) : TL.run Pg N 4 [.tup [.str w, x, t]] st = .ok (.tup [t]) st := by
  obtain ⟨N, rfl⟩ : ∃ M, N = M + 1 := ⟨N - 1, by omega⟩
  rw [run_c (F := c_tasks_in) rfl rfl]
  have wk : PyData.strOk w = true := by rcases hw with rfl | rfl <;> exact strOk_of _
  have ig := inGs wk
  have d1 := dEqS wk "do"
  have n1 : ¬ (w = "all" ∨ w = "any" ∨ w = "then") := by rcases hw with rfl | rfl <;> decide +kernel
  have n2 : ¬ w = ("do" : Str) := by rcases hw with rfl | rfl <;> decide +kernel
  rw [decide_eq_false n1] at ig
  rw [decide_eq_false n2] at d1
  have ct : dCut (.tup [.str w, x, t]) (some 2) none = some (.tup [t]) := rfl
  simp [c_tasks_in, enter, ig, d1, ct]

end TP

namespace TP
open TL
open PySem (Str PyData)
open L2 (atI)
theorem oStrK {k : Int} (h0 : 0 ≤ k) (h1 : k < 10) : o1 .str (.int k) = some (.str (toString k : String)) := by
  have : ∀ j : Fin 10, o1 .str (.int ((j.val : Nat) : Int)) = some (.str (toString ((j.val : Nat) : Int) : String)) := fun j => by
    show (if _ then _ else _) = _
    rw [if_pos (by revert j; decide +kernel)]
  have z := this ⟨k.toNat, by omega⟩
  have e : ((k.toNat : Nat) : Int) = k := by omega
  dsimp only at z
  rw [e] at z
  exact z
theorem dAddL {a b : List TL.D} (h : a.length + b.length ≤ PySem.sizeLine) : o2 .add (.lst a) (.lst b) = some (.lst (a ++ b)) := by
  show (if _ then _ else _) = _
  rw [if_pos h]
theorem w_task_words : ∀ (n N : Nat) {t : TL.D} (st : Sto), n ≤ 7 → n + 2 ≤ N → isTk n t = true → pv t = true → TL.run Pg N 6 [t] st = .ok (.lst ((wdsT n t).map .str)) st
  | 0, _, _, _, _, _, h, _ => by cases h
  | n + 1, N, t, st, hn, hN, h, p => by
    obtain ⟨N, rfl⟩ : ∃ M, N = M + 1 := ⟨N - 1, by omega⟩
    rw [run_c (F := c_task_words) rfl rfl]
    have bnd : 6 ^ n ≤ 6 ^ 6 := Nat.pow_le_pow_right (by decide) (by omega)
    have loop : ∀ (ts : List TL.D) (t0 : TL.D) (ds : List Str) (x : Option TL.D), (∀ t ∈ ts, isTk n t = true ∧ pv t = true) → ds.length + (ts.map (wdsT n)).flatten.length ≤ PySem.sizeLine →
        ∃ x', forE (TL.run Pg N) (.nm 2) [.ext 1 (.call 6 [.var 2])] ts [some t0, some (.mlst (ds.map .str)), x] st = .nx [some t0, some (.mlst ((ds ++ (ts.map (wdsT n)).flatten).map .str)), x'] st := by
      intro ts
      induction ts with
      | nil =>
        intro t0 ds x _ _
        exact ⟨x, by simp [forE, forGo]⟩
      | cons t ts ih =>
        intro t0 ds x h hl
        obtain ⟨h1, h2⟩ := h t List.mem_cons_self
        rw [List.map_cons, List.flatten_cons, List.length_append] at hl
        have w := w_task_words n N st (by omega) (by omega) h1 h2
        obtain ⟨x', z⟩ := ih t0 (ds ++ wdsT n t) (some t) (fun t ht => h t (List.mem_cons_of_mem _ ht)) (by rw [List.length_append]; omega)
        refine ⟨x', ?_⟩
        have lz : ds.length + (wdsT n t).length ≤ PySem.sizeLine := by omega
        rw [forE_c]
        simp [k_ForS, pv_own h2, w, lz]
        rw [show ((ds ++ wdsT n t).map TL.D.str) = ds.map TL.D.str ++ (wdsT n t).map TL.D.str from List.map_append] at z
        rw [z]
        simp
    rcases isTk_shape h with ⟨w, ts, hw, ht, hl, rfl⟩ | ⟨a, k, _, k1, k2, rfl⟩ | ⟨a, t, _, ht, rfl⟩ | ⟨k, t, k1, k2, ht, rfl⟩
    · have wk : PyData.strOk w = true := by rcases hw with rfl | rfl | rfl <;> exact strOk_of _
      have ig := inGs wk
      rw [decide_eq_true hw] at ig
      have d1 := dEqS wk "do"
      have n2 : ¬ w = ("do" : Str) := by rcases hw with rfl | rfl | rfl <;> decide +kernel
      rw [decide_eq_false n2] at d1
      have tin := w_tin_g (N := N) (by omega) hw ts st
      have pt : ∀ t ∈ ts, pv t = true := pvs_mem (by have := pvs_mem p (.tup ts) (by simp); exact this)
      have fl : (ts.map (wdsT n)).flatten.length + 3 ≤ 6 ^ 7 := by
        have := wds_len h
        rw [wdsT, List.length_cons, List.length_cons, List.length_append, List.length_singleton] at this
        have b2 : 6 ^ (n + 1) ≤ 6 ^ 7 := Nat.pow_le_pow_right (by decide) (by omega)
        omega
      have sz : 6 ^ 7 ≤ PySem.sizeLine := by decide
      obtain ⟨x', z⟩ := loop ts (.tup [.str w, .tup ts]) [] none (fun t h => ⟨ht t h, pt t h⟩) (by simp only [List.length_nil]; omega)
      simp only [List.map_nil, List.nil_append] at z
      have a1 : ∀ l : List TL.D, l.length = (ts.map (wdsT n)).flatten.length → o2 .add (.lst [.str w, .str "("]) (.lst l) = some (.lst ([.str w, .str "("] ++ l)) := fun l e => by
        exact dAddL (by simp only [List.length_cons, List.length_nil]; omega)
      have a2 : ∀ l : List TL.D, l.length = (ts.map (wdsT n)).flatten.length → o2 .add (.lst ([.str w, .str "("] ++ l)) (.lst [.str ")"]) = some (.lst ([.str w, .str "("] ++ l ++ [.str ")"])) := fun l e => by
        exact dAddL (by simp only [List.length_cons, List.length_nil, List.length_append]; omega)
      have b1 := a1 ((ts.map (wdsT n)).flatten.map TL.D.str) (List.length_map ..)
      have b2 := a2 ((ts.map (wdsT n)).flatten.map TL.D.str) (List.length_map ..)
      generalize hL : (ts.map (wdsT n)).flatten = L at *
      rw [wdsT, hL]
      simp only [List.cons_append, List.nil_append] at b1 b2
      simp [c_task_words, enter, d1, tin, z, ig, b1, b2]
    · have d1 := dEqS (strOk_of "do") "do"
      have st1 := oStrK (k := k) (by omega) (by omega)
      simp at d1 st1
      simp [c_task_words, enter, d1, st1, wdsT, txtD]
    · have wk : PyData.strOk (Str.ofString "without") = true := strOk_of _
      have ig := inGs wk
      have d1 := dEqS wk "do"
      rw [decide_eq_false (by decide +kernel)] at d1 ig
      have tin := w_tin_1 (N := N) (by omega) (w := "without") (by simp) (.str a) t st
      have pt := pvs_mem p t (by simp)
      have wl := wds_len ht
      have sz : 6 ^ 7 ≤ PySem.sizeLine := by decide
      obtain ⟨x', z⟩ := loop [t] (.tup [.str "without", (.str a), t]) [] none (fun t' h' => by rw [List.mem_singleton.mp h']; exact ⟨ht, pt⟩) (by simp; omega)
      simp only [List.map_nil, List.nil_append, List.map_cons, List.flatten_cons, List.flatten_nil, List.append_nil] at z
      have st1 : o1 .str (.str a) = some (.str a) := rfl
      have b1 := dAddL (a := [.str "without", .str (txtD (.str a))]) (b := (wdsT n t).map TL.D.str) (by simp; omega)
      simp only [txtD, List.cons_append, List.nil_append] at b1
      try simp at d1
      try simp at ig
      try simp at tin
      simp [c_task_words, enter, d1, tin, z, ig, b1, st1, wdsT, txtD]
    · have wk : PyData.strOk (Str.ofString "within") = true := strOk_of _
      have ig := inGs wk
      have d1 := dEqS wk "do"
      rw [decide_eq_false (by decide +kernel)] at d1 ig
      have tin := w_tin_1 (N := N) (by omega) (w := "within") (by simp) (.int k) t st
      have pt := pvs_mem p t (by simp)
      have wl := wds_len ht
      have sz : 6 ^ 7 ≤ PySem.sizeLine := by decide
      obtain ⟨x', z⟩ := loop [t] (.tup [.str "within", (.int k), t]) [] none (fun t' h' => by rw [List.mem_singleton.mp h']; exact ⟨ht, pt⟩) (by simp; omega)
      simp only [List.map_nil, List.nil_append, List.map_cons, List.flatten_cons, List.flatten_nil, List.append_nil] at z
      have st1 := oStrK (k := k) (by omega) (by omega)
      simp at st1
      have b1 := dAddL (a := [.str "within", .str (txtD (.int k))]) (b := (wdsT n t).map TL.D.str) (by simp; omega)
      simp only [txtD, List.cons_append, List.nil_append] at b1
      rw [show (toString k : String) = k.repr from rfl] at b1
      try simp at d1
      try simp at ig
      try simp at tin
      simp [c_task_words, enter, d1, tin, z, ig, b1, st1, wdsT, txtD]

end TP

namespace TP
open TL
open PySem (Str PyData)
open L2 (atI)
def wOk (w : Str) : Prop := w.length ≤ 7 ∧ (32 : Nat) ∉ w.cps.toList ∧ PyData.strOk w = true
theorem wOk_c (s : String) (h : (decide ((Str.ofString s).length ≤ 7) && decide ((32 : Nat) ∉ (Str.ofString s).cps.toList)) = true) : wOk s := by
  simp only [Bool.and_eq_true, decide_eq_true_eq] at h
  exact ⟨h.1, h.2, strOk_of s⟩
theorem wOk_nm {a : Str} (h : nmB (.str a) = true) (p : PyData.strOk a = true) : wOk a := by
  simp only [nmB, Bool.and_eq_true, decide_eq_true_eq, List.all_eq_true] at h
  refine ⟨by omega, fun m => ?_, p⟩
  have z := h.2.2 _ m
  simp [low] at z
theorem wOk_k {k : Int} (h0 : 0 ≤ k) (h1 : k < 10) : wOk (toString k : String) := by
  have : ∀ j : Fin 10, (decide ((Str.ofString (toString ((j.val : Nat) : Int))).length ≤ 7) && decide ((32 : Nat) ∉ (Str.ofString (toString ((j.val : Nat) : Int))).cps.toList)) = true := by decide +kernel
  have z := this ⟨k.toNat, by omega⟩
  have e : ((k.toNat : Nat) : Int) = k := by omega
  dsimp only at z
  rw [e] at z
  exact wOk_c _ z
theorem wds_ok : ∀ {n : Nat} {t : TL.D}, isTk n t = true → pv t = true → ∀ w ∈ wdsT n t, wOk w
  | 0, _, h, _ => by cases h
  | n + 1, t, h, p => by
    intro v hv
    rcases isTk_shape h with ⟨w, ts, hw, ht, hl, rfl⟩ | ⟨a, k, na, k1, k2, rfl⟩ | ⟨a, t, na, ht, rfl⟩ | ⟨k, t, k1, k2, ht, rfl⟩
    · have pt : ∀ t ∈ ts, pv t = true := pvs_mem (by have := pvs_mem p (.tup ts) (by simp); exact this)
      rw [wdsT] at hv
      rcases List.mem_cons.mp hv with rfl | hv
      · rcases hw with rfl | rfl | rfl <;> exact wOk_c _ (by decide +kernel)
      rcases List.mem_cons.mp hv with rfl | hv
      · exact wOk_c _ (by decide +kernel)
      rcases List.mem_append.mp hv with hv | hv
      · obtain ⟨l, hl, hv⟩ := List.mem_flatten.mp hv
        obtain ⟨s, hs, rfl⟩ := List.mem_map.mp hl
        exact wds_ok (ht s hs) (pt s hs) v hv
      · rw [List.mem_singleton.mp hv]
        exact wOk_c _ (by decide +kernel)
    · have pa := pvs_mem p (.str a) (by simp)
      simp only [wdsT, txtD, if_true] at hv
      rcases List.mem_cons.mp hv with rfl | hv
      · exact wOk_c _ (by decide +kernel)
      rcases List.mem_cons.mp hv with rfl | hv
      · exact wOk_nm na pa
      rw [List.mem_singleton.mp hv]
      exact wOk_k (by omega) (by omega)
    · have pa := pvs_mem p (.str a) (by simp)
      have pt := pvs_mem p t (by simp)
      rw [wdsT, if_neg (by decide +kernel)] at hv
      rcases List.mem_cons.mp hv with rfl | hv
      · exact wOk_c _ (by decide +kernel)
      rcases List.mem_cons.mp hv with rfl | hv
      · exact wOk_nm na pa
      exact wds_ok ht pt v hv
    · have pt := pvs_mem p t (by simp)
      rw [wdsT, if_neg (by decide +kernel)] at hv
      rcases List.mem_cons.mp hv with rfl | hv
      · exact wOk_c _ (by decide +kernel)
      rcases List.mem_cons.mp hv with rfl | hv
      · exact wOk_k (by omega) (by omega)
      exact wds_ok ht pt v hv

end TP

namespace TP
open TL
open PySem (Str PyData)
open L2 (atI)
/-- a task's text -/
def txtT (n : Nat) (t : TL.D) : Str := PySem.Txt.join " " (wdsT n t)
theorem strsOf_map : ∀ l : List Str, strsOf (l.map TL.D.str) = some l
  | [] => rfl
  | x :: r => by simp [strsOf, strsOf_map r]
theorem sum7 : ∀ {l : List Str}, (∀ w ∈ l, w.length ≤ 7) → (l.map (·.length)).sum ≤ 7 * l.length
  | [], _ => Nat.zero_le _
  | x :: r, h => by
    have a := h x (by simp)
    have b := sum7 (l := r) fun w hw => h w (List.mem_cons_of_mem _ hw)
    rw [List.map_cons, List.sum_cons, List.length_cons]
    omega
theorem oJoinW {l : List Str} (h : ∀ w ∈ l, w.length ≤ 7) (hl : l.length ≤ 6 ^ 7) : o2 .join (.str " ") (.lst (l.map .str)) = some (.str (PySem.Txt.join " " l)) := by
  show (strsOf (l.map TL.D.str)).bind _ = _
  rw [strsOf_map]
  have a := sum7 h
  have b := join_len h
  have e : (Str.ofString " ").length = 1 := by decide +kernel
  have sz : 8 * 6 ^ 7 ≤ PySem.sizeLine := by decide
  show (if _ then _ else _) = _
  rw [if_pos ⟨by rw [e]; omega, by omega⟩]
theorem w_written {n N : Nat} {t : TL.D} (st : Sto) (hn : n ≤ 7) (hN : n + 3 ≤ N) (h : isTk n t = true) (p : pv t = true) : TL.run Pg N 7 [t] st = .ok (.str (txtT n t)) st := by
  obtain ⟨N, rfl⟩ : ∃ M, N = M + 1 := ⟨N - 1, by omega⟩
  rw [run_c (F := c_written) rfl rfl]
  have w := w_task_words n N st hn (by omega) h p
  have j := oJoinW (l := wdsT n t) (fun w hw => (wds_ok h p w hw).1) (Nat.le_trans (wds_len h) (Nat.pow_le_pow_right (by decide) hn))
  simp [c_written, enter, pv_own p, w, j, txtT]

end TP

namespace TP
open TL
open PySem (Str PyData)
open L2 (atI)
theorem w_init {N : Nat} (hN : 1 ≤ N) (ws : List Str) (st : Sto) : TL.run Pg N 16 [.ref st.length, .lst (ws.map .str)] (st ++ [.ins "Reader" []]) = .ok .non (st ++ [rS ws 0]) := by
  obtain ⟨N, rfl⟩ : ∃ M, N = M + 1 := ⟨N - 1, by omega⟩
  rw [run_c (F := c_Reader_init) rfl rfl]
  have s1 : setFD (st ++ [.ins "Reader" []]) "Reader" (.ref st.length) "words" (.lst (ws.map .str)) = some (st ++ [.ins "Reader" [("words", .lst (ws.map .str))]]) := by
    simp [setFD, putD]
  have e : ¬ (Str.ofString "words" = Str.ofString "at") := by decide +kernel
  have s2 : setFD (st ++ [.ins "Reader" [("words", .lst (ws.map .str))]]) "Reader" (.ref st.length) "at" (.int 0) = some (st ++ [rS ws 0]) := by
    simp [setFD, putD, rS, e]
  simp [c_Reader_init, enter, s1, s2]
theorem oSplitW {x : Str} {ws : List Str} (e : PySem.Txt.split x " " = ws) (h : x.length ≤ 100000) (hl : ws.length ≤ 100000) (hw : ∀ w ∈ ws, w.length ≤ 100000) : o2 .split (.str x) (.str " ") = some (.lst (ws.map .str)) := by
  have sz : 100002 ≤ PySem.sizeLine := by decide
  show (if _ then _ else _) = _
  rw [e, if_pos ⟨by decide +kernel, by omega, by omega, List.all_eq_true.mpr fun w h => decide_eq_true (by have := hw w h; omega)⟩]
/-- read: what is asked of what was read -/
theorem w_read {N : Nat} (hN : 20 ≤ N) {x : Str} {ws : List Str} (e : PySem.Txt.split x " " = ws) (xk : PyData.strOk x = true) (ok : ∀ w ∈ ws, PyData.strOk w = true ∧ w.length ≤ 100000) (hx : x.length ≤ 100000) (hl : ws.length < 100000) (st : Sto) :
    match rdT 6 ws with
    | some (d, r) => ∃ a, pv d = true ∧ TL.run Pg N 9 [.str x] st = if r = [] ∧ isTk 4 d = true ∧ txtT 4 d = x then .ok d (st ++ [rS ws a]) else .exc 1 (st ++ [rS ws a])
    | none => ∃ a, TL.run Pg N 9 [.str x] st = .exc 1 (st ++ [rS ws a]) := by
  obtain ⟨N, rfl⟩ : ∃ M, N = M + 1 := ⟨N - 1, by omega⟩
  rw [run_c (F := c_read) rfl rfl]
  have n1 := fun s => w_need (N := N) (by omega) true s
  have n0 := fun s => w_need (N := N) (by omega) false s
  simp at n1 n0
  have iS : o1 .isStr (.str x) = some (.bl true) := rfl
  have sp := oSplitW e hx (by omega) fun w hw => (ok w hw).2
  have i1 := w_init (N := N) (by omega) ws st
  have h1 : (st ++ [rS ws 0])[st.length]? = some (rS ws 0) := by simp
  have hm := rS_meth h1 (m := "task") (by decide +kernel) (by decide +kernel)
  have z := taskOk (fun w hw => (ok w hw).1) hl 6 N (by omega) _ _ _ h1 (Nat.zero_le _)
  have se : ∀ a, (st ++ [rS ws 0]).set st.length (rS ws a) = st ++ [rS ws a] := fun a => by simp
  rw [List.drop_zero] at z
  cases e6 : rdT 6 ws with
  | none =>
    rw [e6] at z
    obtain ⟨a, z⟩ := z
    rw [se] at z
    refine ⟨a, ?_⟩
    have z : TL.run Pg N 20 [.ref st.length, .int 6] (st ++ [rS ws 0]) = .exc 1 (st ++ [rS ws a]) := z
    simp [c_read, enter, iS, n1, sp, i1, hm, z]
  | some p =>
    obtain ⟨d, r⟩ := p
    rw [e6] at z
    obtain ⟨a, a1, a2, a3, a4, z⟩ := z
    rw [se] at z
    have z : TL.run Pg N 20 [.ref st.length, .int 6] (st ++ [rS ws 0]) = .ok d (st ++ [rS ws a]) := z
    have h2 : (st ++ [rS ws a])[st.length]? = some (rS ws a) := by simp
    have f1 := rS_words h2
    have f2 := rS_at h2
    have dO := pv_own a4
    have eq1 : dEq (.int (a : Int)) (.int (ws.length : Int)) = some (.bl (decide (r = []))) := by
      rw [dEq_ok (okD_int 0 _) (okD_int 0 _) (by decide) (by decide), eqv_int]
      congr 2
      refine decide_eq_decide.mpr ?_
      rw [← a3]
      constructor
      · intro q
        exact List.drop_eq_nil_of_le (by omega)
      · intro q
        have := List.length_drop (i := a) (l := ws)
        rw [q, List.length_nil] at this
        omega
    have wt := w_is_task (N := N) (by omega) a4 (st ++ [rS ws a])
    refine ⟨a, a4, ?_⟩
    by_cases q1 : r = []
    · by_cases q2 : isTk 4 d = true
      · have wr := w_written (N := N) (st ++ [rS ws a]) (by decide) (by omega) q2 a4
        have eq2 : dEq (.str (txtT 4 d)) (.str x) = some (.bl (decide (txtT 4 d = x))) := by
          rw [dEq_ok (okD_str 0 (show PyData.strOk (txtT 4 d) = true from strOk_join fun w hw => (wds_ok q2 a4 w hw).2.2)) (okD_str 0 xk) (by decide) (by decide), eqv_str]
        by_cases q3 : txtT 4 d = x
        · rw [if_pos ⟨q1, q2, q3⟩]
          rw [decide_eq_true q3] at eq2
          simp [c_read, enter, iS, n1, sp, i1, hm, z, f1, f2, dO, eq1, q1, wt, q2, wr, eq2]
        · rw [if_neg fun h => q3 h.2.2]
          rw [decide_eq_false q3] at eq2
          simp [c_read, enter, iS, n1, n0, sp, i1, hm, z, f1, f2, dO, eq1, q1, wt, q2, wr, eq2]
      · rw [if_neg fun h => q2 h.2.1]
        rw [Bool.not_eq_true] at q2
        simp [c_read, enter, iS, n1, n0, sp, i1, hm, z, f1, f2, dO, eq1, q1, wt, q2]
    · rw [if_neg fun h => q1 h.1]
      simp [c_read, enter, iS, n1, n0, sp, i1, hm, z, f1, f2, dO, eq1, q1]

end TP

namespace TP
open TL
open PySem (Str PyData)
open L2 (atI)
theorem isTk_tup {n : Nat} {w : Str} {ts : List TL.D} (hw : w = "all" ∨ w = "any" ∨ w = "then") : isTk (n + 1) (.tup [.str w, .tup ts]) = (decide ((if w = "then" then 2 else 1) ≤ ts.length) && decide (ts.length ≤ 3) && ts.all (isTk n)) := by
  rw [isTk]
  rcases hw with rfl | rfl | rfl <;> simp
theorem isTk_do {n : Nat} {x y : TL.D} : isTk (n + 1) (.tup [.str "do", x, y]) = (nmB x && whB 1 4 y) := by
  cases x <;> cases y <;> first | (simp [isTk, nmB]; done) | simp [isTk, nmB, whB]
theorem isTk_wo {n : Nat} {x y : TL.D} : isTk (n + 1) (.tup [.str "without", x, y]) = (nmB x && isTk n y) := by simp [isTk]
theorem isTk_wi {n : Nat} {x y : TL.D} : isTk (n + 1) (.tup [.str "within", x, y]) = (whB 1 9 x && isTk n y) := by simp [isTk]
theorem isTk_succ : ∀ {n : Nat} {t : TL.D}, isTk n t = true → isTk (n + 1) t = true ∧ wdsT (n + 1) t = wdsT n t
  | 0, _, h => by cases h
  | n + 1, t, h => by
    have h0 := h
    rcases isTk_shape h with ⟨w, ts, hw, ht, hl, rfl⟩ | ⟨a, k, na, k1, k2, rfl⟩ | ⟨a, t, na, ht, rfl⟩ | ⟨k, t, k1, k2, ht, rfl⟩
    · rw [isTk_tup hw] at h ⊢
      simp only [Bool.and_eq_true, List.all_eq_true] at h ⊢
      refine ⟨⟨h.1, fun t' h' => (isTk_succ (ht t' h')).1⟩, ?_⟩
      rw [wdsT, wdsT]
      rw [show ts.map (wdsT (n + 1)) = ts.map (wdsT n) from List.map_congr_left fun t' h' => (isTk_succ (ht t' h')).2]
    · rw [isTk_do] at h ⊢
      exact ⟨h, by simp [wdsT]⟩
    · rw [isTk_wo] at h ⊢
      rw [Bool.and_eq_true] at h ⊢
      obtain ⟨a, b⟩ := isTk_succ ht
      refine ⟨⟨h.1, a⟩, ?_⟩
      rw [wdsT, wdsT, if_neg (by decide +kernel), if_neg (by decide +kernel), b]
    · rw [isTk_wi] at h ⊢
      rw [Bool.and_eq_true] at h ⊢
      obtain ⟨a, b⟩ := isTk_succ ht
      refine ⟨⟨h.1, a⟩, ?_⟩
      rw [wdsT, wdsT, if_neg (by decide +kernel), if_neg (by decide +kernel), b]
theorem isTk_mono {n m : Nat} {t : TL.D} (h : isTk n t = true) (k : n ≤ m) : isTk m t = true ∧ wdsT m t = wdsT n t := by
  induction k with
  | refl => exact ⟨h, rfl⟩
  | step _ ih =>
    obtain ⟨a, b⟩ := isTk_succ ih.1
    exact ⟨a, b.trans ih.2⟩
theorem wds_ne {n : Nat} {t : TL.D} (h : isTk n t = true) : wdsT n t ≠ [] := by
  obtain ⟨w, r, e, _⟩ := wdsT_head h
  rw [e]
  simp
/-- what a text of these words is read to -/
def readW (ws : List Str) : Option TL.D := match rdT 6 ws with
  | some (d, []) => if isTk 4 d = true ∧ wdsT 4 d = ws then some d else none
  | _ => none
theorem readW_ok {n : Nat} {t : TL.D} (h : isTk n t = true) (hn : n ≤ 4) : readW (wdsT n t) = some t := by
  obtain ⟨a, b⟩ := isTk_mono h (Nat.le_trans hn (by decide : 4 ≤ 6))
  obtain ⟨a4, b4⟩ := isTk_mono h hn
  have z := rdT_wds 6 t [] a
  rw [b, List.append_nil] at z
  unfold readW
  rw [z]
  dsimp only
  rw [if_pos ⟨a4, b4⟩]
theorem readW_more {n : Nat} {t : TL.D} {r : List Str} (h : isTk n t = true) (hn : n ≤ 6) (hr : r ≠ []) : readW (wdsT n t ++ r) = none := by
  obtain ⟨a, b⟩ := isTk_mono h hn
  have z := rdT_wds 6 t r a
  rw [b] at z
  unfold readW
  rw [z]
  cases r with
  | nil => exact absurd rfl hr
  | cons _ _ => rfl
theorem rdT_g {n : Nat} {w : Str} {r : List Str} (hw : w = "all" ∨ w = "any" ∨ w = "then") : rdT (n + 1) (w :: r) = (match rdG (rdT n) r with
      | some (ds, r2) => some (.tup [.str w, .tup ds], r2)
      | none => none) := by
  unfold rdT
  rw [if_pos hw]
  all_goals (cases rdG (rdT n) r <;> rfl)
/-- a group's words without the last sign -/
theorem rdL_open {n : Nat} : ∀ (ts : List TL.D) (k : Nat), (∀ t ∈ ts, isTk n t = true) → rdL (rdT n) k (ts.map (wdsT n)).flatten = none
  | _, 0, _ => rfl
  | [], k + 1, _ => rfl
  | t :: ts, k + 1, h => by
    obtain ⟨w, x, e, hw⟩ := wdsT_head (h t List.mem_cons_self)
    have z := rdT_wds n t (ts.map (wdsT n)).flatten (h t List.mem_cons_self)
    have y := rdL_open ts k fun t ht => h t (List.mem_cons_of_mem _ ht)
    rw [List.map_cons, List.flatten_cons]
    rw [e] at z ⊢
    rw [List.cons_append] at z ⊢
    rw [rdL, if_neg hw, z]
    dsimp only
    rw [y]
theorem readW_open {w : Str} (hw : w = "all" ∨ w = "any" ∨ w = "then") {ts : List TL.D} (h : ∀ t ∈ ts, isTk 3 t = true) : readW (w :: "(" :: (ts.map (wdsT 3)).flatten) = none := by
  have e : (ts.map (wdsT 3)) = ts.map (wdsT 5) := List.map_congr_left fun t ht => ((isTk_mono (h t ht) (by decide : 3 ≤ 5)).2).symm
  rw [e]
  unfold readW
  rw [rdT_g hw, rdG_cons, if_pos rfl, rdL_open ts _ fun t ht => (isTk_mono (h t ht) (by decide : 3 ≤ 5)).1]
/-- a group that is none -/
theorem readW_few {w : Str} (hw : w = "all" ∨ w = "any" ∨ w = "then") {ts : List TL.D} (h : ∀ t ∈ ts, isTk 3 t = true) (hb : isTk 4 (.tup [.str w, .tup ts]) = false) : readW (w :: "(" :: ((ts.map (wdsT 3)).flatten ++ [(")" : Str)])) = none := by
  have e : (ts.map (wdsT 3)) = ts.map (wdsT 5) := List.map_congr_left fun t ht => ((isTk_mono (h t ht) (by decide : 3 ≤ 5)).2).symm
  have h5 : ∀ t ∈ ts, isTk 5 t = true := fun t ht => (isTk_mono (h t ht) (by decide : 3 ≤ 5)).1
  rw [e]
  unfold readW
  have z := rdL_wds (n := 5) (fun t r h => rdT_wds 5 t r h) [] ts (((ts.map (wdsT 5)).flatten ++ [(")" : Str)]).length + 1) h5 (by
    have := len_wds ts h5
    rw [List.length_append]
    omega)
  rw [rdT_g hw, rdG_cons, if_pos rfl, z]
  dsimp only
  rw [if_neg (by rw [hb]; simp)]
def jn (ws : List Str) : Str := PySem.Txt.join " " ws
theorem jn_tl (ws : List Str) : TL.tl (jn ws) = TL.joinL [32] (ws.map TL.tl) := by
  unfold jn
  rw [TL.join_eq, TL.tl_join, show TL.tl (" " : Str) = [32] by decide +kernel]
theorem joinL_app {S : List Nat} : ∀ {a b : List (List Nat)}, a ≠ [] → b ≠ [] → TL.joinL S (a ++ b) = TL.joinL S a ++ (S ++ TL.joinL S b)
  | [], _, h, _ => absurd rfl h
  | [x], b, _, hb => by
    cases b with
    | nil => exact absurd rfl hb
    | cons y r => rfl
  | x :: y :: r, b, _, hb => by
    have z := joinL_app (S := S) (a := y :: r) (b := b) (by simp) hb
    show x ++ (S ++ TL.joinL S ((y :: r) ++ b)) = x ++ (S ++ TL.joinL S (y :: r)) ++ (S ++ TL.joinL S b)
    rw [z]
    simp only [List.append_assoc]
theorem str_ext {x y : Str} (h : TL.tl x = TL.tl y) : x = y := by
  have := TL.map_tl_inj (l := [x]) (m := [y]) (by simp [h])
  simpa using this
theorem jn_app {a b : List Str} (ha : a ≠ []) (hb : b ≠ []) : jn (a ++ b) = jn a ++ (" " : Str) ++ jn b := by
  apply str_ext
  rw [TL.tl_append, TL.tl_append, jn_tl, jn_tl, jn_tl, List.map_append, joinL_app (by simpa using ha) (by simpa using hb), show TL.tl (" " : Str) = [32] by decide +kernel, List.append_assoc]
theorem jn_one (w : Str) : jn [w] = w := by
  apply str_ext
  rw [jn_tl]
  rfl
theorem jn_len {ws : List Str} (h : ∀ w ∈ ws, wOk w) : (jn ws).length ≤ 8 * ws.length := TL.join_len fun w hw => (h w hw).1
theorem jn_ok {ws : List Str} (h : ∀ w ∈ ws, wOk w) : PyData.strOk (jn ws) = true := TL.strOk_join fun w hw => (h w hw).2.2
theorem jn_split {ws : List Str} (h0 : ws ≠ []) (h : ∀ w ∈ ws, wOk w) : PySem.Txt.split (jn ws) " " = ws := TL.split_sp h0 fun w hw => (h w hw).2.1
theorem str_assoc (x y z : Str) : x ++ y ++ z = x ++ (y ++ z) := by
  apply str_ext
  simp only [TL.tl_append, List.append_assoc]
theorem len_app (x y : Str) : (x ++ y).length = x.length + y.length := by
  rw [TL.len_tl, TL.len_tl x, TL.len_tl y, TL.tl_append, List.length_append]
theorem add_s {x y : Str} (h : x.length + y.length ≤ 100000) : o2 .add (.str x) (.str y) = some (.str (x ++ y)) := by
  show TL.dAdd (.str x) (.str y) = _
  unfold TL.dAdd
  simp only
  rw [if_pos (by unfold PySem.sizeLine; omega)]
/-- read, at a text of words -/
theorem w_readW' {N : Nat} (hN : 20 ≤ N) {ws : List Str} (h0 : ws ≠ []) (ok : ∀ w ∈ ws, wOk w) (hl : ws.length ≤ 10000) (st : Sto) : ∃ c, (TL.run Pg N 9 [.str (jn ws)] st = match readW ws with
    | some d => .ok d (st ++ [c])
    | none => .exc 1 (st ++ [c])) ∧ ∀ d, readW ws = some d → pv d = true := by
  have jl := jn_len ok
  have z := w_read hN (jn_split h0 ok) (jn_ok ok) (fun w hw => ⟨(ok w hw).2.2, by have := (ok w hw).1; omega⟩) (by omega) (by omega) st
  unfold readW
  cases e : rdT 6 ws with
  | none =>
    rw [e] at z
    obtain ⟨a, z⟩ := z
    exact ⟨_, z, fun d h => nomatch h⟩
  | some p =>
    obtain ⟨d, r⟩ := p
    rw [e] at z
    obtain ⟨a, pd, z⟩ := z
    refine ⟨rS ws a, ?_, fun d' h => ?_⟩
    rotate_left
    · cases r with
      | cons x r => cases h
      | nil =>
        dsimp only at h
        split at h
        · cases h
          exact pd
        · cases h
    rw [z]
    cases r with
    | cons x r => rw [if_neg fun h => nomatch h.1]
    | nil =>
      dsimp only
      by_cases q : isTk 4 d = true
      · have key : (txtT 4 d = jn ws) ↔ wdsT 4 d = ws := by
          constructor
          · intro h
            have a := jn_split (wds_ne q) (wds_ok q pd)
            have b := jn_split h0 ok
            rw [← h] at b
            exact a.symm.trans b
          · intro h
            unfold txtT jn
            rw [h]
        by_cases q2 : wdsT 4 d = ws
        · rw [if_pos ⟨rfl, q, key.mpr q2⟩, if_pos ⟨q, q2⟩]
        · rw [if_neg fun h => q2 (key.mp h.2.2), if_neg fun h => q2 h.2]
      · rw [if_neg fun h => q h.2.1, if_neg fun h => q h.1]
theorem w_readW {N : Nat} (hN : 20 ≤ N) {ws : List Str} (h0 : ws ≠ []) (ok : ∀ w ∈ ws, wOk w) (hl : ws.length ≤ 10000) (st : Sto) : ∃ c, TL.run Pg N 9 [.str (jn ws)] st = match readW ws with
    | some d => .ok d (st ++ [c])
    | none => .exc 1 (st ++ [c]) := let ⟨c, h, _⟩ := w_readW' hN h0 ok hl st; ⟨c, h⟩
theorem w__law_none {N : Nat} (hN : 21 ≤ N) {ws : List Str} (h0 : ws ≠ []) (ok : ∀ w ∈ ws, wOk w) (hl : ws.length ≤ 10000) (st : Sto) : ∃ c, TL.run Pg N 14 [.str (jn ws)] st = .ok (.bl (readW ws).isNone) (st ++ [c]) := by
  obtain ⟨N, rfl⟩ : ∃ M, N = M + 1 := ⟨N - 1, by omega⟩
  obtain ⟨c, z⟩ := w_readW (N := N) (by omega) h0 ok hl st
  refine ⟨c, ?_⟩
  rw [run_c (F := c__law_none) rfl rfl]
  cases e : readW ws with
  | none => rw [e] at z; simp [c__law_none, enter, z]
  | some d => rw [e] at z; simp [c__law_none, enter, z]

end TP

namespace TP
open TL
open PySem (Str PyData)
open L2 (atI)
theorem DrP.tk {m : Nat} (hm : m ≤ 4) : ∀ {n : Nat} {d : TL.D}, DrP Nm m n d → isTk n d = true ∧ pv d = true
  | 0, _, h => h.elim
  | n + 1, d, h => by
    have nn : ∀ {a : String}, Nm a → nmB (.str a) = true ∧ PyData.strOk a = true := fun {a} h => by
      refine ⟨?_, strOk_of _⟩
      rcases h with rfl | rfl | rfl | rfl <;> decide +kernel
    rcases h with ⟨a, k, ha, hk, hkm, rfl⟩ | ⟨w, ts, hw, h1, h3, h2, hg, rfl⟩ | ⟨a, t, ha, hg, rfl⟩ | ⟨k, t, hk, h9, hg, rfl⟩
    · obtain ⟨x, y⟩ := nn ha
      rw [isTk_do, x]
      have k4 : k ≤ 4 := by omega
      exact ⟨by simp [whB, hk, k4], by simp [pv, pvs, y]⟩
    · have hw' : (Str.ofString w) = "all" ∨ (Str.ofString w) = "any" ∨ (Str.ofString w) = "then" := by
        rcases hw with rfl | rfl | rfl
        · exact .inl rfl
        · exact .inr (.inl rfl)
        · exact .inr (.inr rfl)
      have pt : pvs ts = true := by
        have : ∀ l : List TL.D, (∀ t ∈ l, pv t = true) → pvs l = true := by
          intro l
          induction l with
          | nil => intro _; rfl
          | cons x l ih => intro h; rw [pvs, h x List.mem_cons_self, ih fun y hy => h y (List.mem_cons_of_mem _ hy)]; rfl
        exact this ts fun t ht => (DrP.tk hm (hg t ht)).2
      rw [isTk_tup hw']
      refine ⟨?_, by simp [pv, pvs, pt]⟩
      simp only [Bool.and_eq_true, decide_eq_true_eq, List.all_eq_true]
      refine ⟨⟨?_, h3⟩, fun t ht => (DrP.tk hm (hg t ht)).1⟩
      split
      · rename_i q
        exact h2 (by simpa using q)
      · exact h1
    · obtain ⟨x, y⟩ := nn ha
      obtain ⟨b, c⟩ := DrP.tk hm hg
      rw [isTk_wo, x, b]
      exact ⟨rfl, by simp [pv, pvs, y, c]⟩
    · obtain ⟨b, c⟩ := DrP.tk hm hg
      rw [isTk_wi, b]
      exact ⟨by simp [whB, hk, h9], by simp [pv, pvs, c]⟩
/-- what is needed of a task and its text -/
structure Tx3 (t : TL.D) : Prop where
  tk : isTk 3 t = true
  pv : pv t = true
  ok : okD 6 t
theorem Tx3.of {t : TL.D} (h : Dr 4 3 t) : Tx3 t := ⟨(h.tk (by decide)).1, (h.tk (by decide)).2, h.good.ok⟩
abbrev hereT (t : TL.D) : Str := txtT 3 t
theorem hereT_jn {t : TL.D} : hereT t = jn (wdsT 3 t) := rfl
theorem Tx3.wok {t : TL.D} (h : Tx3 t) : ∀ w ∈ wdsT 3 t, wOk w := wds_ok h.tk h.pv
theorem Tx3.nw {t : TL.D} (h : Tx3 t) : (wdsT 3 t).length ≤ 216 := wds_len h.tk
theorem Tx3.len {t : TL.D} (h : Tx3 t) : (hereT t).length ≤ 1728 := by
  have a := jn_len h.wok
  have b := h.nw
  rw [hereT_jn]
  omega
theorem gW {w : String} (hw : w = "all" ∨ w = "any" ∨ w = "then") : ((Str.ofString w) = "all" ∨ (Str.ofString w) = "any" ∨ (Str.ofString w) = "then") ∧ wOk w ∧ (Str.ofString w).length ≤ 4 := by
  rcases hw with rfl | rfl | rfl
  · exact ⟨.inl rfl, wOk_c _ (by decide +kernel), by decide +kernel⟩
  · exact ⟨.inr (.inl rfl), wOk_c _ (by decide +kernel), by decide +kernel⟩
  · exact ⟨.inr (.inr rfl), wOk_c _ (by decide +kernel), by decide +kernel⟩
/-- a group's words -/
def grW (w : Str) (ts : List TL.D) : List Str := w :: "(" :: ((ts.map (wdsT 3)).flatten ++ [(")" : Str)])
theorem tl_c3 : TL.tl (" ( " : Str) = [32, 40, 32] ∧ TL.tl (" " : Str) = [32] ∧ TL.tl (" )" : Str) = [32, 41] ∧ TL.tl ("(" : Str) = [40] ∧ TL.tl (")" : Str) = [41] ∧ TL.tl (" ( )" : Str) = [32, 40, 32, 41] := by decide +kernel
theorem jn_cons {w : Str} {ws : List Str} (h : ws ≠ []) : TL.tl (jn (w :: ws)) = TL.tl w ++ ([32] ++ TL.tl (jn ws)) := by
  have := jn_app (a := [w]) (b := ws) (by simp) h
  rw [List.singleton_append] at this
  rw [this, TL.tl_append, TL.tl_append, jn_one, tl_c3.2.1, List.append_assoc]
theorem jn_snoc {w : Str} {ws : List Str} (h : ws ≠ []) : TL.tl (jn (ws ++ [w])) = TL.tl (jn ws) ++ ([32] ++ TL.tl w) := by
  rw [jn_app h (by simp), TL.tl_append, TL.tl_append, jn_one, tl_c3.2.1, List.append_assoc]
theorem text2 {w : Str} {t1 t2 : TL.D} (h1 : isTk 3 t1 = true) (h2 : isTk 3 t2 = true) : w ++ " ( " ++ hereT t1 ++ " " ++ hereT t2 ++ " )" = jn (grW w [t1, t2]) := by
  apply str_ext
  obtain ⟨c1, c2, c3, c4, c5, _⟩ := tl_c3
  have n1 := wds_ne h1
  have n2 := wds_ne h2
  have a : TL.tl (jn (wdsT 3 t1 ++ wdsT 3 t2)) = TL.tl (jn (wdsT 3 t1)) ++ ([32] ++ TL.tl (jn (wdsT 3 t2))) := by
    rw [jn_app n1 n2, TL.tl_append, TL.tl_append, c2, List.append_assoc]
  have e : (([t1, t2].map (wdsT 3)).flatten) = wdsT 3 t1 ++ wdsT 3 t2 := by simp
  unfold grW
  rw [e, jn_cons (by simp), jn_cons (by simp), jn_snoc (by simp [n1]), a, c4, c5]
  simp only [TL.tl_append, c1, c2, c3, hereT_jn, List.append_assoc, List.cons_append, List.nil_append]
theorem text1 {w : Str} {t1 : TL.D} (h1 : isTk 3 t1 = true) : w ++ " ( " ++ hereT t1 ++ " )" = jn (grW w [t1]) := by
  apply str_ext
  obtain ⟨c1, c2, c3, c4, c5, _⟩ := tl_c3
  have n1 := wds_ne h1
  have e : (([t1].map (wdsT 3)).flatten) = wdsT 3 t1 := by simp
  unfold grW
  rw [e, jn_cons (by simp), jn_cons (by simp), jn_snoc n1, c4, c5]
  simp only [TL.tl_append, c1, c2, c3, hereT_jn, List.append_assoc, List.cons_append, List.nil_append]
theorem grW_ok {w : Str} {ts : List TL.D} (hw : wOk w) (h : ∀ t ∈ ts, Tx3 t) : ∀ x ∈ grW w ts, wOk x := by
  intro x hx
  rcases List.mem_cons.mp hx with rfl | hx
  · exact hw
  rcases List.mem_cons.mp hx with rfl | hx
  · exact wOk_c _ (by decide +kernel)
  rcases List.mem_append.mp hx with hx | hx
  · obtain ⟨l, hl, hx⟩ := List.mem_flatten.mp hx
    obtain ⟨t, ht, rfl⟩ := List.mem_map.mp hl
    exact (h t ht).wok x hx
  · rw [List.mem_singleton.mp hx]
    exact wOk_c _ (by decide +kernel)
theorem fl_len {ts : List TL.D} (h : ∀ t ∈ ts, Tx3 t) : (ts.map (wdsT 3)).flatten.length ≤ 216 * ts.length := by
  induction ts with
  | nil => simp
  | cons t ts ih =>
    have a := (h t List.mem_cons_self).nw
    have b := ih fun x hx => h x (List.mem_cons_of_mem _ hx)
    rw [List.map_cons, List.flatten_cons, List.length_append, List.length_cons]
    omega
theorem grW_len {w : Str} {ts : List TL.D} (h : ∀ t ∈ ts, Tx3 t) : (grW w ts).length ≤ 216 * ts.length + 3 := by
  have := fl_len h
  unfold grW
  rw [List.length_cons, List.length_cons, List.length_append, List.length_singleton]
  omega
/-- a text's last two signs off -/
theorem cut_two (x : Str) : dCut (.str (x ++ " )")) none (some (-2)) = some (.str x) := by
  show some (TL.D.str _) = _
  congr 2
  apply str_ext
  show cutD (TL.tl (x ++ " )")) none (some (-2)) = TL.tl x
  rw [TL.tl_append, tl_c3.2.2.1]
  generalize TL.tl x = l
  have e : HT.sIx (l ++ [32, 41]).length (l ++ [32, 41]).length (some (-2)) = l.length := by
    show (if (-2 : Int) < 0 then ((-2 : Int) + ((l ++ [32, 41]).length : Int)).toNat else min (-2 : Int).toNat (l ++ [32, 41]).length) = _
    rw [if_pos (by decide), List.length_append]
    show ((-2 : Int) + ((l.length + 2 : Nat) : Int)).toNat = _
    omega
  have e2 : HT.sIx (l ++ [32, 41]).length 0 none = 0 := rfl
  unfold cutD
  rw [e, e2]
  simp
theorem readW_none2 (w : Str) (hw : w = "all" ∨ w = "any" ∨ w = "then") : readW [w, "(", ")"] = none := by
  have z := readW_few hw (ts := []) (fun _ h => nomatch h) (by
    rw [isTk_tup hw]
    rcases hw with rfl | rfl | rfl <;> decide +kernel)
  exact z

end TP

namespace TP
open TL
open PySem (Str PyData)
open L2 (atI)
theorem grp_ok {w : String} (hw : w = "all" ∨ w = "any" ∨ w = "then") {t1 t2 : TL.D} (h1 : Tx3 t1) (h2 : Tx3 t2) : isTk 4 (.tup [.str w, .tup [t1, t2]]) = true ∧ pv (.tup [.str w, .tup [t1, t2]]) = true ∧ okD 8 (.tup [.str w, .tup [t1, t2]]) ∧ wdsT 4 (.tup [.str w, .tup [t1, t2]]) = grW w [t1, t2] ∧ szT 4 (.tup [.str w, .tup [t1, t2]]) = 1 + szT 3 t1 + szT 3 t2 := by
  obtain ⟨g1, g2, g3⟩ := gW hw
  refine ⟨?_, by simp [pv, pvs, h1.pv, h2.pv], ?_, by rw [wdsT]; rfl, ?_⟩
  · rw [isTk_tup g1]
    rcases hw with rfl | rfl | rfl <;> simp [h1.tk, h2.tk]
  · refine okD_tup (n := 7) fun x hx => ?_
    simp at hx
    rcases hx with rfl | rfl
    · exact okD_str _ (strOk_of _)
    · refine okD_tup (n := 6) fun x hx => ?_
      simp at hx
      rcases hx with rfl | rfl
      · exact h1.ok
      · exact h2.ok
  · simp [szT]
    omega
theorem hd_wo {t : TL.D} (h : Tx3 t) : isTk 4 (.tup [.str "without", .str "abc", t]) = true ∧ pv (.tup [.str "without", .str "abc", t]) = true ∧ okD 8 (.tup [.str "without", .str "abc", t]) ∧ wdsT 4 (.tup [.str "without", .str "abc", t]) = ("without" : Str) :: ("abc" : Str) :: wdsT 3 t ∧ szT 4 (.tup [.str "without", .str "abc", t]) = 1 + szT 3 t := by
  refine ⟨?_, by simp [pv, pvs, h.pv], ?_, by simp [wdsT, txtD], by simp [szT]⟩
  · rw [isTk_wo, h.tk]
    decide +kernel
  · refine okD_tup (n := 7) fun x hx => ?_
    simp at hx
    rcases hx with rfl | rfl | rfl
    · exact okD_str _ (strOk_of _)
    · exact okD_str _ (strOk_of _)
    · exact h.ok.mono (by decide)
theorem hd_wi {t : TL.D} (h : Tx3 t) : isTk 4 (.tup [.str "within", .int 9, t]) = true ∧ pv (.tup [.str "within", .int 9, t]) = true ∧ okD 8 (.tup [.str "within", .int 9, t]) ∧ wdsT 4 (.tup [.str "within", .int 9, t]) = ("within" : Str) :: ("9" : Str) :: wdsT 3 t ∧ szT 4 (.tup [.str "within", .int 9, t]) = 1 + szT 3 t := by
  refine ⟨?_, by simp [pv, pvs, h.pv], ?_, ?_, by simp [szT]⟩
  · rw [isTk_wi, h.tk]
    decide +kernel
  · refine okD_tup (n := 7) fun x hx => ?_
    simp at hx
    rcases hx with rfl | rfl | rfl
    · exact okD_str _ (strOk_of _)
    · exact okD_int _ _
    · exact h.ok.mono (by decide)
  · have : ((toString (9 : Int) : String) : Str) = "9" := by decide +kernel
    rw [wdsT, if_neg (by decide +kernel)]
    show _ :: Str.ofString (toString (9 : Int)) :: _ = _
    rw [this]
/-- d != d -/
theorem ne_self {n : Nat} {d : TL.D} (h : okD n d) (hn : n ≤ 64) : dNe d d = some (.bl false) := by
  rw [dNe_ok h h hn hn, h.eqv_refl]
  rfl
theorem jn_ok' {ws : List Str} (h : ∀ w ∈ ws, wOk w) : okD 0 (.str (jn ws)) := okD_str 0 (jn_ok h)
abbrev body1 : List S := [.set 12 (.o2 .add (.o2 .add (.o2 .add (.o2 .add (.o2 .add (.var 1) (.con (.str " ( "))) (.var 10)) (.con (.str " "))) (.var 11)) (.con (.str " )"))), .set 13 (.tup [.var 1, .tup [.var 8, .var 9]]), .ifs (.or [.o2 .ne (.call 7 [.var 13]) (.var 12), .o2 .ne (.call 9 [.var 12]) (.var 13), .o2 .ne (.call 5 [.var 13]) (.o2 .add (.o2 .add (.con (.int 1)) (.call 5 [.var 8])) (.call 5 [.var 9]))]) [.ret (.con (.bl false))] [], .ifs (.or [.not (.call 14 [.sl (.var 12) [] [.con (.int (-2))]]), .not (.call 14 [.o2 .add (.var 1) (.con (.str " ( )"))]), .not (.call 14 [.o2 .add (.var 12) (.con (.str " )"))])]) [.ret (.con (.bl false))] []]
theorem lt6 {x y : Str} {a b : Nat} (hx : x.length ≤ a) (hy : y.length ≤ b) : (x ++ y).length ≤ a + b := by rw [len_app]; omega
theorem round1 {w : String} (hw : w = "all" ∨ w = "any" ∨ w = "then") {t1 t2 : TL.D} (h1 : Tx3 t1) (h2 : Tx3 t2) (x0 x2 x3 x4 x5 x6 x7 x12 x13 : Option TL.D) (st : Sto) :
    ∃ y12 y13 st', TL.execs (TL.run Pg 59) body1 [x0, some (.str w), x2, x3, x4, x5, x6, x7, some t1, some t2, some (.str (hereT t1)), some (.str (hereT t2)), x12, x13] st = .nx [x0, some (.str w), x2, x3, x4, x5, x6, x7, some t1, some t2, some (.str (hereT t1)), some (.str (hereT t2)), y12, y13] st' := by
  obtain ⟨g1, g2, g3⟩ := gW hw
  obtain ⟨k1, k2, k3, k4, k5⟩ := grp_ok hw h1 h2
  have l1 := h1.len
  have l2 := h2.len
  have lc : (" ( " : Str).length = 3 ∧ (" " : Str).length = 1 ∧ (" )" : Str).length = 2 ∧ (" ( )" : Str).length = 4 := by decide +kernel
  obtain ⟨c1, c2, c3, c4⟩ := lc
  have a1 := add_s (x := w) (y := " ( ") (by omega)
  have a2 := add_s (x := (w : Str) ++ " ( ") (y := hereT t1) (by rw [len_app]; omega)
  have a3 := add_s (x := (w : Str) ++ " ( " ++ hereT t1) (y := " ") (by rw [len_app, len_app]; omega)
  have a4 := add_s (x := (w : Str) ++ " ( " ++ hereT t1 ++ " ") (y := hereT t2) (by rw [len_app, len_app, len_app]; omega)
  have a5 := add_s (x := (w : Str) ++ " ( " ++ hereT t1 ++ " " ++ hereT t2) (y := " )") (by rw [len_app, len_app, len_app, len_app]; omega)
  have both : ∀ t ∈ [t1, t2], Tx3 t := fun t ht => by
    simp at ht
    rcases ht with rfl | rfl
    · exact h1
    · exact h2
  have gok := grW_ok g2 both
  have gl := grW_len (w := w) both
  have gl2 := jn_len gok
  have cw := cut_two ((w : Str) ++ " ( " ++ hereT t1 ++ " " ++ hereT t2)
  rw [text2 h1.tk h2.tk] at a5 cw
  -- the open one
  have op : (w : Str) ++ " ( " ++ hereT t1 ++ " " ++ hereT t2 = jn ((w : Str) :: "(" :: ([t1, t2].map (wdsT 3)).flatten) := by
    have e := text2 (w := w) h1.tk h2.tk
    apply str_ext
    have e := congrArg TL.tl e
    unfold grW at e
    rw [TL.tl_append, tl_c3.2.2.1, show ((w : Str) :: "(" :: (([t1, t2].map (wdsT 3)).flatten ++ [(")" : Str)])) = ((w : Str) :: "(" :: ([t1, t2].map (wdsT 3)).flatten) ++ [(")" : Str)] from rfl, jn_snoc (by simp), tl_c3.2.2.2.2.1] at e
    exact List.append_cancel_right (bs := [32, 41]) e
  rw [op] at cw
  have ook : ∀ x ∈ ((w : Str) :: "(" :: ([t1, t2].map (wdsT 3)).flatten), wOk x := fun x hx => gok x (by
    unfold grW
    rcases List.mem_cons.mp hx with rfl | hx
    · exact List.mem_cons_self
    rcases List.mem_cons.mp hx with rfl | hx
    · exact List.mem_cons_of_mem _ List.mem_cons_self
    · exact List.mem_cons_of_mem _ (List.mem_cons_of_mem _ (List.mem_append_left _ hx)))
  have fl := fl_len both
  -- few
  have a6 := add_s (x := w) (y := " ( )") (by omega)
  have fe : (w : Str) ++ " ( )" = jn [(w : Str), "(", ")"] := by
    apply str_ext
    obtain ⟨c1, c2, c3, c4, c5, c6⟩ := tl_c3
    rw [jn_cons (by simp), jn_cons (by simp), jn_one, TL.tl_append, c4, c5, c6]
    simp
  rw [fe] at a6
  -- more
  have a7 := add_s (x := jn (grW w [t1, t2])) (y := " )") (by simp at gl; omega)
  have me : jn (grW w [t1, t2]) ++ " )" = jn (grW w [t1, t2] ++ [(")" : Str)]) := by
    apply str_ext
    obtain ⟨c1, c2, c3, c4, c5, c6⟩ := tl_c3
    rw [jn_snoc (by simp [grW]), TL.tl_append, c3, c5]
    simp
  rw [me] at a7
  obtain ⟨r1, z1⟩ := w_readW (N := 59) (by decide) (ws := grW w [t1, t2]) (by simp [grW]) gok (by simp at gl; omega) st
  have rk := readW_ok k1 (by decide)
  rw [k4] at rk
  rw [rk] at z1
  have wr := w_written (n := 4) (N := 59) st (by decide) (by decide) k1 k2
  have wr : TL.run Pg 59 7 [.tup [.str w, .tup [t1, t2]]] st = .ok (.str (jn (grW w [t1, t2]))) st := by
    rw [wr]
    unfold txtT jn
    rw [k4]
  have s0 := fun s => w_size' 4 59 s (by decide) k1 k2
  have s1 := fun s => w_size' 3 59 s (by decide) h1.tk h1.pv
  have s2 := fun s => w_size' 3 59 s (by decide) h2.tk h2.pv
  have n1 := ne_self (jn_ok' gok) (by decide)
  have n2 := ne_self k3 (by decide)
  obtain ⟨q1, y1⟩ := w__law_none (N := 59) (by decide) (by simp) ook (by simp at fl ⊢; omega) (st ++ [r1])
  obtain ⟨q2, y2⟩ := w__law_none (N := 59) (by decide) (ws := [(w : Str), "(", ")"]) (by simp) (fun x hx => by
    simp at hx
    rcases hx with rfl | rfl | rfl
    · exact g2
    · exact wOk_c _ (by decide +kernel)
    · exact wOk_c _ (by decide +kernel)) (by simp) (st ++ [r1] ++ [q1])
  obtain ⟨q3, y3⟩ := w__law_none (N := 59) (by decide) (ws := grW w [t1, t2] ++ [(")" : Str)]) (by simp) (fun x hx => by
    rcases List.mem_append.mp hx with hx | hx
    · exact gok x hx
    · rw [List.mem_singleton.mp hx]
      exact wOk_c _ (by decide +kernel)) (by simp at gl ⊢; omega) (st ++ [r1] ++ [q1] ++ [q2])
  rw [readW_open g1 (ts := [t1, t2]) fun t ht => (both t ht).tk] at y1
  rw [readW_none2 _ g1] at y2
  have rm := readW_more (r := [(")" : Str)]) k1 (by decide) (by simp)
  rw [k4] at rm
  rw [rm] at y3
  have o1 := pv_own h1.pv
  have o2' := pv_own h2.pv
  refine ⟨some (.str (jn (grW w [t1, t2]))), some (.tup [.str w, .tup [t1, t2]]), st ++ [r1] ++ [q1] ++ [q2] ++ [q3], ?_⟩
  dsimp only at z1
  simp only [Option.isNone] at y1 y2 y3
  generalize jn (grW w [t1, t2]) = J0 at *
  generalize jn ((w : Str) :: "(" :: ([t1, t2].map (wdsT 3)).flatten) = J1 at *
  generalize jn [(w : Str), "(", ")"] = J2 at *
  generalize jn (grW w [t1, t2] ++ [(")" : Str)]) = J3 at *
  simp only [List.append_assoc, List.cons_append, List.nil_append] at y1 y2 y3 z1
  simp [a1, a2, a3, a4, a5, wr, z1, s0, s1, s2, n1, n2, k5, o1, o2', cw, y1, a6, y2, a7, y3]

end TP

namespace TP
open TL
open PySem (Str PyData)
open L2 (atI)
abbrev body2 : List S := [.set 12 (.o2 .add (.o2 .add (.o2 .add (.o2 .add (.o2 .ix (.var 2) (.con (.int 0))) (.con (.str " "))) (.o1 .str (.o2 .ix (.var 2) (.con (.int 1))))) (.con (.str " "))) (.var 10)), .ifs (.or [.o2 .ne (.call 7 [.o2 .add (.var 2) (.tup [.var 8])]) (.var 12), .o2 .ne (.call 9 [.var 12]) (.o2 .add (.var 2) (.tup [.var 8])), .o2 .ne (.call 5 [.o2 .add (.var 2) (.tup [.var 8])]) (.o2 .add (.con (.int 1)) (.call 5 [.var 8]))]) [.ret (.con (.bl false))] []]
theorem round2 {w sx : String} {x t : TL.D} (hw : wOk w) (hs : wOk sx) (ex : o1 .str x = some (.str sx)) (h : Tx3 t)
    (k1 : isTk 4 (.tup [.str w, x, t]) = true) (k2 : pv (.tup [.str w, x, t]) = true) (k3 : okD 8 (.tup [.str w, x, t])) (k4 : wdsT 4 (.tup [.str w, x, t]) = (w : Str) :: (sx : Str) :: wdsT 3 t) (k5 : szT 4 (.tup [.str w, x, t]) = 1 + szT 3 t)
    (x0 x1 x3 x4 x5 x6 x7 x9 x11 x12 x13 : Option TL.D) (st : Sto) :
    ∃ y12 st', TL.execs (TL.run Pg 59) body2 [x0, x1, some (.tup [.str w, x]), x3, x4, x5, x6, x7, some t, x9, some (.str (hereT t)), x11, x12, x13] st = .nx [x0, x1, some (.tup [.str w, x]), x3, x4, x5, x6, x7, some t, x9, some (.str (hereT t)), x11, y12, x13] st' := by
  have l1 := h.len
  have lw := hw.1
  have ls := hs.1
  have c2 : (" " : Str).length = 1 := by decide +kernel
  have a1 := add_s (x := w) (y := " ") (by omega)
  have a2 := add_s (x := (w : Str) ++ " ") (y := sx) (by rw [len_app]; omega)
  have a3 := add_s (x := (w : Str) ++ " " ++ sx) (y := " ") (by rw [len_app, len_app]; omega)
  have a4 := add_s (x := (w : Str) ++ " " ++ sx ++ " ") (y := hereT t) (by rw [len_app, len_app, len_app]; omega)
  have te : (w : Str) ++ " " ++ sx ++ " " ++ hereT t = jn ((w : Str) :: (sx : Str) :: wdsT 3 t) := by
    apply str_ext
    rw [jn_cons (by simp), jn_cons (wds_ne h.tk)]
    simp only [TL.tl_append, tl_c3.2.1, hereT_jn, List.append_assoc]
  rw [te] at a4
  have gok : ∀ y ∈ ((w : Str) :: (sx : Str) :: wdsT 3 t), wOk y := fun y hy => by
    rcases List.mem_cons.mp hy with rfl | hy
    · exact hw
    rcases List.mem_cons.mp hy with rfl | hy
    · exact hs
    · exact h.wok y hy
  have nw := h.nw
  obtain ⟨r1, z1⟩ := w_readW (N := 59) (by decide) (ws := (w : Str) :: (sx : Str) :: wdsT 3 t) (by simp) gok (by simp; omega) st
  have rk := readW_ok k1 (by decide)
  rw [k4] at rk
  rw [rk] at z1
  have wr := w_written (n := 4) (N := 59) st (by decide) (by decide) k1 k2
  have wr : TL.run Pg 59 7 [.tup [.str w, x, t]] st = .ok (.str (jn ((w : Str) :: (sx : Str) :: wdsT 3 t))) st := by
    rw [wr]
    unfold txtT jn
    rw [k4]
  have s0 := fun s => w_size' 4 59 s (by decide) k1 k2
  have s1 := fun s => w_size' 3 59 s (by decide) h.tk h.pv
  have n1 := ne_self (jn_ok' gok) (by decide)
  have n2 := ne_self k3 (by decide)
  have o1 := pv_own h.pv
  have ad := oAddt (a := [.str w, x]) (b := [t]) (by simp)
  simp at ad
  refine ⟨some (.str (jn ((w : Str) :: (sx : Str) :: wdsT 3 t))), st ++ [r1], ?_⟩
  dsimp only at z1
  generalize jn ((w : Str) :: (sx : Str) :: wdsT 3 t) = J0 at *
  simp [a1, a2, a3, a4, ex, wr, z1, s0, s1, n1, n2, k5, o1, ad]
/-- texts that are none, by their words -/
def badL : List (String × List String) := [("", [""]), ("do", ["do"]), ("do a", ["do", "a"]), ("do a 0", ["do", "a", "0"]), ("do a 5", ["do", "a", "5"]), ("do a 01", ["do", "a", "01"]), ("do A 1", ["do", "A", "1"]), ("do abcdef 1", ["do", "abcdef", "1"]), ("do a 1 ", ["do", "a", "1", ""]), (" do a 1", ["", "do", "a", "1"]), ("do  a 1", ["do", "", "a", "1"]),
  ("within 0 do a 1", ["within", "0", "do", "a", "1"]), ("within 10 do a 1", ["within", "10", "do", "a", "1"]), ("without do a 1", ["without", "do", "a", "1"]), ("without a", ["without", "a"]), ("all do a 1", ["all", "do", "a", "1"]), ("all (do a 1)", ["all", "(do", "a", "1)"]),
  ("all ( do a 1 do a 1 do a 1 do a 1 )", ["all", "(", "do", "a", "1", "do", "a", "1", "do", "a", "1", "do", "a", "1", ")"]), ("any ( do a 1", ["any", "(", "do", "a", "1"]), ("( do a 1 )", ["(", "do", "a", "1", ")"]), ("Do a 1", ["Do", "a", "1"]), ("do a 1 )", ["do", "a", "1", ")"])]
def goodL : List (String × List String) := [("do a 1", ["do", "a", "1"]), ("do abcde 4", ["do", "abcde", "4"]), ("any ( do a 1 do a 1 do a 1 )", ["any", "(", "do", "a", "1", "do", "a", "1", "do", "a", "1", ")"]), ("without do do do 1", ["without", "do", "do", "do", "1"]), ("within 1 within 9 do x 2", ["within", "1", "within", "9", "do", "x", "2"])]
def wB (w : Str) : Bool := decide (w.length ≤ 7) && decide ((32 : Nat) ∉ w.cps.toList)
def txB (p : String × List String) : Bool := decide (Str.join " " (p.2.map Str.ofString) = p.1) && (!p.2.isEmpty && (p.2.all (fun w => wB w) && decide (p.2.length ≤ 10000)))
theorem txB_of {p : String × List String} (h : txB p = true) : (p.1 : Str) = jn (p.2.map Str.ofString) ∧ (p.2.map Str.ofString) ≠ [] ∧ (∀ w ∈ p.2.map Str.ofString, wOk w) ∧ (p.2.map Str.ofString).length ≤ 10000 := by
  unfold txB at h
  simp only [Bool.and_eq_true, decide_eq_true_eq, List.all_eq_true, Bool.not_eq_true'] at h
  obtain ⟨h1, h2, h3, h4⟩ := h
  refine ⟨?_, ?_, fun w hw => ?_, by rw [List.length_map]; exact h4⟩
  · unfold jn
    rw [TL.join_eq, h1]
  · intro e
    rw [List.map_eq_nil_iff.mp e] at h2
    cases h2
  · obtain ⟨s, hs, rfl⟩ := List.mem_map.mp hw
    have := h3 s hs
    unfold wB at this
    exact wOk_c s this
theorem badL_ok : badL.all (fun p => txB p && (readW (p.2.map Str.ofString)).isNone) = true := by decide +kernel
theorem goodL_ok : goodL.all (fun p => txB p && (readW (p.2.map Str.ofString)).isSome) = true := by decide +kernel
theorem w_none_bad {p : String × List String} (hp : p ∈ badL) {N : Nat} (hN : 21 ≤ N) (st : Sto) : ∃ c, TL.run Pg N 14 [.str p.1] st = .ok (.bl true) (st ++ [c]) := by
  have h := List.all_eq_true.mp badL_ok p hp
  rw [Bool.and_eq_true] at h
  obtain ⟨a, b, c, d⟩ := txB_of h.1
  obtain ⟨cc, z⟩ := w__law_none hN b c d st
  rw [h.2] at z
  rw [a]
  exact ⟨cc, z⟩
theorem w_good {p : String × List String} (hp : p ∈ goodL) (st : Sto) : ∃ t c, TL.run Pg 59 9 [.str p.1] st = .ok t (st ++ [c]) ∧ t.own = false ∧ TL.run Pg 59 7 [t] (st ++ [c]) = .ok (.str p.1) (st ++ [c]) := by
  have h := List.all_eq_true.mp goodL_ok p hp
  rw [Bool.and_eq_true] at h
  obtain ⟨a, b, c, d⟩ := txB_of h.1
  obtain ⟨cc, z, zp⟩ := w_readW' (N := 59) (by decide) b c d st
  rw [← a] at z
  unfold readW at h z zp
  cases e : rdT 6 (p.2.map Str.ofString) with
  | none => rw [e] at h; simp at h
  | some q =>
    obtain ⟨t, r⟩ := q
    rw [e] at h z zp
    cases r with
    | cons _ _ => simp at h
    | nil =>
      dsimp only at h z zp
      by_cases k : isTk 4 t = true ∧ wdsT 4 t = p.2.map Str.ofString
      · rw [if_pos k] at z zp
        have pt := zp t rfl
        refine ⟨t, cc, z, pv_own pt, ?_⟩
        have wr := w_written (n := 4) (N := 59) (st ++ [cc]) (by decide) (by decide) k.1 pt
        rw [wr]
        unfold txtT
        rw [k.2, a]
        rfl
      · rw [if_neg k] at h
        simp at h
abbrev body3 : List S := [.ifs (.not (.call 14 [.o2 .ix (.var 5) (.o2 .mod (.o2 .add (.o2 .div (.var 7) (.con (.int 7))) (.o2 .mul (.con (.int 5)) (.var 4))) (.o1 .len (.var 5)))])) [.ret (.con (.bl false))] []]
theorem loop3 (z : Int) (x0 x1 x2 x3 x6 x8 x9 x10 x11 x12 x13 : Option TL.D) : ∀ (ks : List Nat), (∀ k ∈ ks, k < 10) → ∀ (x4 : Option TL.D) (st : Sto), ∃ y4 st', forE (TL.run Pg 59) (.nm 4) body3 (ks.map fun (k : Nat) => .int (k : Int)) [x0, x1, x2, x3, x4, some (.lst (badL.map fun p => .str p.1)), x6, some (.int z), x8, x9, x10, x11, x12, x13] st = .nx [x0, x1, x2, x3, y4, some (.lst (badL.map fun p => .str p.1)), x6, some (.int z), x8, x9, x10, x11, x12, x13] st'
  | [], _, x4, st => ⟨x4, st, by rw [List.map_nil, forE_nil]⟩
  | k :: ks, h, x4, st => by
    have q7 := oDiv (i := z) (j := 7) (by decide) (by decide)
    have m5 := oMul (i := 5) (j := (k : Int)) (.inl (by decide))
    have r := oMod (i := z / 7 + 5 * (k : Int)) (j := 22) (by decide)
    have h1 := Int.emod_nonneg (z / 7 + 5 * (k : Int)) (b := 22) (by decide)
    have h2 := Int.emod_lt_of_pos (z / 7 + 5 * (k : Int)) (b := 22) (by decide)
    obtain ⟨p, hp, ix⟩ : ∃ p ∈ badL, atI (badL.map fun p => TL.D.str p.1) ((z / 7 + 5 * (k : Int)) % 22) = some (.str p.1) := by
      generalize (z / 7 + 5 * (k : Int)) % 22 = j at *
      obtain ⟨p, hp⟩ : ∃ p, badL[j.toNat]? = some p := ⟨badL[j.toNat]'(by show j.toNat < 22; omega), List.getElem?_eq_getElem _⟩
      exact ⟨p, List.mem_of_getElem? hp, atI_nat h1 (by rw [List.getElem?_map, hp]; rfl)⟩
    obtain ⟨c, y⟩ := w_none_bad hp (N := 59) (by decide) st
    obtain ⟨y4, st', ih⟩ := loop3 z x0 x1 x2 x3 x6 x8 x9 x10 x11 x12 x13 ks (fun j hj => h j (List.mem_cons_of_mem _ hj)) (some (.int (k : Int))) (st ++ [c])
    refine ⟨y4, st', ?_⟩
    have ln : o1 .len (.lst (badL.map fun p => TL.D.str p.1)) = some (.int 22) := rfl
    rw [List.map_cons, forE_c]
    generalize (badL.map fun p => TL.D.str p.1) = B at *
    simp [k_ForS, q7, m5, ln, r, ix, y]
    exact ih
theorem lcGo_none {bnd : TL.D → Option TL.Env} {c e : TL.Env → Sto → R TL.D} : ∀ {xs : List TL.D} (st : Sto), (∀ x ∈ xs, ∀ st, ∃ ρ st', bnd x = some ρ ∧ c ρ st = .ok (.bl false) st') → ∃ st', lcGo bnd c e xs st = .ok [] st'
  | [], st, _ => ⟨st, rfl⟩
  | x :: xs, st, h => by
    obtain ⟨ρ, st1, h1, h2⟩ := h x List.mem_cons_self st
    obtain ⟨st', ih⟩ := lcGo_none (bnd := bnd) (c := c) (e := e) (xs := xs) st1 fun y hy => h y (List.mem_cons_of_mem _ hy)
    refine ⟨st', ?_⟩
    unfold lcGo
    simp only [h1, h2, R.bind]
    exact ih
theorem good_none (ρ : TL.Env) (hl : 12 < ρ.length) (st : Sto) : ∃ st', lcE (TL.run Pg 59) (.var 12) (.nm 12) [12] [.o2 .ne (.call 7 [.call 9 [.var 12]]) (.var 12)] (goodL.map fun p => .str p.1) ρ st = .ok [] st' := by
  refine lcGo_none st fun x hx st => ?_
  obtain ⟨p, hp, rfl⟩ := List.mem_map.mp hx
  obtain ⟨t, c, z1, ot, z2⟩ := w_good hp st
  have g : ∀ y, (ρ.set 12 y)[12]? = some y := fun y => by rw [List.getElem?_set_self hl]
  have n := ne_self (okD_str 0 (strOk_of p.1)) (by decide)
  refine ⟨ρ.set 12 (some (.str p.1)), st ++ [c], by simp, ?_⟩
  simp [g, z1, ot, z2, n]

end TP

namespace TP
open TL
open PySem (Str PyData)
open L2 (atI)
abbrev lawN : Nat := 60
theorem loop1 {t1 t2 : TL.D} (h1 : Tx3 t1) (h2 : Tx3 t2) (x0 x2 x3 x4 x5 x6 x7 : Option TL.D) : ∀ (ws : List String), (∀ w ∈ ws, w = "all" ∨ w = "any" ∨ w = "then") → ∀ (x1 x12 x13 : Option TL.D) (st : Sto),
    ∃ y1 y12 y13 st', forE (TL.run Pg 59) (.nm 1) body1 (ws.map fun w => .str (Str.ofString w)) [x0, x1, x2, x3, x4, x5, x6, x7, some t1, some t2, some (.str (hereT t1)), some (.str (hereT t2)), x12, x13] st = .nx [x0, y1, x2, x3, x4, x5, x6, x7, some t1, some t2, some (.str (hereT t1)), some (.str (hereT t2)), y12, y13] st'
  | [], _, x1, x12, x13, st => ⟨x1, x12, x13, st, by rw [List.map_nil, forE_nil]⟩
  | w :: ws, h, x1, x12, x13, st => by
    obtain ⟨y12, y13, st1, z⟩ := round1 (h w List.mem_cons_self) h1 h2 x0 x2 x3 x4 x5 x6 x7 x12 x13 st
    obtain ⟨y1, y12', y13', st', ih⟩ := loop1 h1 h2 x0 x2 x3 x4 x5 x6 x7 ws (fun v hv => h v (List.mem_cons_of_mem _ hv)) (some (.str w)) y12 y13 st1
    refine ⟨y1, y12', y13', st', ?_⟩
    rw [List.map_cons, forE_c]
    generalize hb : body1 = B at *
    simp [k_ForS, z]
    exact ih
theorem law_holds : ∀ ns : List Int, ns.length ≤ 63 → ∃ st', TL.run (Ts.map (·.code)) lawN 15 [.fls (ns.map .int)] [] = .ok (.bl true) st' := by
  intro ns hl
  show ∃ st', TL.run Pg 60 15 _ _ = _
  have m0 := w__law_mixed (N := 59) (by decide) ns 0 []
  have m1 := w__law_mixed (N := 59) (by decide) ns 1 []
  have m2 := fun st => w__law_mixed (N := 59) (by decide) ns 2 st
  simp at m0 m1 m2
  obtain ⟨t1, g1, w1⟩ := w__law_task' 2 59 (mixZ ns 0) 4 [] (by decide) (by decide) (by decide)
  obtain ⟨t2, g2, w2⟩ := w__law_task' 2 59 (mixZ ns 1) 4 [] (by decide) (by decide) (by decide)
  have w1 : TL.run Pg 59 13 [.int (mixZ ns 0), .int 3, .int 4] [] = .ok t1 [] := w1
  have w2 : TL.run Pg 59 13 [.int (mixZ ns 1), .int 3, .int 4] [] = .ok t2 [] := w2
  have h1 := Tx3.of g1
  have h2 := Tx3.of g2
  clear g1 g2
  have o1 := pv_own h1.pv
  have o2' := pv_own h2.pv
  have wr1 : TL.run Pg 59 7 [t1] [] = .ok (.str (hereT t1)) [] := w_written (n := 3) [] (by decide) (by decide) h1.tk h1.pv
  have wr2 : TL.run Pg 59 7 [t2] [] = .ok (.str (hereT t2)) [] := w_written (n := 3) [] (by decide) (by decide) h2.tk h2.pv
  -- the first loop
  obtain ⟨a1, a12, a13, st1, L1⟩ := loop1 h1 h2 (some (.fls (ns.map .int))) none none none none none none ["all", "any", "then"] (by simp) none none none []
  -- the second loop
  obtain ⟨k1, k2, k3, k4, k5⟩ := hd_wo h1
  obtain ⟨b12, st2, R1⟩ := round2 (wOk_c _ (by decide +kernel)) (wOk_c _ (by decide +kernel)) rfl h1 k1 k2 k3 k4 k5 (some (.fls (ns.map .int))) a1 none none none none none (some t2) (some (.str (hereT t2))) a12 a13 st1
  obtain ⟨k1, k2, k3, k4, k5⟩ := hd_wi h1
  obtain ⟨c12, st3, R2⟩ := round2 (w := "within") (sx := "9") (x := .int 9) (wOk_c _ (by decide +kernel)) (wOk_c _ (by decide +kernel)) ((oStrK (k := 9) (by decide) (by decide)).trans (by rw [show (toString (9 : Int) : String) = "9" from by decide +kernel])) h1 k1 k2 k3 k4 k5 (some (.fls (ns.map .int))) a1 none none none none none (some t2) (some (.str (hereT t2))) b12 a13 st2
  -- one behind the other
  have l1 := h1.len
  have l2 := h2.len
  have c2 : (" " : Str).length = 1 := by decide +kernel
  have d1 := add_s (x := hereT t1) (y := " ") (by omega)
  have d2 := add_s (x := hereT t1 ++ " ") (y := hereT t2) (by rw [len_app]; omega)
  have de : hereT t1 ++ " " ++ hereT t2 = jn (wdsT 3 t1 ++ wdsT 3 t2) := (jn_app (wds_ne h1.tk) (wds_ne h2.tk)).symm
  rw [de] at d2
  obtain ⟨q1, y1⟩ := w__law_none (N := 59) (by decide) (ws := wdsT 3 t1 ++ wdsT 3 t2) (by simp [wds_ne h1.tk]) (fun x hx => by
    rcases List.mem_append.mp hx with hx | hx
    · exact h1.wok x hx
    · exact h2.wok x hx) (by have := h1.nw; have := h2.nw; rw [List.length_append]; omega) st3
  rw [readW_more h1.tk (by decide) (wds_ne h2.tk)] at y1
  -- a then of one
  have one : ∀ t ∈ [t1], Tx3 t := fun t ht => by
    rw [List.mem_singleton.mp ht]
    exact h1
  have cl : ("then ( " : Str).length = 7 ∧ (" )" : Str).length = 2 ∧ ("all ( " : Str).length = 6 := by decide +kernel
  obtain ⟨cl1, cl2, cl3⟩ := cl
  have e1 := add_s (x := "then ( ") (y := hereT t1) (by omega)
  have e2 := add_s (x := ("then ( " : Str) ++ hereT t1) (y := " )") (by rw [len_app]; omega)
  have sp1 : ("then ( " : Str) = ("then" : Str) ++ (" ( " : Str) ∧ ("all ( " : Str) = ("all" : Str) ++ (" ( " : Str) := by decide +kernel
  have ee : ("then ( " : Str) ++ hereT t1 ++ " )" = jn (grW "then" [t1]) := by
    rw [sp1.1]
    exact text1 h1.tk
  rw [ee] at e2
  have gl := grW_len (w := "then") one
  have gl' := grW_len (w := "all") one
  obtain ⟨q2, y2⟩ := w__law_none (N := 59) (by decide) (ws := grW "then" [t1]) (by simp [grW]) (grW_ok (wOk_c _ (by decide +kernel)) one) (by simp at gl; omega) (st3 ++ [q1])
  have rf := readW_few (w := "then") (.inr (.inr rfl)) (ts := [t1]) (fun t ht => (one t ht).tk) (by rw [isTk_tup (.inr (.inr rfl))]; rfl)
  have rf : readW (grW "then" [t1]) = none := rf
  rw [rf] at y2
  -- an all of one
  have f1 := add_s (x := "all ( ") (y := hereT t1) (by omega)
  have f2 := add_s (x := ("all ( " : Str) ++ hereT t1) (y := " )") (by rw [len_app]; omega)
  have fe : ("all ( " : Str) ++ hereT t1 ++ " )" = jn (grW "all" [t1]) := by
    rw [sp1.2]
    exact text1 h1.tk
  rw [fe] at f2
  have ka : isTk 4 (.tup [.str "all", .tup [t1]]) = true := by
    rw [isTk_tup (.inl rfl)]
    simp [h1.tk]
  have kw : wdsT 4 (.tup [.str "all", .tup [t1]]) = grW "all" [t1] := by rw [wdsT]; rfl
  have kd : okD 8 (.tup [.str "all", .tup [t1]]) := okD_tup (n := 7) fun x hx => by
    simp at hx
    rcases hx with rfl | rfl
    · exact okD_str _ (strOk_of _)
    · exact okD_tup (n := 6) fun x hx => by
        rw [List.mem_singleton.mp hx]
        exact h1.ok
  obtain ⟨q3, y3⟩ := w_readW (N := 59) (by decide) (ws := grW "all" [t1]) (by simp [grW]) (grW_ok (wOk_c _ (by decide +kernel)) one) (by simp at gl'; omega) (st3 ++ [q1] ++ [q2])
  have rk := readW_ok ka (by decide)
  rw [kw] at rk
  rw [rk] at y3
  have na := ne_self kd (by decide)
  -- deep ones
  have lit : ∀ (x y z : String), (decide (Str.ofString x ++ Str.ofString y = Str.ofString z) && decide ((Str.ofString x).length + (Str.ofString y).length ≤ 100000)) = true → o2 .add (.str x) (.str y) = some (.str z) := fun x y z h => by
    simp only [Bool.and_eq_true, decide_eq_true_eq] at h
    rw [add_s h.2, h.1]
  have g1 := lit "all ( " "do a 1" "all ( do a 1" (by decide +kernel)
  have g2 := lit "all ( do a 1" " )" "all ( do a 1 )" (by decide +kernel)
  have g3 := lit "all ( " "all ( do a 1 )" "all ( all ( do a 1 )" (by decide +kernel)
  have g4 := lit "all ( all ( do a 1 )" " )" "all ( all ( do a 1 ) )" (by decide +kernel)
  have g5 := lit "all ( " "all ( all ( do a 1 ) )" "all ( all ( all ( do a 1 ) )" (by decide +kernel)
  have g6 := lit "all ( all ( all ( do a 1 ) )" " )" "all ( all ( all ( do a 1 ) ) )" (by decide +kernel)
  have g7 := lit "any ( " "all ( all ( all ( do a 1 ) ) )" "any ( all ( all ( all ( do a 1 ) ) )" (by decide +kernel)
  have g8 := lit "any ( all ( all ( all ( do a 1 ) ) )" " )" "any ( all ( all ( all ( do a 1 ) ) ) )" (by decide +kernel)
  have DD : ∃ p : String × List String, p = ("all ( all ( all ( do a 1 ) ) )", ["all", "(", "all", "(", "all", "(", "do", "a", "1", ")", ")", ")"]) ∧ txB p = true := ⟨_, rfl, by decide +kernel⟩
  obtain ⟨p, hp, tp⟩ := DD
  obtain ⟨p1, p2, p3, p4⟩ := txB_of tp
  have rd : readW (p.2.map Str.ofString) = some (.tup [.str "all", .tup [.tup [.str "all", .tup [.tup [.str "all", .tup [.tup [.str "do", .str "a", .int 1]]]]]]]) := by
    subst hp
    exact readW_ok (n := 4) (t := .tup [.str "all", .tup [.tup [.str "all", .tup [.tup [.str "all", .tup [.tup [.str "do", .str "a", .int 1]]]]]]]) (by decide +kernel) (by decide)
  have reads : ∀ st, ∃ c, TL.run Pg 59 9 [.str "all ( all ( all ( do a 1 ) ) )"] st = .ok (.tup [.str "all", .tup [.tup [.str "all", .tup [.tup [.str "all", .tup [.tup [.str "do", .str "a", .int 1]]]]]]]) (st ++ [c]) := fun st => by
    obtain ⟨c, z⟩ := w_readW (N := 59) (by decide) p2 p3 p4 st
    rw [rd, ← p1] at z
    subst hp
    exact ⟨c, z⟩
  have DD2 : ∃ p : String × List String, p = ("any ( all ( all ( all ( do a 1 ) ) ) )", ["any", "(", "all", "(", "all", "(", "all", "(", "do", "a", "1", ")", ")", ")", ")"]) ∧ (txB p && (readW (p.2.map Str.ofString)).isNone) = true := ⟨_, rfl, by decide +kernel⟩
  obtain ⟨p', hp', tp'⟩ := DD2
  rw [Bool.and_eq_true] at tp'
  obtain ⟨r1, r2, r3, r4⟩ := txB_of tp'.1
  obtain ⟨q4, y4⟩ := reads (st3 ++ [q1] ++ [q2] ++ [q3])
  obtain ⟨q5, y5⟩ := w__law_none (N := 59) (by decide) r2 r3 r4 (st3 ++ [q1] ++ [q2] ++ [q3] ++ [q4])
  rw [tp'.2, ← r1] at y5
  subst hp'
  obtain ⟨q6, y6⟩ := reads (st3 ++ [q1] ++ [q2] ++ [q3] ++ [q4] ++ [q5])
  have y7 := w_is_task (N := 59) (by decide) (d := .tup [.str "all", .tup [.tup [.str "all", .tup [.tup [.str "all", .tup [.tup [.str "do", .str "a", .int 1]]]]]]]) (by decide +kernel) (st3 ++ [q1] ++ [q2] ++ [q3] ++ [q4] ++ [q5] ++ [q6])
  rw [show isTk 4 (.tup [.str "all", .tup [.tup [.str "all", .tup [.tup [.str "all", .tup [.tup [.str "do", .str "a", .int 1]]]]]]]) = true by decide +kernel] at y7
  -- the bad, the good
  have h22 : o2 .add (.lst ((badL.take 11).map fun p => .str p.1)) (.lst (((badL.drop 11).take 6).map fun p => .str p.1)) = some (.lst ((badL.take 17).map fun p => .str p.1)) := by
    rw [oAddl (by decide)]
    rfl
  have h23 : o2 .add (.lst ((badL.take 17).map fun p => .str p.1)) (.lst ((badL.drop 17).map fun p => .str p.1)) = some (.lst (badL.map fun p => .str p.1)) := by
    rw [oAddl (by decide)]
    rfl
  obtain ⟨z4, st4, L3⟩ := loop3 (mixZ ns 2) (some (.fls (ns.map .int))) a1 (some (.tup [.str "within", .int 9])) (some (.str "all ( all ( all ( do a 1 ) ) )")) (some (.lst (goodL.map fun p => .str p.1))) (some t1) (some t2) (some (.str (hereT t1))) (some (.str (hereT t2))) c12 a13 [0, 1, 2, 3, 4, 5] (by decide) (some (.int 2)) (st3 ++ [q1] ++ [q2] ++ [q3] ++ [q4] ++ [q5] ++ [q6])
  obtain ⟨st5, G5⟩ := good_none [some (.fls (ns.map .int)), a1, some (.tup [.str "within", .int 9]), some (.str "all ( all ( all ( do a 1 ) ) )"), z4, some (.lst (badL.map fun p => .str p.1)), some (.lst (goodL.map fun p => .str p.1)), some (.int (mixZ ns 2)), some t1, some t2, some (.str (hereT t1)), some (.str (hereT t2)), c12, a13] (by simp) st4
  refine ⟨st5, ?_⟩
  rw [run_c (n := 59) (F := c_law) rfl rfl]
  have rg3 := itRng (k := 3) (by decide) (by decide)
  have rg6 := itRng (k := 6) (by decide) (by decide)
  have e3 : (List.range (3 : Int).toNat).map (fun (i : Nat) => TL.D.int (i : Int)) = [.int 0, .int 1, .int 2] := rfl
  have e6 : (List.range (6 : Int).toNat).map (fun (i : Nat) => TL.D.int (i : Int)) = [.int 0, .int 1, .int 2, .int 3, .int 4, .int 5] := rfl
  rw [e3] at rg3
  rw [e6] at rg6
  have nn : dEq (.lst []) (.lst []) = some (.bl true) := by
    rw [dEq_ok (okD_lst (n := 0) (ds := []) (by simp)) (okD_lst (n := 0) (ds := []) (by simp)) (by decide) (by decide), eqv_lst_nil]
    rfl
  have nall := ne_self (okD_str 0 (strOk_of "all")) (by decide)
  have e6' : ([0, 1, 2, 3, 4, 5] : List Nat).map (fun (k : Nat) => TL.D.int (k : Int)) = [.int 0, .int 1, .int 2, .int 3, .int 4, .int 5] := rfl
  rw [e6'] at L3
  simp only [badL, goodL, List.map_cons, List.map_nil, List.take, List.drop] at L1 L3 h22 h23 G5
  simp only [List.append_assoc, List.cons_append, List.nil_append] at y1 y2 y3 y4 y5 y6 y7 L3 R1 R2
  simp only [Option.isNone] at y1 y2
  try dsimp only at y3
  have LL2 : forE (TL.run Pg 59) (.nm 2) body2 [.tup [.str "without", .str "abc"], .tup [.str "within", .int 9]] [some (.fls (ns.map .int)), a1, none, none, none, none, none, none, some t1, some t2, some (.str (hereT t1)), some (.str (hereT t2)), a12, a13] st1 = .nx [some (.fls (ns.map .int)), a1, some (.tup [.str "within", .int 9]), none, none, none, none, none, some t1, some t2, some (.str (hereT t1)), some (.str (hereT t2)), c12, a13] st3 := by
    generalize body2 = B at *
    simp [forE_c, forE_nil, k_ForS, R1, R2]
  have LLd : ∀ st, forE (TL.run Pg 59) (.nm 4) [.set 3 (.o2 .add (.o2 .add (.con (.str "all ( ")) (.var 3)) (.con (.str " )")))] [.int 0, .int 1, .int 2] [some (.fls (ns.map .int)), a1, some (.tup [.str "within", .int 9]), some (.str "do a 1"), none, none, none, none, some t1, some t2, some (.str (hereT t1)), some (.str (hereT t2)), c12, a13] st = .nx [some (.fls (ns.map .int)), a1, some (.tup [.str "within", .int 9]), some (.str "all ( all ( all ( do a 1 ) ) )"), some (.int 2), none, none, none, some t1, some t2, some (.str (hereT t1)), some (.str (hereT t2)), c12, a13] st := fun st => by
    simp [forE_c, forE_nil, k_ForS, g1, g2, g3, g4, g5, g6]
  simp [c_law, enter, m0, m1, m2, w1, w2, o1, o2', wr1, wr2, L1, LL2, LLd, d1, d2, y1, e1, e2, y2, f1, f2, y3, na, rg3, g7, g8, y4, y5, y6, y7, nall, h22, h23, rg6, L3, G5, nn]

end TP

namespace TP
open PySem L2 TL
theorem all_mk {l : PySem.W.OpenLaw} {w : World} {K : PySem.W.Frag} {h : Heap} {mg : Str → Option Value} {f0 f1 f2 f3 f4 f5 f6 f7 f8 f9 f10 f11 f12 f13 f14 f15 f16 f17 f18 f19 f20 C x0 x1 : Addr} (X : K.In h) (G : h.Ns mainGlobals mg)
  {od0 an0 : Option Addr} {sl0 : Array (Option Value)} {oc0 kV0 dc0 pm0 cd0 ct0 : Value}
  {od1 an1 : Option Addr} {sl1 : Array (Option Value)} {oc1 kV1 dc1 pm1 cd1 ct1 : Value}
  {od2 an2 : Option Addr} {sl2 : Array (Option Value)} {oc2 kV2 dc2 pm2 cd2 ct2 : Value}
  {od3 an3 : Option Addr} {sl3 : Array (Option Value)} {oc3 kV3 dc3 pm3 cd3 ct3 : Value}
  {od4 an4 : Option Addr} {sl4 : Array (Option Value)} {oc4 kV4 dc4 pm4 cd4 ct4 : Value}
  {od5 an5 : Option Addr} {sl5 : Array (Option Value)} {oc5 kV5 dc5 pm5 cd5 ct5 : Value}
  {od6 an6 : Option Addr} {sl6 : Array (Option Value)} {oc6 kV6 dc6 pm6 cd6 ct6 : Value}
  {od7 an7 : Option Addr} {sl7 : Array (Option Value)} {oc7 kV7 dc7 pm7 cd7 ct7 : Value}
  {od8 an8 : Option Addr} {sl8 : Array (Option Value)} {oc8 kV8 dc8 pm8 cd8 ct8 : Value}
  {od9 an9 : Option Addr} {sl9 : Array (Option Value)} {oc9 kV9 dc9 pm9 cd9 ct9 : Value}
  {od10 an10 : Option Addr} {sl10 : Array (Option Value)} {oc10 kV10 dc10 pm10 cd10 ct10 : Value}
  {od11 an11 : Option Addr} {sl11 : Array (Option Value)} {oc11 kV11 dc11 pm11 cd11 ct11 : Value}
  {od12 an12 : Option Addr} {sl12 : Array (Option Value)} {oc12 kV12 dc12 pm12 cd12 ct12 : Value}
  {od13 an13 : Option Addr} {sl13 : Array (Option Value)} {oc13 kV13 dc13 pm13 cd13 ct13 : Value}
  {od14 an14 : Option Addr} {sl14 : Array (Option Value)} {oc14 kV14 dc14 pm14 cd14 ct14 : Value}
  {od15 an15 : Option Addr} {sl15 : Array (Option Value)} {oc15 kV15 dc15 pm15 cd15 ct15 : Value}
  {od16 an16 : Option Addr} {sl16 : Array (Option Value)} {oc16 kV16 dc16 pm16 cd16 ct16 : Value}
  {od17 an17 : Option Addr} {sl17 : Array (Option Value)} {oc17 kV17 dc17 pm17 cd17 ct17 : Value}
  {od18 an18 : Option Addr} {sl18 : Array (Option Value)} {oc18 kV18 dc18 pm18 cd18 ct18 : Value}
  {od19 an19 : Option Addr} {sl19 : Array (Option Value)} {oc19 kV19 dc19 pm19 cd19 ct19 : Value}
  {od20 an20 : Option Addr} {sl20 : Array (Option Value)} {oc20 kV20 dc20 pm20 cd20 ct20 : Value}
  (aC : PySem.W.nsIn K mainGlobals "Reader" = some (some (.ref C)))
  (ax0 : PySem.W.nsIn K mainGlobals "TaleError" = some (some (.ref x0)))
  (ax1 : PySem.W.nsIn K mainGlobals "NoText" = some (some (.ref x1)))
  (a0 : PySem.W.nsIn K mainGlobals "is_name" = some (some (.ref f0)))
  (l0 : K.lookup f0 = some ⟨oc0, od0, .func (PySem.W.fnOf "is_name" "is_name" (defArgs (top 11)) (defBody (top 11)) (defScope (top 11)) .none kV0 dc0 pm0 an0 cd0 ct0), sl0⟩) (c0 : PySem.W.codeIn K cd0 "is_name" = true) (k0 : PySem.W.keepIn K (.ref f0) = true)
  (a1 : PySem.W.nsIn K mainGlobals "is_whole" = some (some (.ref f1)))
  (l1 : K.lookup f1 = some ⟨oc1, od1, .func (PySem.W.fnOf "is_whole" "is_whole" (defArgs (top 12)) (defBody (top 12)) (defScope (top 12)) .none kV1 dc1 pm1 an1 cd1 ct1), sl1⟩) (c1 : PySem.W.codeIn K cd1 "is_whole" = true) (k1 : PySem.W.keepIn K (.ref f1) = true)
  (a2 : PySem.W.nsIn K mainGlobals "is_task_to" = some (some (.ref f2)))
  (l2 : K.lookup f2 = some ⟨oc2, od2, .func (PySem.W.fnOf "is_task_to" "is_task_to" (defArgs (top 13)) (defBody (top 13)) (defScope (top 13)) .none kV2 dc2 pm2 an2 cd2 ct2), sl2⟩) (c2 : PySem.W.codeIn K cd2 "is_task_to" = true) (k2 : PySem.W.keepIn K (.ref f2) = true)
  (a3 : PySem.W.nsIn K mainGlobals "is_task" = some (some (.ref f3)))
  (l3 : K.lookup f3 = some ⟨oc3, od3, .func (PySem.W.fnOf "is_task" "is_task" (defArgs (top 14)) (defBody (top 14)) (defScope (top 14)) .none kV3 dc3 pm3 an3 cd3 ct3), sl3⟩) (c3 : PySem.W.codeIn K cd3 "is_task" = true) (k3 : PySem.W.keepIn K (.ref f3) = true)
  (a4 : PySem.W.nsIn K mainGlobals "tasks_in" = some (some (.ref f4)))
  (l4 : K.lookup f4 = some ⟨oc4, od4, .func (PySem.W.fnOf "tasks_in" "tasks_in" (defArgs (top 15)) (defBody (top 15)) (defScope (top 15)) .none kV4 dc4 pm4 an4 cd4 ct4), sl4⟩) (c4 : PySem.W.codeIn K cd4 "tasks_in" = true) (k4 : PySem.W.keepIn K (.ref f4) = true)
  (a5 : PySem.W.nsIn K mainGlobals "size" = some (some (.ref f5)))
  (l5 : K.lookup f5 = some ⟨oc5, od5, .func (PySem.W.fnOf "size" "size" (defArgs (top 16)) (defBody (top 16)) (defScope (top 16)) .none kV5 dc5 pm5 an5 cd5 ct5), sl5⟩) (c5 : PySem.W.codeIn K cd5 "size" = true) (k5 : PySem.W.keepIn K (.ref f5) = true)
  (a6 : PySem.W.nsIn K mainGlobals "task_words" = some (some (.ref f6)))
  (l6 : K.lookup f6 = some ⟨oc6, od6, .func (PySem.W.fnOf "task_words" "task_words" (defArgs (top 18)) (defBody (top 18)) (defScope (top 18)) .none kV6 dc6 pm6 an6 cd6 ct6), sl6⟩) (c6 : PySem.W.codeIn K cd6 "task_words" = true) (k6 : PySem.W.keepIn K (.ref f6) = true)
  (a7 : PySem.W.nsIn K mainGlobals "written" = some (some (.ref f7)))
  (l7 : K.lookup f7 = some ⟨oc7, od7, .func (PySem.W.fnOf "written" "written" (defArgs (top 19)) (defBody (top 19)) (defScope (top 19)) .none kV7 dc7 pm7 an7 cd7 ct7), sl7⟩) (c7 : PySem.W.codeIn K cd7 "written" = true) (k7 : PySem.W.keepIn K (.ref f7) = true)
  (a8 : PySem.W.nsIn K mainGlobals "need" = some (some (.ref f8)))
  (l8 : K.lookup f8 = some ⟨oc8, od8, .func (PySem.W.fnOf "need" "need" (defArgs (top 23)) (defBody (top 23)) (defScope (top 23)) .none kV8 dc8 pm8 an8 cd8 ct8), sl8⟩) (c8 : PySem.W.codeIn K cd8 "need" = true) (k8 : PySem.W.keepIn K (.ref f8) = true)
  (a9 : PySem.W.nsIn K mainGlobals "read" = some (some (.ref f9)))
  (l9 : K.lookup f9 = some ⟨oc9, od9, .func (PySem.W.fnOf "read" "read" (defArgs (top 25)) (defBody (top 25)) (defScope (top 25)) .none kV9 dc9 pm9 an9 cd9 ct9), sl9⟩) (c9 : PySem.W.codeIn K cd9 "read" = true) (k9 : PySem.W.keepIn K (.ref f9) = true)
  (a10 : PySem.W.nsIn K mainGlobals "_law_cell_at" = some (some (.ref f10)))
  (l10 : K.lookup f10 = some ⟨oc10, od10, .func (PySem.W.fnOf "_law_cell_at" "_law_cell_at" (defArgs (top 27)) (defBody (top 27)) (defScope (top 27)) .none kV10 dc10 pm10 an10 cd10 ct10), sl10⟩) (c10 : PySem.W.codeIn K cd10 "_law_cell_at" = true) (k10 : PySem.W.keepIn K (.ref f10) = true)
  (a11 : PySem.W.nsIn K mainGlobals "_law_mixed" = some (some (.ref f11)))
  (l11 : K.lookup f11 = some ⟨oc11, od11, .func (PySem.W.fnOf "_law_mixed" "_law_mixed" (defArgs (top 28)) (defBody (top 28)) (defScope (top 28)) .none kV11 dc11 pm11 an11 cd11 ct11), sl11⟩) (c11 : PySem.W.codeIn K cd11 "_law_mixed" = true) (k11 : PySem.W.keepIn K (.ref f11) = true)
  (a12 : PySem.W.nsIn K mainGlobals "_law_drawn" = some (some (.ref f12)))
  (l12 : K.lookup f12 = some ⟨oc12, od12, .func (PySem.W.fnOf "_law_drawn" "_law_drawn" (defArgs (top 29)) (defBody (top 29)) (defScope (top 29)) .none kV12 dc12 pm12 an12 cd12 ct12), sl12⟩) (c12 : PySem.W.codeIn K cd12 "_law_drawn" = true) (k12 : PySem.W.keepIn K (.ref f12) = true)
  (a13 : PySem.W.nsIn K mainGlobals "_law_task" = some (some (.ref f13)))
  (l13 : K.lookup f13 = some ⟨oc13, od13, .func (PySem.W.fnOf "_law_task" "_law_task" (defArgs (top 30)) (defBody (top 30)) (defScope (top 30)) .none kV13 dc13 pm13 an13 cd13 ct13), sl13⟩) (c13 : PySem.W.codeIn K cd13 "_law_task" = true) (k13 : PySem.W.keepIn K (.ref f13) = true)
  (a14 : PySem.W.nsIn K mainGlobals "_law_none" = some (some (.ref f14)))
  (l14 : K.lookup f14 = some ⟨oc14, od14, .func (PySem.W.fnOf "_law_none" "_law_none" (defArgs (top 31)) (defBody (top 31)) (defScope (top 31)) .none kV14 dc14 pm14 an14 cd14 ct14), sl14⟩) (c14 : PySem.W.codeIn K cd14 "_law_none" = true) (k14 : PySem.W.keepIn K (.ref f14) = true)
  (a15 : PySem.W.nsIn K mainGlobals "law" = some (some (.ref f15)))
  (l15 : K.lookup f15 = some ⟨oc15, od15, .func (PySem.W.fnOf "law" "law" (defArgs (top 32)) (defBody (top 32)) (defScope (top 32)) .none kV15 dc15 pm15 an15 cd15 ct15), sl15⟩) (c15 : PySem.W.codeIn K cd15 "law" = true) (k15 : PySem.W.keepIn K (.ref f15) = true)
  (a16 : PySem.W.findIn K (.ref C) "__init__" = some (some (.ref f16))) (i16 : PySem.W.isFn K (.ref f16) = true)
  (l16 : K.lookup f16 = some ⟨oc16, od16, .func (PySem.W.fnOf "__init__" "Reader.__init__" (defArgs (inClass (top 24) 0)) (defBody (inClass (top 24) 0)) (defScope (inClass (top 24) 0)) .none kV16 dc16 pm16 an16 cd16 ct16), sl16⟩) (c16 : PySem.W.codeIn K cd16 "Reader.__init__" = true) (k16 : PySem.W.keepIn K (.ref f16) = true)
  (a17 : PySem.W.findIn K (.ref C) "word" = some (some (.ref f17))) (i17 : PySem.W.isFn K (.ref f17) = true)
  (l17 : K.lookup f17 = some ⟨oc17, od17, .func (PySem.W.fnOf "word" "Reader.word" (defArgs (inClass (top 24) 1)) (defBody (inClass (top 24) 1)) (defScope (inClass (top 24) 1)) .none kV17 dc17 pm17 an17 cd17 ct17), sl17⟩) (c17 : PySem.W.codeIn K cd17 "Reader.word" = true) (k17 : PySem.W.keepIn K (.ref f17) = true)
  (a18 : PySem.W.findIn K (.ref C) "number" = some (some (.ref f18))) (i18 : PySem.W.isFn K (.ref f18) = true)
  (l18 : K.lookup f18 = some ⟨oc18, od18, .func (PySem.W.fnOf "number" "Reader.number" (defArgs (inClass (top 24) 2)) (defBody (inClass (top 24) 2)) (defScope (inClass (top 24) 2)) .none kV18 dc18 pm18 an18 cd18 ct18), sl18⟩) (c18 : PySem.W.codeIn K cd18 "Reader.number" = true) (k18 : PySem.W.keepIn K (.ref f18) = true)
  (a19 : PySem.W.findIn K (.ref C) "group" = some (some (.ref f19))) (i19 : PySem.W.isFn K (.ref f19) = true)
  (l19 : K.lookup f19 = some ⟨oc19, od19, .func (PySem.W.fnOf "group" "Reader.group" (defArgs (inClass (top 24) 3)) (defBody (inClass (top 24) 3)) (defScope (inClass (top 24) 3)) .none kV19 dc19 pm19 an19 cd19 ct19), sl19⟩) (c19 : PySem.W.codeIn K cd19 "Reader.group" = true) (k19 : PySem.W.keepIn K (.ref f19) = true)
  (a20 : PySem.W.findIn K (.ref C) "task" = some (some (.ref f20))) (i20 : PySem.W.isFn K (.ref f20) = true)
  (l20 : K.lookup f20 = some ⟨oc20, od20, .func (PySem.W.fnOf "task" "Reader.task" (defArgs (inClass (top 24) 4)) (defBody (inClass (top 24) 4)) (defScope (inClass (top 24) 4)) .none kV20 dc20 pm20 an20 cd20 ct20), sl20⟩) (c20 : PySem.W.codeIn K cd20 "Reader.task" = true) (k20 : PySem.W.keepIn K (.ref f20) = true)
  (pg : PySem.W.plainGet K C Str.empty = true) (hd : PySem.W.hasDictIn K C = true) (po : PySem.W.plainOver K C = true) (sa : PySem.W.findIn K (.ref C) "__setattr__" = some (some (.builtin "object.__setattr__"))) (mk : PySem.W.makesIn K C = true) (kc : PySem.W.keepIn K (.ref C) = true)
  (nf0 : PySem.W.findIn K (.ref C) "words" = some none)
  (nf1 : PySem.W.findIn K (.ref C) "at" = some none)
  (xx0 : PySem.W.excIn K x0 [.type "ValueError", .type "Exception", .type "BaseException", .type "object"] "ValueError.__new__" = true) (kx0 : PySem.W.keepIn K (.ref x0) = true) (bx0 : PySem.W.subIn K (.ref x0) (.type "BaseException") = some true) (tx0 : PySem.W.typeIn K (.ref x0) = some (.type "type")) (ix0 : PySem.W.isClsIn K x0 = true)
  (xx1 : PySem.W.excIn K x1 [.type "ValueError", .type "Exception", .type "BaseException", .type "object"] "ValueError.__new__" = true) (kx1 : PySem.W.keepIn K (.ref x1) = true) (bx1 : PySem.W.subIn K (.ref x1) (.type "BaseException") = some true) (tx1 : PySem.W.typeIn K (.ref x1) = some (.type "type")) (ix1 : PySem.W.isClsIn K x1 = true)
  (sx0_1 : PySem.W.subIn K (.ref x0) (.ref x1) = some false)
  (sx1_1 : PySem.W.subIn K (.ref x1) (.ref x1) = some true)
  {tk0 : Tok} (q0 : PySem.W.nsIn K mainGlobals "DEEPEST_reading" = some (some (.int 6 tk0)))
  {tk1 : Tok} (q1 : PySem.W.nsIn K mainGlobals "DEEPEST_tasks" = some (some (.int 4 tk1)))
  {tk2 : Tok} (q2 : PySem.W.nsIn K mainGlobals "FIGURES" = some (some (.str "0123456789" tk2)))
  {qa3 : Addr} {qd3 : Option Addr} {qn3 : Nat} {qs3 : Array (Option Value)} {tk3_0 tk3_1 tk3_2 : Tok} (q3 : PySem.W.nsIn K mainGlobals "GROUPS" = some (some (.ref qa3))) (ql3 : K.lookup qa3 = some ⟨.type "tuple", qd3, .seq #[.str "all" tk3_0, .str "any" tk3_1, .str "then" tk3_2] qn3, qs3⟩)
  {tk4 : Tok} (q4 : PySem.W.nsIn K mainGlobals "LETTERS" = some (some (.str "abcdefghijklmnopqrstuvwxyz" tk4)))
  {tk5 : Tok} (q5 : PySem.W.nsIn K mainGlobals "LONGEST" = some (some (.int 5 tk5)))
  {tk6 : Tok} (q6 : PySem.W.nsIn K mainGlobals "MOST_OFTEN" = some (some (.int 4 tk6)))
  {tk7 : Tok} (q7 : PySem.W.nsIn K mainGlobals "MOST_TASKS" = some (some (.int 3 tk7)))
  {tk8 : Tok} (q8 : PySem.W.nsIn K mainGlobals "MOST_WITHIN" = some (some (.int 9 tk8)))
  (z0 : PySem.W.nsIn K mainGlobals "all" = some none)
  (z1 : PySem.W.nsIn K mainGlobals "bool" = some none)
  (z2 : PySem.W.nsIn K mainGlobals "int" = some none)
  (z3 : PySem.W.nsIn K mainGlobals "isinstance" = some none)
  (z4 : PySem.W.nsIn K mainGlobals "len" = some none)
  (z5 : PySem.W.nsIn K mainGlobals "max" = some none)
  (z6 : PySem.W.nsIn K mainGlobals "range" = some none)
  (z7 : PySem.W.nsIn K mainGlobals "str" = some none)
  (z8 : PySem.W.nsIn K mainGlobals "sum" = some none)
  (z9 : PySem.W.nsIn K mainGlobals "tuple" = some none)
  : ProgOk K mg Gt Ts (fun j => ([.ref x0, .ref x1] : List Value).getD j .none) where
  fns := by decide +kernel
  chk := by
    intro t ht
    rcases List.mem_cons.mp ht with rfl | ht
    · exact TP.k0
    rcases List.mem_cons.mp ht with rfl | ht
    · exact TP.k1
    rcases List.mem_cons.mp ht with rfl | ht
    · exact TP.k2
    rcases List.mem_cons.mp ht with rfl | ht
    · exact TP.k3
    rcases List.mem_cons.mp ht with rfl | ht
    · exact TP.k4
    rcases List.mem_cons.mp ht with rfl | ht
    · exact TP.k5
    rcases List.mem_cons.mp ht with rfl | ht
    · exact TP.k6
    rcases List.mem_cons.mp ht with rfl | ht
    · exact TP.k7
    rcases List.mem_cons.mp ht with rfl | ht
    · exact TP.k8
    rcases List.mem_cons.mp ht with rfl | ht
    · exact TP.k9
    rcases List.mem_cons.mp ht with rfl | ht
    · exact TP.k10
    rcases List.mem_cons.mp ht with rfl | ht
    · exact TP.k11
    rcases List.mem_cons.mp ht with rfl | ht
    · exact TP.k12
    rcases List.mem_cons.mp ht with rfl | ht
    · exact TP.k13
    rcases List.mem_cons.mp ht with rfl | ht
    · exact TP.k14
    rcases List.mem_cons.mp ht with rfl | ht
    · exact TP.k15
    rcases List.mem_cons.mp ht with rfl | ht
    · exact TP.k16
    rcases List.mem_cons.mp ht with rfl | ht
    · exact TP.k17
    rcases List.mem_cons.mp ht with rfl | ht
    · exact TP.k18
    rcases List.mem_cons.mp ht with rfl | ht
    · exact TP.k19
    rcases List.mem_cons.mp ht with rfl | ht
    · exact TP.k20
    cases ht
  at_ := by
    intro t ht hq
    rcases List.mem_cons.mp ht with rfl | ht
    · exact ⟨f0, _, fun_mk (st := (top 11)) l0 c0 k0, PySem.W.mg_of X G a0, (fun_mk (st := (top 11)) l0 c0 k0).binds fun _ _ _ _ _ _ us hl => match us, hl with | [_], _ => rfl⟩
    rcases List.mem_cons.mp ht with rfl | ht
    · exact ⟨f1, _, fun_mk (st := (top 12)) l1 c1 k1, PySem.W.mg_of X G a1, (fun_mk (st := (top 12)) l1 c1 k1).binds fun _ _ _ _ _ _ us hl => match us, hl with | [_, _, _], _ => rfl⟩
    rcases List.mem_cons.mp ht with rfl | ht
    · exact ⟨f2, _, fun_mk (st := (top 13)) l2 c2 k2, PySem.W.mg_of X G a2, (fun_mk (st := (top 13)) l2 c2 k2).binds fun _ _ _ _ _ _ us hl => match us, hl with | [_, _], _ => rfl⟩
    rcases List.mem_cons.mp ht with rfl | ht
    · exact ⟨f3, _, fun_mk (st := (top 14)) l3 c3 k3, PySem.W.mg_of X G a3, (fun_mk (st := (top 14)) l3 c3 k3).binds fun _ _ _ _ _ _ us hl => match us, hl with | [_], _ => rfl⟩
    rcases List.mem_cons.mp ht with rfl | ht
    · exact ⟨f4, _, fun_mk (st := (top 15)) l4 c4 k4, PySem.W.mg_of X G a4, (fun_mk (st := (top 15)) l4 c4 k4).binds fun _ _ _ _ _ _ us hl => match us, hl with | [_], _ => rfl⟩
    rcases List.mem_cons.mp ht with rfl | ht
    · exact ⟨f5, _, fun_mk (st := (top 16)) l5 c5 k5, PySem.W.mg_of X G a5, (fun_mk (st := (top 16)) l5 c5 k5).binds fun _ _ _ _ _ _ us hl => match us, hl with | [_], _ => rfl⟩
    rcases List.mem_cons.mp ht with rfl | ht
    · exact ⟨f6, _, fun_mk (st := (top 18)) l6 c6 k6, PySem.W.mg_of X G a6, (fun_mk (st := (top 18)) l6 c6 k6).binds fun _ _ _ _ _ _ us hl => match us, hl with | [_], _ => rfl⟩
    rcases List.mem_cons.mp ht with rfl | ht
    · exact ⟨f7, _, fun_mk (st := (top 19)) l7 c7 k7, PySem.W.mg_of X G a7, (fun_mk (st := (top 19)) l7 c7 k7).binds fun _ _ _ _ _ _ us hl => match us, hl with | [_], _ => rfl⟩
    rcases List.mem_cons.mp ht with rfl | ht
    · exact ⟨f8, _, fun_mk (st := (top 23)) l8 c8 k8, PySem.W.mg_of X G a8, (fun_mk (st := (top 23)) l8 c8 k8).binds fun _ _ _ _ _ _ us hl => match us, hl with | [_], _ => rfl⟩
    rcases List.mem_cons.mp ht with rfl | ht
    · exact ⟨f9, _, fun_mk (st := (top 25)) l9 c9 k9, PySem.W.mg_of X G a9, (fun_mk (st := (top 25)) l9 c9 k9).binds fun _ _ _ _ _ _ us hl => match us, hl with | [_], _ => rfl⟩
    rcases List.mem_cons.mp ht with rfl | ht
    · exact ⟨f10, _, fun_mk (st := (top 27)) l10 c10 k10, PySem.W.mg_of X G a10, (fun_mk (st := (top 27)) l10 c10 k10).binds fun _ _ _ _ _ _ us hl => match us, hl with | [_, _], _ => rfl⟩
    rcases List.mem_cons.mp ht with rfl | ht
    · exact ⟨f11, _, fun_mk (st := (top 28)) l11 c11 k11, PySem.W.mg_of X G a11, (fun_mk (st := (top 28)) l11 c11 k11).binds fun _ _ _ _ _ _ us hl => match us, hl with | [_, _], _ => rfl⟩
    rcases List.mem_cons.mp ht with rfl | ht
    · exact ⟨f12, _, fun_mk (st := (top 29)) l12 c12 k12, PySem.W.mg_of X G a12, (fun_mk (st := (top 29)) l12 c12 k12).binds fun _ _ _ _ _ _ us hl => match us, hl with | [_, _], _ => rfl⟩
    rcases List.mem_cons.mp ht with rfl | ht
    · exact ⟨f13, _, fun_mk (st := (top 30)) l13 c13 k13, PySem.W.mg_of X G a13, (fun_mk (st := (top 30)) l13 c13 k13).binds fun _ _ _ _ _ _ us hl => match us, hl with | [_, _, _], _ => rfl⟩
    rcases List.mem_cons.mp ht with rfl | ht
    · exact ⟨f14, _, fun_mk (st := (top 31)) l14 c14 k14, PySem.W.mg_of X G a14, (fun_mk (st := (top 31)) l14 c14 k14).binds fun _ _ _ _ _ _ us hl => match us, hl with | [_], _ => rfl⟩
    rcases List.mem_cons.mp ht with rfl | ht
    · exact ⟨f15, _, fun_mk (st := (top 32)) l15 c15 k15, PySem.W.mg_of X G a15, (fun_mk (st := (top 32)) l15 c15 k15).binds fun _ _ _ _ _ _ us hl => match us, hl with | [_], _ => rfl⟩
    rcases List.mem_cons.mp ht with rfl | ht
    · exact absurd hq (by decide +kernel)
    rcases List.mem_cons.mp ht with rfl | ht
    · exact absurd hq (by decide +kernel)
    rcases List.mem_cons.mp ht with rfl | ht
    · exact absurd hq (by decide +kernel)
    rcases List.mem_cons.mp ht with rfl | ht
    · exact absurd hq (by decide +kernel)
    rcases List.mem_cons.mp ht with rfl | ht
    · exact absurd hq (by decide +kernel)
    cases ht
  exc := by
    intro j x h
    match j, h with
    | 0, h =>
      have e := Option.some.inj (show some ("TaleError" : Str) = some x from h)
      subst e
      exact ⟨x0, _, _, _, _, rfl, PySem.W.mg_of X G ax0, PySem.F.excBase_ValueError, xx0, kx0, bx0, tx0⟩
    | 1, h =>
      have e := Option.some.inj (show some ("NoText" : Str) = some x from h)
      subst e
      exact ⟨x1, _, _, _, _, rfl, PySem.W.mg_of X G ax1, PySem.F.excBase_ValueError, xx1, kx1, bx1, tx1⟩
    | _ + 2, h => exact nomatch (show (none : Option Str) = some x from h)
  exm := by
    intro i j b h
    rcases List.mem_cons.mp h with e | h
    · cases e
      exact exm_any bx1 ix1 tx1 sx0_1
    rcases List.mem_cons.mp h with e | h
    · cases e
      exact exm_any bx1 ix1 tx1 sx1_1
    cases h
  clss := by
    intro ct hct
    rcases List.mem_cons.mp hct with rfl | hct
    · refine ⟨C, PySem.W.mg_of X G aC, aC, ⟨pg, hd, po, sa⟩, ?_, ?_, f16, _, t16, rfl, ⟨mk, a16, i16, kc⟩, fun_mk (st := (inClass (top 24) 0)) l16 c16 k16, (fun_mk (st := (inClass (top 24) 0)) l16 c16 k16).binds fun _ _ _ _ _ _ us hl => match us, hl with | [_, _], _ => rfl⟩
      · intro f hf
        rcases List.mem_cons.mp hf with rfl | hf
        · exact nf0
        rcases List.mem_cons.mp hf with rfl | hf
        · exact nf1
        cases hf
      · intro m i hm
        rcases List.mem_cons.mp hm with e | hm
        · cases e
          exact ⟨f17, _, t17, rfl, ⟨a17, i17, k17⟩, fun_mk (st := (inClass (top 24) 1)) l17 c17 k17, (fun_mk (st := (inClass (top 24) 1)) l17 c17 k17).binds fun _ _ _ _ _ _ us hl => match us, hl with | [_], _ => rfl⟩
        rcases List.mem_cons.mp hm with e | hm
        · cases e
          exact ⟨f18, _, t18, rfl, ⟨a18, i18, k18⟩, fun_mk (st := (inClass (top 24) 2)) l18 c18 k18, (fun_mk (st := (inClass (top 24) 2)) l18 c18 k18).binds fun _ _ _ _ _ _ us hl => match us, hl with | [_], _ => rfl⟩
        rcases List.mem_cons.mp hm with e | hm
        · cases e
          exact ⟨f19, _, t19, rfl, ⟨a19, i19, k19⟩, fun_mk (st := (inClass (top 24) 3)) l19 c19 k19, (fun_mk (st := (inClass (top 24) 3)) l19 c19 k19).binds fun _ _ _ _ _ _ us hl => match us, hl with | [_, _], _ => rfl⟩
        rcases List.mem_cons.mp hm with e | hm
        · cases e
          exact ⟨f20, _, t20, rfl, ⟨a20, i20, k20⟩, fun_mk (st := (inClass (top 24) 4)) l20 c20 k20, (fun_mk (st := (inClass (top 24) 4)) l20 c20 k20).binds fun _ _ _ _ _ _ us hl => match us, hl with | [_, _], _ => rfl⟩
        cases hm
    cases hct
  cst := by
    intro x d h
    by_cases e0 : x = "DEEPEST_reading"
    · subst e0
      have hd : List.lookup ("DEEPEST_reading" : Str) Gt.consts = some (.int 6 : TL.D) := by rfl
      rw [hd] at h
      cases h
      exact ⟨_, .int 6, PySem.W.mg_of X G q0, ⟨_, rfl⟩, fun _ _ _ => rfl⟩
    by_cases e1 : x = "DEEPEST_tasks"
    · subst e1
      have hd : List.lookup ("DEEPEST_tasks" : Str) Gt.consts = some (.int 4 : TL.D) := by rfl
      rw [hd] at h
      cases h
      exact ⟨_, .int 4, PySem.W.mg_of X G q1, ⟨_, rfl⟩, fun _ _ _ => rfl⟩
    by_cases e2 : x = "FIGURES"
    · subst e2
      have hd : List.lookup ("FIGURES" : Str) Gt.consts = some (.str "0123456789" : TL.D) := by rfl
      rw [hd] at h
      cases h
      exact ⟨_, .str "0123456789", PySem.W.mg_of X G q2, ⟨_, rfl⟩, fun _ _ _ => ⟨rfl, by decide +kernel⟩⟩
    by_cases e3 : x = "GROUPS"
    · subst e3
      have hd : List.lookup ("GROUPS" : Str) Gt.consts = some (.tup [.str "all", .str "any", .str "then"] : TL.D) := by rfl
      rw [hd] at h
      cases h
      exact ⟨_, .ref qa3, PySem.W.mg_of X G q3, rfl, fun _ _ _ => ⟨by decide, qa3, [.str "all", .str "any", .str "then"], rfl, .inr ⟨_, _, _, ql3, rfl, rfl, (show 3 ≤ PySem.sizeLine from by decide), .cons ⟨_, rfl⟩ (.cons ⟨_, rfl⟩ (.cons ⟨_, rfl⟩ (.nil)))⟩, ⟨_, _, rfl, ⟨rfl, by decide +kernel⟩, ⟨_, _, rfl, ⟨rfl, by decide +kernel⟩, ⟨_, _, rfl, ⟨rfl, by decide +kernel⟩, rfl⟩⟩⟩⟩⟩
    by_cases e4 : x = "LETTERS"
    · subst e4
      have hd : List.lookup ("LETTERS" : Str) Gt.consts = some (.str "abcdefghijklmnopqrstuvwxyz" : TL.D) := by rfl
      rw [hd] at h
      cases h
      exact ⟨_, .str "abcdefghijklmnopqrstuvwxyz", PySem.W.mg_of X G q4, ⟨_, rfl⟩, fun _ _ _ => ⟨rfl, by decide +kernel⟩⟩
    by_cases e5 : x = "LONGEST"
    · subst e5
      have hd : List.lookup ("LONGEST" : Str) Gt.consts = some (.int 5 : TL.D) := by rfl
      rw [hd] at h
      cases h
      exact ⟨_, .int 5, PySem.W.mg_of X G q5, ⟨_, rfl⟩, fun _ _ _ => rfl⟩
    by_cases e6 : x = "MOST_OFTEN"
    · subst e6
      have hd : List.lookup ("MOST_OFTEN" : Str) Gt.consts = some (.int 4 : TL.D) := by rfl
      rw [hd] at h
      cases h
      exact ⟨_, .int 4, PySem.W.mg_of X G q6, ⟨_, rfl⟩, fun _ _ _ => rfl⟩
    by_cases e7 : x = "MOST_TASKS"
    · subst e7
      have hd : List.lookup ("MOST_TASKS" : Str) Gt.consts = some (.int 3 : TL.D) := by rfl
      rw [hd] at h
      cases h
      exact ⟨_, .int 3, PySem.W.mg_of X G q7, ⟨_, rfl⟩, fun _ _ _ => rfl⟩
    by_cases e8 : x = "MOST_WITHIN"
    · subst e8
      have hd : List.lookup ("MOST_WITHIN" : Str) Gt.consts = some (.int 9 : TL.D) := by rfl
      rw [hd] at h
      cases h
      exact ⟨_, .int 9, PySem.W.mg_of X G q8, ⟨_, rfl⟩, fun _ _ _ => rfl⟩
    have hn : Gt.consts.lookup x = none := by
      show List.lookup x ([("DEEPEST_reading", .int 6), ("DEEPEST_tasks", .int 4), ("FIGURES", .str "0123456789"), ("GROUPS", .tup [.str "all", .str "any", .str "then"]), ("LETTERS", .str "abcdefghijklmnopqrstuvwxyz"), ("LONGEST", .int 5), ("MOST_OFTEN", .int 4), ("MOST_TASKS", .int 3), ("MOST_WITHIN", .int 9)] : List (Str × TL.D)) = none
      simp only [List.lookup_cons, List.lookup_nil]
      rw [show (x == ("DEEPEST_reading" : Str)) = false from by simpa using e0]
      rw [show (x == ("DEEPEST_tasks" : Str)) = false from by simpa using e1]
      rw [show (x == ("FIGURES" : Str)) = false from by simpa using e2]
      rw [show (x == ("GROUPS" : Str)) = false from by simpa using e3]
      rw [show (x == ("LETTERS" : Str)) = false from by simpa using e4]
      rw [show (x == ("LONGEST" : Str)) = false from by simpa using e5]
      rw [show (x == ("MOST_OFTEN" : Str)) = false from by simpa using e6]
      rw [show (x == ("MOST_TASKS" : Str)) = false from by simpa using e7]
      rw [show (x == ("MOST_WITHIN" : Str)) = false from by simpa using e8]
    rw [hn] at h
    cases h
  blt := by
    intro x hx
    rcases List.mem_cons.mp hx with rfl | hx
    · exact PySem.W.mg_none_of X G z0
    rcases List.mem_cons.mp hx with rfl | hx
    · exact PySem.W.mg_none_of X G z1
    rcases List.mem_cons.mp hx with rfl | hx
    · exact PySem.W.mg_none_of X G z2
    rcases List.mem_cons.mp hx with rfl | hx
    · exact PySem.W.mg_none_of X G z3
    rcases List.mem_cons.mp hx with rfl | hx
    · exact PySem.W.mg_none_of X G z4
    rcases List.mem_cons.mp hx with rfl | hx
    · exact PySem.W.mg_none_of X G z5
    rcases List.mem_cons.mp hx with rfl | hx
    · exact PySem.W.mg_none_of X G z6
    rcases List.mem_cons.mp hx with rfl | hx
    · exact PySem.W.mg_none_of X G z7
    rcases List.mem_cons.mp hx with rfl | hx
    · exact PySem.W.mg_none_of X G z8
    rcases List.mem_cons.mp hx with rfl | hx
    · exact PySem.W.mg_none_of X G z9
    cases hx
end TP
open PySem PySem.W PyProof.Rows
set_option maxRecDepth 100000 in
set_option maxHeartbeats 0 in
theorem PySem.Challenge.cw_taletask_k03_whole_texts_of_parts_holds : PySem.Challenge.rw_taletask_k03_whole_texts_of_parts.Holds := by
  w_on; o_law; k_head; (case hw => w_witness2)
  k_fill
  refine TL.walk (l := PySem.Challenge.rw_taletask_k03_whole_texts_of_parts) (G := TP.Gt) (T := TP.Ts) (t := TP.t15) (i := 15) (n := TP.lawN) (x := "_law_script") rfl rfl ⟨rfl, by decide, by decide⟩ (fun w h Y => PySem.W.kIn_of Y) rfl rfl rfl rfl ?F (fun w fa fd Fu s u => by obtain ⟨_, _, _, _, _, _, _, _, _, rfl, _, _⟩ := Fu.ex; exact .of_eq rfl) TP.law_holds
  case F =>
    intro w mg h KX G
    refine' ⟨_, TP.all_mk (l := PySem.Challenge.rw_taletask_k03_whole_texts_of_parts) (w := w) KX G ?aC ?ax0 ?ax1 ?a0 ?l0 ?c0 ?k0 ?a1 ?l1 ?c1 ?k1 ?a2 ?l2 ?c2 ?k2 ?a3 ?l3 ?c3 ?k3 ?a4 ?l4 ?c4 ?k4 ?a5 ?l5 ?c5 ?k5 ?a6 ?l6 ?c6 ?k6 ?a7 ?l7 ?c7 ?k7 ?a8 ?l8 ?c8 ?k8 ?a9 ?l9 ?c9 ?k9 ?a10 ?l10 ?c10 ?k10 ?a11 ?l11 ?c11 ?k11 ?a12 ?l12 ?c12 ?k12 ?a13 ?l13 ?c13 ?k13 ?a14 ?l14 ?c14 ?k14 ?a15 ?l15 ?c15 ?k15 ?a16 ?i16 ?l16 ?c16 ?k16 ?a17 ?i17 ?l17 ?c17 ?k17 ?a18 ?i18 ?l18 ?c18 ?k18 ?a19 ?i19 ?l19 ?c19 ?k19 ?a20 ?i20 ?l20 ?c20 ?k20 ?pg ?hd ?po ?sa ?mk ?kc ?nf0 ?nf1 ?xx0 ?kx0 ?bx0 ?tx0 ?ix0 ?xx1 ?kx1 ?bx1 ?tx1 ?ix1 ?sx0_1 ?sx1_1 ?q0 ?q1 ?q2 ?q3 ?ql3 ?q4 ?q5 ?q6 ?q7 ?q8 ?z0 ?z1 ?z2 ?z3 ?z4 ?z5 ?z6 ?z7 ?z8 ?z9⟩
    (case aC => k_is)
    (case ax0 => k_is)
    (case ax1 => k_is)
    (case a0 => k_is)
    (case l0 => k_is)
    (case c0 => k_is)
    (case k0 => k_is)
    (case a1 => k_is)
    (case l1 => k_is)
    (case c1 => k_is)
    (case k1 => k_is)
    (case a2 => k_is)
    (case l2 => k_is)
    (case c2 => k_is)
    (case k2 => k_is)
    (case a3 => k_is)
    (case l3 => k_is)
    (case c3 => k_is)
    (case k3 => k_is)
    (case a4 => k_is)
    (case l4 => k_is)
    (case c4 => k_is)
    (case k4 => k_is)
    (case a5 => k_is)
    (case l5 => k_is)
    (case c5 => k_is)
    (case k5 => k_is)
    (case a6 => k_is)
    (case l6 => k_is)
    (case c6 => k_is)
    (case k6 => k_is)
    (case a7 => k_is)
    (case l7 => k_is)
    (case c7 => k_is)
    (case k7 => k_is)
    (case a8 => k_is)
    (case l8 => k_is)
    (case c8 => k_is)
    (case k8 => k_is)
    (case a9 => k_is)
    (case l9 => k_is)
    (case c9 => k_is)
    (case k9 => k_is)
    (case a10 => k_is)
    (case l10 => k_is)
    (case c10 => k_is)
    (case k10 => k_is)
    (case a11 => k_is)
    (case l11 => k_is)
    (case c11 => k_is)
    (case k11 => k_is)
    (case a12 => k_is)
    (case l12 => k_is)
    (case c12 => k_is)
    (case k12 => k_is)
    (case a13 => k_is)
    (case l13 => k_is)
    (case c13 => k_is)
    (case k13 => k_is)
    (case a14 => k_is)
    (case l14 => k_is)
    (case c14 => k_is)
    (case k14 => k_is)
    (case a15 => k_is)
    (case l15 => k_is)
    (case c15 => k_is)
    (case k15 => k_is)
    (case a16 => k_is)
    (case i16 => k_is)
    (case l16 => k_is)
    (case c16 => k_is)
    (case k16 => k_is)
    (case a17 => k_is)
    (case i17 => k_is)
    (case l17 => k_is)
    (case c17 => k_is)
    (case k17 => k_is)
    (case a18 => k_is)
    (case i18 => k_is)
    (case l18 => k_is)
    (case c18 => k_is)
    (case k18 => k_is)
    (case a19 => k_is)
    (case i19 => k_is)
    (case l19 => k_is)
    (case c19 => k_is)
    (case k19 => k_is)
    (case a20 => k_is)
    (case i20 => k_is)
    (case l20 => k_is)
    (case c20 => k_is)
    (case k20 => k_is)
    (case pg => k_is)
    (case hd => k_is)
    (case po => k_is)
    (case sa => k_is)
    (case mk => k_is)
    (case kc => k_is)
    (case nf0 => k_is)
    (case nf1 => k_is)
    (case xx0 => k_exc)
    (case kx0 => k_is)
    (case bx0 => k_is)
    (case tx0 => k_is)
    (case ix0 => k_is)
    (case xx1 => k_exc)
    (case kx1 => k_is)
    (case bx1 => k_is)
    (case tx1 => k_is)
    (case ix1 => k_is)
    (case sx0_1 => first | rfl | k_is)
    (case sx1_1 => first | rfl | k_is)
    (case q0 => k_is)
    (case q1 => k_is)
    (case q2 => k_is)
    (case q3 => k_is)
    (case ql3 => k_is)
    (case q4 => k_is)
    (case q5 => k_is)
    (case q6 => k_is)
    (case q7 => k_is)
    (case q8 => k_is)
    (case z0 => k_is)
    (case z1 => k_is)
    (case z2 => k_is)
    (case z3 => k_is)
    (case z4 => k_is)
    (case z5 => k_is)
    (case z6 => k_is)
    (case z7 => k_is)
    (case z8 => k_is)
    (case z9 => k_is)

