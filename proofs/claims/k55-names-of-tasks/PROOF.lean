import PyProof.Rows.All
import Wide.All
import OpenK.AllK
import Wide.FinOn
import HandS.ForMost
import HandS.ForExc
import HandS.Deep
import HandS.TupAny
import HandS.TupMul
import HandS.IsInst
import HandS.TupLe
import KE.KDictDisplayH
import HandS.Style
import KE.GoesMore
import HandS.Iter
import HandS.SetTxt0
import HandS.SetFor
import HandS.Strs
import HandS.SortKw
import KE.DatumOrd
import HandS.DictTup
import KE.KDictWalk
import HandS.Zip0
import KE.KDictZip
import HandS.Dict
import HandS.Call
import HandS.More
import HandS.NoneIn
import HandS.ExcOwn
import HandS.TryOnly
import HandS.Text
import PySem.Challenge.RW_taletask_k55_whole_names_of_tasks
set_option Elab.async false
set_option linter.all false
set_option maxRecDepth 100000
namespace TL
open PySem L2

/-- values. lst, dic: lists and dicts that nobody changes any more; fls: a list that is read alone (the script); mlst, mset: a list, a dict of keys, owned by one name -/
inductive D where
  | non | bl (b : Bool) | int (i : Int) | str (x : Str)
  | tup (ds : List D) | lst (ds : List D) | fls (ds : List D) | dic (kvs : List (Str × D))
  | ref (l : Nat) | clo (k : Nat) (ds : List D)
  | mlst (ds : List D) | mset (ks : List D) | mdic (kvs : List (Str × D)) | ins (c : Str) (fs : List (Str × D))
  | ptr (l : Nat) (p : List Str) | err (c : Nat)
  deriving Inhabited

/-- owned by a name: no value to be handed on -/
def D.own : D → Bool
  | .mlst _ | .mset _ | .mdic _ | .ins _ _ | .clo _ _ | .err _ => true
  | _ => false

mutual
def D.py : D → PyData
  | .non => .none
  | .bl b => .bool b
  | .int i => .int i
  | .str x => .str x
  | .tup ds => .tuple (pys ds)
  | .lst ds => .list (pys ds)
  | .fls ds => .list (pys ds)
  | _ => .dict []
def pys : List D → List PyData
  | [] => []
  | d :: ds => d.py :: pys ds
end
/-- == of two values -/
def D.eqv (d e : D) : Bool := PyData.eqv d.py e.py
/-- plain data, not too deep: what == may be asked of -/
def D.shp (d : D) : Bool := SeqAt.shaped d.py

inductive R (α : Type) where
  | ok (a : α) (st : List D)
  | exc (c : Nat) (st : List D)
  | fail
def R.bind {α β : Type} : R α → (α → List D → R β) → R β
  | .ok a st, f => f a st
  | .exc c st, _ => .exc c st
  | .fail, _ => .fail
def R.lift {α : Type} (st : List D) : Option α → R α
  | some a => .ok a st
  | none => .fail
/-- within a comprehension nothing may be raised -/
def R.quiet {α : Type} : R α → R α
  | .exc _ _ => .fail
  | r => r

abbrev Env := List (Option D)
abbrev Sto := List D
abbrev Cal := Nat → List D → Sto → R D

def cutD {α : Type} (xs : List α) (lo hi : Option Int) : List α := (xs.drop (HT.sIx xs.length 0 lo)).take (HT.sIx xs.length xs.length hi - HT.sIx xs.length 0 lo)
def sign (c : Nat) : D := .str ⟨#[c]⟩

inductive O1 where
  | len | tuple | list | sum | all | int | str | sortedSet | sorted | isStr | isInt | isBool | isTuple | isNone | notNone | rev | max | min | minN
  deriving DecidableEq
inductive O2 where
  | add | sub | mul | div | mod | eq | ne | lt | le | gt | ge | isIn | notIn | ix | max | min | join | split | isB | isNotB | index
  deriving DecidableEq
inductive IK where
  | tup | lst | fls | str | rng | enumT | enumL
  deriving DecidableEq

def dAdd : D → D → Option D
  | .int i, .int j => some (.int (i + j))
  | .str x, .str y => if x.length + y.length ≤ sizeLine then some (.str (x ++ y)) else none
  | .tup a, .tup b => if a.length + b.length ≤ sizeLine then some (.tup (a ++ b)) else none
  | .lst a, .lst b => if a.length + b.length ≤ sizeLine then some (.lst (a ++ b)) else none
  | _, _ => none
def dSub : D → D → Option D
  | .int i, .int j => some (.int (i - j))
  | _, _ => none
def dMul : D → D → Option D
  | .int i, .int j => if (-(2 ^ 64) < i ∧ i < 2 ^ 64) ∨ (-(2 ^ 64) < j ∧ j < 2 ^ 64) then some (.int (i * j)) else none
  | .lst a, .int k => if 0 ≤ k ∧ k < 2 ^ 63 ∧ a.length * k.toNat ≤ sizeLine then some (.lst (List.replicate k.toNat a).flatten) else none
  | .tup a, .int k => if k = 1 then some (.tup a) else if a ≠ [] ∧ 2 ≤ k ∧ k ≤ 1000 ∧ a.length ≤ 1000 then some (.tup (List.replicate k.toNat a).flatten) else none
  | _, _ => none
def dDiv : D → D → Option D
  | .int i, .int j => if 0 < j ∧ j < 1073741824 then some (.int (i / j)) else none
  | _, _ => none
def dMod : D → D → Option D
  | .int i, .int j => if 0 < j then some (.int (i % j)) else none
  | _, _ => none
def dEq (a b : D) : Option D := if a.shp && b.shp then some (.bl (a.eqv b)) else none
def dNe (a b : D) : Option D := if a.shp && b.shp then some (.bl (!a.eqv b)) else none
def dLt : D → D → Option D
  | .int i, .int j => some (.bl (decide (i < j)))
  | _, _ => none
def dLe : D → D → Option D
  | .int i, .int j => some (.bl (decide (i ≤ j)))
  | .str x, .str y => some (.bl (!decide (y.cps.toList < x.cps.toList)))
  | _, _ => none
def dGt : D → D → Option D
  | .int i, .int j => some (.bl (decide (j < i)))
  | _, _ => none
def dGe : D → D → Option D
  | .int i, .int j => some (.bl (decide (j ≤ i)))
  | _, _ => none
mutual
def hsb : D → Bool
  | .non => true
  | .int _ => true
  | .str _ => true
  | .tup ds => hsbs ds
  | _ => false
def hsbs : List D → Bool
  | [] => true
  | d :: ds => hsb d && hsbs ds
end
/-- a tuple that may be a key -/
def isKey (d : D) : Bool := (match d with | .tup _ => true | _ => false) && hsb d && decide (d.py.depth ≤ 8)
/-- x in y -/
def inD (x : D) : D → Option Bool
  | .str z => match x with
    | .str s => match s.cps.toList with
      | [c] => some (decide (c ∈ z.cps.toList))
      | _ => none
    | _ => none
  | .lst ds => if x.shp && (D.lst ds).shp then some (ds.any fun y => y.eqv x) else none
  | .tup ds => if x.shp && (D.tup ds).shp then some (ds.any fun y => y.eqv x) else none
  | .mlst ds => if x.shp && (D.lst ds).shp then some (ds.any fun y => y.eqv x) else none
  | .mset ks => if isKey x then some (ks.any fun y => y.eqv x) else none
  | _ => none
def dIn (x y : D) : Option D := (inD x y).map .bl
def dNotIn (x y : D) : Option D := (inD x y).map fun b => .bl (!b)
def dIx : D → D → Option D
  | .tup ds, .int i => atI ds i
  | .lst ds, .int i => atI ds i
  | .fls ds, .int i => atI ds i
  | .str x, .int i => (atI x.cps.toList i).map sign
  | .dic kvs, .str k => kvs.lookup k
  | _, _ => none
def strsOf : List D → Option (List Str)
  | [] => some []
  | .str x :: ds => (strsOf ds).map (x :: ·)
  | _ :: _ => none
def intsOf : List D → Option (List Int)
  | [] => some []
  | .int x :: ds => (intsOf ds).map (x :: ·)
  | _ :: _ => none
def blsOf : List D → Option (List Bool)
  | [] => some []
  | .bl x :: ds => (blsOf ds).map (x :: ·)
  | _ :: _ => none
/-- a text's order: by its code points -/
def strLe (x y : Str) : Bool := !decide (y.cps.toList < x.cps.toList)
def insS (x : Str) : List Str → List Str
  | [] => [x]
  | y :: r => if strLe x y then x :: y :: r else y :: insS x r
def sortS : List Str → List Str
  | [] => []
  | x :: r => insS x (sortS r)
def dedS : List Str → List Str
  | [] => []
  | x :: r => if x ∈ r then dedS r else x :: dedS r
def maxL : List Int → Int
  | [] => 0
  | [x] => x
  | x :: r => let m := maxL r; if m > x then m else x
def minL : List Int → Int
  | [] => 0
  | [x] => x
  | x :: r => let m := minL r; if m < x then m else x
def o1 : O1 → D → Option D
  | .len, .tup ds => some (.int ds.length)
  | .len, .lst ds => some (.int ds.length)
  | .len, .fls ds => some (.int ds.length)
  | .len, .str x => some (.int x.length)
  | .tuple, .lst ds => some (.tup ds)
  | .tuple, .tup ds => some (.tup ds)
  | .list, .tup ds => some (.lst ds)
  | .list, .lst ds => some (.lst ds)
  | .sum, .lst ds => (intsOf ds).map fun ns => .int ns.sum
  | .all, .lst ds => (blsOf ds).map fun bs => .bl (bs.all id)
  | .int, .int i => some (.int i)
  | .int, .bl b => some (.int (if b then 1 else 0))
  | .int, .str x => match x.cps.toList with
    | [c] => if 48 ≤ c ∧ c < 58 then some (.int ((c - 48 : Nat) : Int)) else none
    | _ => none
  | .str, .str x => some (.str x)
  | .str, .int i => if i.natAbs.log2 < 1920 ∧ ((toString i : String) : Str).length ≤ sizeLine then some (.str (toString i : String)) else none
  | .sortedSet, .lst ds => (strsOf ds).bind fun xs => if xs.length < 64 then some (.lst ((sortS (dedS xs)).map .str)) else none
  | .sortedSet, .tup ds => (strsOf ds).bind fun xs => if xs.length < 64 then some (.lst ((sortS (dedS xs)).map .str)) else none
  | .sorted, .lst ds => (strsOf ds).bind fun xs => if xs.length < 64 then some (.lst ((sortS xs).map .str)) else none
  | .isStr, .str _ => some (.bl true)
  | .isStr, .non => some (.bl false)
  | .isStr, .bl _ => some (.bl false)
  | .isStr, .int _ => some (.bl false)
  | .isStr, .tup _ => some (.bl false)
  | .isStr, .lst _ => some (.bl false)
  | .isInt, .str _ => some (.bl false)
  | .isInt, .non => some (.bl false)
  | .isInt, .bl _ => some (.bl true)
  | .isInt, .int _ => some (.bl true)
  | .isInt, .tup _ => some (.bl false)
  | .isInt, .lst _ => some (.bl false)
  | .isBool, .str _ => some (.bl false)
  | .isBool, .non => some (.bl false)
  | .isBool, .bl _ => some (.bl true)
  | .isBool, .int _ => some (.bl false)
  | .isBool, .tup _ => some (.bl false)
  | .isBool, .lst _ => some (.bl false)
  | .isTuple, .str _ => some (.bl false)
  | .isTuple, .non => some (.bl false)
  | .isTuple, .bl _ => some (.bl false)
  | .isTuple, .int _ => some (.bl false)
  | .isTuple, .tup _ => some (.bl true)
  | .isTuple, .lst _ => some (.bl false)
  | .isNone, d => match d with
    | .non => some (.bl true)
    | .mlst _ | .mset _ | .mdic _ | .ins _ _ | .clo _ _ | .err _ => none
    | _ => some (.bl false)
  | .notNone, d => match d with
    | .non => some (.bl false)
    | .mlst _ | .mset _ | .mdic _ | .ins _ _ | .clo _ _ | .err _ => none
    | _ => some (.bl true)
  | .rev, .tup ds => some (.tup ds.reverse)
  | .max, .lst ds => (intsOf ds).bind fun ns => if ns = [] then none else some (.int (maxL ns))
  | .min, .lst ds => (intsOf ds).bind fun ns => if ns = [] then none else some (.int (minL ns))
  | .minN, .lst ds => (intsOf ds).map fun ns => if ns = [] then .non else .int (minL ns)
  | _, _ => none
def o2 : O2 → D → D → Option D
  | .add, a, b => dAdd a b
  | .sub, a, b => dSub a b
  | .mul, a, b => dMul a b
  | .div, a, b => dDiv a b
  | .mod, a, b => dMod a b
  | .eq, a, b => dEq a b
  | .ne, a, b => dNe a b
  | .lt, a, b => dLt a b
  | .le, a, b => dLe a b
  | .gt, a, b => dGt a b
  | .ge, a, b => dGe a b
  | .isIn, a, b => dIn a b
  | .notIn, a, b => dNotIn a b
  | .ix, a, b => dIx a b
  | .max, .int i, .int j => some (.int (if j > i then j else i))
  | .min, .int i, .int j => some (.int (if j < i then j else i))
  | .join, .str a, .lst ds => (strsOf ds).bind fun ys => if (ys.map (·.length)).sum + ys.length * a.length ≤ 16777216 ∧ (Txt.join a ys).length ≤ sizeLine then some (.str (Txt.join a ys)) else none
  | .split, .str a, .str b => if (b.length == 0) = false ∧ a.length + 2 ≤ sizeLine ∧ (Txt.split a b).length ≤ sizeLine ∧ (Txt.split a b).all (fun x => decide (x.length ≤ sizeLine)) = true then some (.lst ((Txt.split a b).map .str)) else none
  | .index, .lst ds, x => if x.shp && (D.lst ds).shp then (ds.findIdx? fun y => y.eqv x).map fun (j : Nat) => .int (j : Nat) else none
  | .isB, .bl a, .bl b => some (.bl (decide (a = b)))
  | .isNotB, .bl a, .bl b => some (.bl (!decide (a = b)))
  | _, _, _ => none
/-- t[lo:hi] -/
def dCut : D → Option Int → Option Int → Option D
  | .tup ds, lo, hi => some (.tup (cutD ds lo hi))
  | .lst ds, lo, hi => some (.lst (cutD ds lo hi))
  | .str x, lo, hi => some (.str ⟨(cutD x.cps.toList lo hi).toArray⟩)
  | _, _, _ => none
/-- d.get(k, z) -/
def dGet (kvs : List (Str × D)) (y z : D) : Option D := match y with
  | .str k => some ((kvs.lookup k).getD z)
  | _ => none
/-- what a for walks -/
def items : IK → List D → Option (List D)
  | .tup, [.tup ds] => some ds
  | .lst, [.lst ds] => some ds
  | .fls, [.fls ds] => some ds
  | .str, [.str x] => some (x.cps.toList.map sign)
  | .rng, [.int n] => if -(2 ^ 62) ≤ n ∧ n ≤ sizeLine then some ((List.range n.toNat).map fun (i : Nat) => .int (0 + (i : Int))) else none
  | .rng, [.int a, .int b] => if -(2 ^ 62) ≤ a ∧ a < 2 ^ 62 ∧ -(2 ^ 62) ≤ b ∧ b < 2 ^ 62 ∧ b - a ≤ sizeLine then some ((List.range (b - a).toNat).map fun (i : Nat) => .int (a + (i : Int))) else none
  | .enumT, [.tup ds] => some (ds.zipIdx.map fun p => .tup [.int (p.2 : Nat), p.1])
  | .enumL, [.lst ds] => some (ds.zipIdx.map fun p => .tup [.int (p.2 : Nat), p.1])
  | _, _ => none

inductive T where
  | nm (i : Nat)
  | tp (is : List Nat)
  deriving DecidableEq
def setAll : List Nat → List D → Env → Env
  | i :: is, d :: ds, ρ => setAll is ds (ρ.set i (some d))
  | _, _, ρ => ρ
def bindT : T → D → Env → Option Env
  | .nm i, d, ρ => if d.own then none else some (ρ.set i (some d))
  | .tp is, .tup ds, ρ => if ds.length = is.length then some (setAll is ds ρ) else none
  | .tp _, _, _ => none
def wipeE (ρ : Env) : List Nat → Env
  | [] => ρ
  | v :: vs => (wipeE ρ vs).set v none

inductive E where
  | var (i : Nat) | con (d : D) | tup (es : List E) | lst (es : List E) | dic (ks : List Str) (es : List E)
  | o1 (o : O1) (e : E) | o2 (o : O2) (a b : E) | sm (o : O2) (a b : E) | chain (o o' : O2) (a b c : E)
  | and (es : List E) | or (es : List E) | not (e : E) | ife (c a b : E)
  | call (f : Nat) (es : List E)
  | sl (e : E) (lo hi : List E)
  | dget (e k d : E)
  | lc (elt : E) (tg : T) (ik : IK) (ie : List E) (cond : List E) (own : List Nat)
  | inOwn (neg : Bool) (e : E) (i : Nat)
  | fld (c : Str) (e : E) (f : Str) | meth (i : Nat) (c m : Str) (e : E) (es : List E) | make (i : Nat) (c : Str) (es : List E)
  | srt (e : E) | minN (e : E) | lm (o : O2) (a b : E)
  | pix (e k : E) | pin (neg : Bool) (x e : E) | psort (e : E) | pitems (e : E) | ptup (e : E)
  | dzip (a b : E) | dmk (e : E) | lamc (g k : Nat) | act (i : Nat) | isE (i : Nat) (cs ncs : List Nat)
  deriving Inhabited
/-- a new thing of one's own: {}, [], dict([(row[0], [0, 0, 0]) for row in ..]) with row in slot i -/
inductive NK where
  | d | l | cnt (i : Nat) (ik : IK)
  deriving Inhabited, DecidableEq
inductive S where
  | set (i : Nat) (e : E) | own (i : Nat) (es : List E) | ownd (i : Nat) (e : E)
  | unpack (is : List Nat) (e : E) | app (i : Nat) (e : E) | ext (i : Nat) (e : E) | put (i : Nat) (e : E) | freeze (i : Nat)
  | expr (e : E) | ifs (c : E) (a b : List S) | for (tg : T) (ik : IK) (ie : List E) (body : List S) | while (c : E) (body : List S)
  | ret (e : E) | retN | raise (c : Nat) | unpackL (is : List Nat) (e : E) | setF (c : Str) (e : E) (f : Str) (v : E)
  | tryS (body : List S) (j : Nat) (cs ncs : List Nat) (ret : Bool) (i : Nat) (d : D)
  | papp (e x : E) | pput (e k v : E) | plset (e k v : E) | ppop (e k : E) | setN (c : Str) (e : E) (f : Str) (w : NK) (ie : List E)
  | tryA (body : List S) (j : Nat) (cs ncs : List Nat) (i : Nat) (suite : List S)
  deriving Inhabited
structure Fn where
  np : Nat
  ns : Nat
  body : List S
  lam : Bool := false
  deriving Inhabited

def R.bool (r : R D) (f : Bool → Sto → R D) : R D := r.bind fun d st => match d with
  | .bl b => f b st
  | _ => .fail
def lcGo (bnd : D → Option Env) (c : Env → Sto → R D) (e : Env → Sto → R D) : List D → Sto → R (List D)
  | [], st => .ok [] st
  | x :: xs, st => match bnd x with
    | none => .fail
    | some ρ => (c ρ st).bind fun b st1 => match b with
      | .bl true => (e ρ st1).bind fun d st2 => if d.own then .fail else (lcGo bnd c e xs st2).bind fun ds st3 => .ok (d :: ds) st3
      | .bl false => lcGo bnd c e xs st1
      | _ => .fail
def optI : List D → Option (Option Int)
  | [] => some none
  | [.int i] => some (some i)
  | _ => none
/-- a field of a thing of the class named c, handed on -/
def fldD (st : Sto) (c : Str) (x : D) (f : Str) : Option D := match x with
  | .ref l => match st[l]? with
    | some (.ins c' fs) => if c' = c then (fs.lookup f).map fun d => if d.own then .ptr l [f] else d else none
    | _ => none
  | _ => none
/-- a thing of the class named c, whose method m no field hides -/
def hasM (st : Sto) (c : Str) (x : D) (m : Str) : Bool := match x with
  | .ref l => match st[l]? with
    | some (.ins c' fs) => decide (c' = c) && (fs.lookup m).isNone
    | _ => false
  | _ => false
def mkR (l : Nat) : R D → R D
  | .ok .non st => .ok (.ref l) st
  | .exc c st => .exc c st
  | _ => .fail
def putD (f : Str) (d : D) : List (Str × D) → List (Str × D)
  | [] => [(f, d)]
  | (g, x) :: r => if g = f then (g, d) :: r else (g, x) :: putD f d r
/-- a field is set -/
def setFD (st : Sto) (c : Str) (x : D) (f : Str) (d : D) : Option Sto := match x with
  | .ref l => match st[l]? with
    | some (.ins c' fs) => if c' = c ∧ fs.length < 1000 ∧ d.own = false then some (st.set l (.ins c (putD f d fs))) else none
    | _ => none
  | _ => none
def sub : D → List Str → Option D
  | d, [] => some d
  | .mdic kvs, k :: p => match kvs.lookup k with
    | some d => sub d p
    | none => none
  | _, _ :: _ => none
/-- what stands at a place -/
def look (st : Sto) : D → Option D
  | .ref l => match st[l]? with
    | some (.mdic kvs) => some (.mdic kvs)
    | _ => none
  | .ptr l (f :: p) => match st[l]? with
    | some (.ins _ fs) => match fs.lookup f with
      | some d => sub d p
      | none => none
    | some (.mdic kvs) => sub (.mdic kvs) (f :: p)
    | _ => none
  | _ => none
def modK (k : Str) (g : D → D) : List (Str × D) → List (Str × D)
  | [] => []
  | (j, d) :: r => if j = k then (j, g d) :: r else (j, d) :: modK k g r
def repl : D → List Str → D → D
  | _, [], x => x
  | .mdic kvs, k :: p, x => .mdic (modK k (fun d => repl d p x) kvs)
  | d, _ :: _, _ => d
/-- a place's new content -/
def stow (st : Sto) (y x : D) : Option Sto := match y with
  | .ptr l (f :: p) => match st[l]? with
    | some (.ins c fs) => some (st.set l (.ins c (modK f (fun d => repl d p x) fs)))
    | some (.mdic kvs) => some (st.set l (repl (.mdic kvs) (f :: p) x))
    | _ => none
  | _ => none
def child (s : Str) : D → D
  | .ref l => .ptr l [s]
  | .ptr l p => .ptr l (p ++ [s])
  | d => d
/-- place[k] -/
def pixD (st : Sto) (x k : D) : Option D := match look st x with
  | some (.mdic kvs) => match k with
    | .str s => match kvs.lookup s with
      | some d => some (if d.own then child s x else d)
      | none => none
    | _ => none
  | some (.mlst ds) => match k with
    | .int i => atI ds i
    | _ => none
  | _ => none
/-- x in place -/
def pinD (neg : Bool) (st : Sto) (x y : D) : Option D := match look st y with
  | some (.mdic kvs) => match x with
    | .str s => some (.bl (if neg then !(kvs.lookup s).isSome else (kvs.lookup s).isSome))
    | _ => none
  | _ => none
/-- entries by their keys' order -/
def insK (x : Str × D) : List (Str × D) → List (Str × D)
  | [] => [x]
  | y :: r => if strLe x.1 y.1 then x :: y :: r else y :: insK x r
def sortK : List (Str × D) → List (Str × D)
  | [] => []
  | x :: r => insK x (sortK r)
def psortD (st : Sto) (x : D) : Option D := match look st x with
  | some (.mdic kvs) => if kvs.length < 64 then some (.lst ((sortK kvs).map fun kv => .str kv.1)) else none
  | _ => none
def pitemsD (st : Sto) (x : D) : Option D := match look st x with
  | some (.mdic kvs) => if kvs.length < 64 ∧ (kvs.all fun kv => !kv.2.own) = true then some (.lst ((sortK kvs).map fun kv => .tup [.str kv.1, kv.2])) else none
  | _ => none
def ptupD (st : Sto) (x : D) : Option D := match look st x with
  | some (.mlst ds) => if ds.length ≤ sizeLine then some (.tup ds) else none
  | _ => none
def isML (st : Sto) (x : D) : Bool := match look st x with
  | some (.mlst _) => true
  | _ => false
def isMD (st : Sto) (x : D) : Bool := match look st x with
  | some (.mdic _) => true
  | _ => false
def pappD (st : Sto) (x d : D) : Option Sto := match look st x with
  | some (.mlst ds) => if d.own = false ∧ ds.length < sizeLine then stow st x (.mlst (ds ++ [d])) else none
  | _ => none
def pputD (st : Sto) (x k d : D) : Option Sto := match look st x with
  | some (.mdic kvs) => match k with
    | .str s => if d.own = false ∧ kvs.length < sizeLine ∧ (match kvs.lookup s with | some d0 => !d0.own | none => true) = true then stow st x (.mdic (putD s d kvs)) else none
    | _ => none
  | _ => none
def plsetD (st : Sto) (x k d : D) : Option Sto := match look st x with
  | some (.mlst ds) => match k with
    | .int i => if d.own = false ∧ 0 ≤ i ∧ i < ds.length then stow st x (.mlst (ds.set i.toNat d)) else none
    | _ => none
  | _ => none
def ppopD (st : Sto) (x k : D) : Option Sto := match look st x with
  | some (.mdic kvs) => match k with
    | .str s => match kvs.lookup s with
      | some d0 => if d0.own = false then stow st x (.mdic (kvs.filter fun kv => decide (kv.1 ≠ s))) else none
      | none => none
    | _ => none
  | _ => none
/-- rows and their counts, none -/
def cntD : List D → Option (List (Str × D))
  | [] => some []
  | .tup (.str n :: _) :: r => (cntD r).map fun l => (n, .mlst [.int 0, .int 0, .int 0]) :: l
  | _ :: _ => none
/-- a new field, one's own -/
def setND (st : Sto) (c : Str) (x : D) (f : Str) (d : D) : Option Sto := match x with
  | .ref l => match st[l]? with
    | some (.ins c' fs) => if c' = c ∧ fs.length < 1000 ∧ fs.lookup f = none then some (st.set l (.ins c (fs ++ [(f, d)]))) else none
    | _ => none
  | _ => none
/-- pairs of a text and a value -/
def pairsD : List D → Option (List (Str × D))
  | [] => some []
  | .tup [.str k, d] :: r => (pairsD r).map ((k, d) :: ·)
  | _ :: _ => none
def keysD : List D → Option (List Str)
  | [] => some []
  | .str x :: r => (keysD r).map (x :: ·)
  | _ :: _ => none
/-- dict(zip(x, y)) of two tuples, the first of texts -/
def dzD (x y : D) : Option D := match x, y with
  | .tup ks, .tup vs => (keysD ks).bind fun xs => if xs.Nodup ∧ xs.length = vs.length ∧ xs.length ≤ 1000 then some (.dic (xs.zip vs)) else none
  | _, _ => none
def dmkD : D → Option D
  | .tup ds => (pairsD ds).bind fun kvs => if (kvs.map (·.1)).Nodup ∧ kvs.length ≤ 1000 ∧ (kvs.all fun kv => !kv.2.own) = true then some (.dic kvs) else none
  | _ => none
def encE : Env → List D
  | [] => []
  | some d :: r => .tup [d] :: encE r
  | none :: r => .non :: encE r
def decE : List D → Env
  | [] => []
  | .tup [d] :: r => some d :: decE r
  | _ :: r => none :: decE r
theorem dec_enc : ∀ ρ : Env, decE (encE ρ) = ρ
  | [] => rfl
  | some d :: r => by rw [encE, decE, dec_enc r]
  | none :: r => by
    rw [encE, decE, dec_enc r]
    intro d h
    cases h
mutual
def ev (C : Cal) : E → Env → Sto → R D
  | .var i, ρ, st => match ρ[i]? with
    | some (some d) => if d.own then .fail else .ok d st
    | _ => .fail
  | .con d, _, st => .ok d st
  | .tup es, ρ, st => (evs C es ρ st).bind fun ds st => .ok (.tup ds) st
  | .lst es, ρ, st => (evs C es ρ st).bind fun ds st => .ok (.lst ds) st
  | .dic ks es, ρ, st => (evs C es ρ st).bind fun ds st => .ok (.dic (ks.zip ds)) st
  | .o1 o e, ρ, st => (ev C e ρ st).bind fun d st => R.lift st (o1 o d)
  | .o2 o a b, ρ, st => (ev C a ρ st).bind fun x st => (ev C b ρ st).bind fun y st => R.lift st (o2 o x y)
  | .sm o a b, ρ, st => (ev C a ρ st).bind fun x st => match x with
    | .str x => (ev C b ρ st).bind fun y st => R.lift st (o2 o (.str x) y)
    | _ => .fail
  | .chain o o' a b c, ρ, st => (ev C a ρ st).bind fun x st => (ev C b ρ st).bind fun y st => (R.lift st (o2 o x y)).bool fun k st =>
      if k then (ev C c ρ st).bind fun z st => R.lift st (o2 o' y z) else .ok (.bl false) st
  | .and es, ρ, st => evAnd C es ρ st
  | .or es, ρ, st => evOr C es ρ st
  | .not e, ρ, st => (ev C e ρ st).bool fun k st => .ok (.bl (!k)) st
  | .ife c a b, ρ, st => (ev C c ρ st).bool fun k st => if k then ev C a ρ st else ev C b ρ st
  | .call f es, ρ, st => (evs C es ρ st).bind fun ds st => C f ds st
  | .sl e lo hi, ρ, st => (ev C e ρ st).bind fun d st => (evs C lo ρ st).bind fun l st => (R.lift st (optI l)).bind fun l st => (evs C hi ρ st).bind fun h st => (R.lift st (optI h)).bind fun h st => R.lift st (dCut d l h)
  | .dget e k d, ρ, st => (ev C e ρ st).bind fun x st => match x with
    | .dic kvs => (ev C k ρ st).bind fun y st => (ev C d ρ st).bind fun z st => R.lift st (dGet kvs y z)
    | _ => .fail
  | .lc elt tg ik ie cond own, ρ, st => (evs C ie ρ st).bind fun ds st => match items ik ds with
    | none => .fail
    | some xs => ((lcGo (fun x => bindT tg x (wipeE ρ own)) (fun ρ st => evAnd1 C cond ρ st) (fun ρ st => ev C elt ρ st) xs st).quiet).bind fun ds st => .ok (.lst ds) st
  | .inOwn neg e i, ρ, st => (ev C e ρ st).bind fun x st => match ρ[i]? with
    | some (some (.mlst ds)) => R.lift st ((inD x (.mlst ds)).map fun b => .bl (if neg then !b else b))
    | some (some (.mset ks)) => R.lift st ((inD x (.mset ks)).map fun b => .bl (if neg then !b else b))
    | _ => .fail
  | .fld c e f, ρ, st => (ev C e ρ st).bind fun x st => R.lift st (fldD st c x f)
  | .meth i c m e es, ρ, st => (ev C e ρ st).bind fun x st => if hasM st c x m then (evs C es ρ st).bind fun ds st => C i (x :: ds) st else .fail
  | .make i c es, ρ, st => (evs C es ρ st).bind fun ds st => mkR st.length (C i (.ref st.length :: ds) (st ++ [.ins c []]))
  | .srt e, ρ, st => (ev C e ρ st).bind fun d st => R.lift st (o1 .sortedSet d)
  | .minN e, ρ, st => (ev C e ρ st).bind fun d st => R.lift st (o1 .minN d)
  | .lm o a b, ρ, st => (ev C a ρ st).bind fun x st => match x with
    | .lst x => (ev C b ρ st).bind fun y st => R.lift st (o2 o (.lst x) y)
    | _ => .fail
  | .pix e k, ρ, st => (ev C e ρ st).bind fun x st => (ev C k ρ st).bind fun y st => R.lift st (pixD st x y)
  | .pin neg x e, ρ, st => (ev C x ρ st).bind fun x st => (ev C e ρ st).bind fun y st => R.lift st (pinD neg st x y)
  | .psort e, ρ, st => (ev C e ρ st).bind fun x st => R.lift st (psortD st x)
  | .pitems e, ρ, st => (ev C e ρ st).bind fun x st => R.lift st (pitemsD st x)
  | .ptup e, ρ, st => (ev C e ρ st).bind fun x st => R.lift st (ptupD st x)
  | .dzip a b, ρ, st => (ev C a ρ st).bind fun x st => (ev C b ρ st).bind fun y st => R.lift st (dzD x y)
  | .dmk e, ρ, st => (ev C e ρ st).bind fun x st => R.lift st (dmkD x)
  | .lamc g k, ρ, st => C g [.clo k (encE ρ)] st
  | .act i, ρ, st => match ρ[i]? with
    | some (some (.clo k es)) => C k [.clo k es] st
    | _ => .fail
  | .isE i cs ncs, ρ, st => match ρ[i]? with
    | some (some (.err c)) => if c ∈ cs then .ok (.bl true) st else if c ∈ ncs then .ok (.bl false) st else .fail
    | _ => .fail
def evs (C : Cal) : List E → Env → Sto → R (List D)
  | [], _, st => .ok [] st
  | e :: es, ρ, st => (ev C e ρ st).bind fun d st => (evs C es ρ st).bind fun ds st => .ok (d :: ds) st
def evAnd (C : Cal) : List E → Env → Sto → R D
  | [], _, _ => .fail
  | [e], ρ, st => ev C e ρ st
  | e :: es, ρ, st => (ev C e ρ st).bool fun k st => if k then evAnd C es ρ st else .ok (.bl false) st
def evOr (C : Cal) : List E → Env → Sto → R D
  | [], _, _ => .fail
  | [e], ρ, st => ev C e ρ st
  | e :: es, ρ, st => (ev C e ρ st).bool fun k st => if k then .ok (.bl true) st else evOr C es ρ st
/-- a comprehension's test, if there is one -/
def evAnd1 (C : Cal) : List E → Env → Sto → R D
  | [], _, st => .ok (.bl true) st
  | e :: _, ρ, st => ev C e ρ st
end

inductive Fl where
  | nx (ρ : Env) (st : Sto)
  | rt (d : D) (st : Sto)
  | ex (c : Nat) (ρ : Env) (st : Sto)
  | fail
def Fl.of (ρ : Env) (r : R D) (f : D → Sto → Fl) : Fl := match r with
  | .ok d st => f d st
  | .exc c st => .ex c ρ st
  | .fail => .fail
def Fl.ofs (ρ : Env) (r : R (List D)) (f : List D → Sto → Fl) : Fl := match r with
  | .ok d st => f d st
  | .exc c st => .ex c ρ st
  | .fail => .fail
/-- exceptions of the kinds cs are caught, of the kinds ncs not; the suite is plain: return d, or d is bound to a name -/
def Fl.catch (cs ncs : List Nat) (ret : Bool) (i : Nat) (d : D) (r : Fl) : Fl := match r with
  | .ex c ρ st => if c ∈ cs then (if ret then .rt d st else .nx (ρ.set i (some d)) st) else if c ∈ ncs then .ex c ρ st else .fail
  | r => r
/-- .. caught as a name -/
def Fl.catchA (cs ncs : List Nat) (i : Nat) (g : Env → Sto → Fl) (r : Fl) : Fl := match r with
  | .ex c ρ st => if c ∈ cs then (match g (ρ.set i (some (.err c))) st with
    | .nx ρ st => .nx (ρ.set i none) st
    | r => r) else if c ∈ ncs then .ex c ρ st else .fail
  | r => r
def Fl.opt (ρ : Env) : Option Sto → Fl
  | some st => .nx ρ st
  | none => .fail
def newD (w : NK) (xs : List D) : Option D := match w with
  | .d => some (.mdic [])
  | .l => some (.mlst [])
  | .cnt _ ik => match items ik xs with
    | some ds => match cntD ds with
      | some kvs => if (kvs.map (·.1)).Nodup ∧ kvs.length ≤ 1000 then some (.mdic kvs) else none
      | none => none
    | none => none
def okN (w : NK) (ρ : Env) : Bool := match w with
  | .cnt i _ => decide (i < ρ.length)
  | _ => true
def Fl.seq (r : Fl) (f : Env → Sto → Fl) : Fl := match r with
  | .nx ρ st => f ρ st
  | r => r
def forGo (bnd : D → Env → Option Env) (b : Env → Sto → Fl) : List D → Env → Sto → Fl
  | [], ρ, st => .nx ρ st
  | x :: xs, ρ, st => match bnd x ρ with
    | none => .fail
    | some ρ1 => (b ρ1 st).seq fun ρ2 st2 => forGo bnd b xs ρ2 st2
def whileGo (c : Env → Sto → R D) (b : Env → Sto → Fl) : Nat → Env → Sto → Fl
  | 0, _, _ => .fail
  | n + 1, ρ, st => Fl.of ρ (c ρ st) fun d st1 => match d with
    | .bl true => (b ρ st1).seq fun ρ2 st2 => whileGo c b n ρ2 st2
    | .bl false => .nx ρ st1
    | _ => .fail
/-- turns of a while, at most -/
def FU : Nat := 1000000
mutual
def exec (C : Cal) : S → Env → Sto → Fl
  | .set i e, ρ, st => Fl.of ρ (ev C e ρ st) fun d st => if d.own then .fail else .nx (ρ.set i (some d)) st
  | .own i es, ρ, st => Fl.ofs ρ (evs C es ρ st) fun ds st => .nx (ρ.set i (some (.mlst ds))) st
  | .ownd i e, ρ, st => Fl.of ρ (ev C e ρ st) fun d st => if isKey d then .nx (ρ.set i (some (.mset [d]))) st else .fail
  | .unpack is e, ρ, st => Fl.of ρ (ev C e ρ st) fun d st => match bindT (.tp is) d ρ with
    | some ρ1 => .nx ρ1 st
    | none => .fail
  | .app i e, ρ, st => match ρ[i]? with
    | some (some (.mlst ds)) => Fl.of ρ (ev C e ρ st) fun d st => if d.own then .fail else if ds.length < sizeLine then .nx (ρ.set i (some (.mlst (ds ++ [d])))) st else .fail
    | _ => .fail
  | .ext i e, ρ, st => match ρ[i]? with
    | some (some (.mlst ds)) => Fl.of ρ (ev C e ρ st) fun d st => match d with
      | .lst es => if ds.length + es.length ≤ sizeLine then .nx (ρ.set i (some (.mlst (ds ++ es)))) st else .fail
      | .tup es => if ds.length + es.length ≤ sizeLine then .nx (ρ.set i (some (.mlst (ds ++ es)))) st else .fail
      | _ => .fail
    | _ => .fail
  | .put i e, ρ, st => match ρ[i]? with
    | some (some (.mset ks)) => Fl.of ρ (ev C e ρ st) fun d st => if isKey d && decide (ks.length < sizeLine) then .nx (ρ.set i (some (.mset (if ks.any fun y => y.eqv d then ks else ks ++ [d])))) st else .fail
    | _ => .fail
  | .freeze i, ρ, st => match ρ[i]? with
    | some (some (.mlst ds)) => .nx (ρ.set i (some (.lst ds))) st
    | _ => .fail
  | .expr e, ρ, st => Fl.of ρ (ev C e ρ st) fun _ st => .nx ρ st
  | .ifs c a b, ρ, st => Fl.of ρ (ev C c ρ st) fun d st => match d with
    | .bl k => if k then execs C a ρ st else execs C b ρ st
    | _ => .fail
  | .for tg ik ie body, ρ, st => Fl.ofs ρ (evs C ie ρ st) fun ds st => match items ik ds with
    | none => .fail
    | some xs => forGo (bindT tg) (fun ρ st => execs C body ρ st) xs ρ st
  | .while c body, ρ, st => whileGo (fun ρ st => ev C c ρ st) (fun ρ st => execs C body ρ st) FU ρ st
  | .ret e, ρ, st => Fl.of ρ (ev C e ρ st) fun d st => if d.own then .fail else .rt d st
  | .retN, _, st => .rt .non st
  | .setF c e f v, ρ, st => Fl.of ρ (ev C v ρ st) fun d st => Fl.of ρ (ev C e ρ st) fun x st => match setFD st c x f d with
    | some st' => .nx ρ st'
    | none => .fail
  | .raise c, ρ, st => .ex c ρ st
  | .tryS body _ cs ncs ret i d, ρ, st => Fl.catch cs ncs ret i d (execs C body ρ st)
  | .unpackL is e, ρ, st => Fl.of ρ (ev C e ρ st) fun d st => match d with
    | .lst ds => if ds.length = is.length then .nx (setAll is ds ρ) st else .fail
    | _ => .fail
  | .papp e x, ρ, st => Fl.of ρ (ev C e ρ st) fun p st => if isML st p = false then .fail else Fl.of ρ (ev C x ρ st) fun d st => Fl.opt ρ (pappD st p d)
  | .pput e k v, ρ, st => Fl.of ρ (ev C v ρ st) fun d st => Fl.of ρ (ev C e ρ st) fun p st => Fl.of ρ (ev C k ρ st) fun y st => Fl.opt ρ (pputD st p y d)
  | .plset e k v, ρ, st => Fl.of ρ (ev C v ρ st) fun d st => Fl.of ρ (ev C e ρ st) fun p st => Fl.of ρ (ev C k ρ st) fun y st => Fl.opt ρ (plsetD st p y d)
  | .ppop e k, ρ, st => Fl.of ρ (ev C e ρ st) fun p st => if isMD st p = false then .fail else Fl.of ρ (ev C k ρ st) fun y st => Fl.opt ρ (ppopD st p y)
  | .setN c e f w ie, ρ, st => Fl.ofs ρ (evs C ie ρ st) fun ds st => match newD w ds with
    | some d => if okN w ρ = false then .fail else Fl.of ρ (ev C e ρ st) fun x st => Fl.opt ρ (setND st c x f d)
    | none => .fail
  | .tryA body _ cs ncs i suite, ρ, st => Fl.catchA cs ncs i (fun ρ st => execs C suite ρ st) (execs C body ρ st)
def execs (C : Cal) : List S → Env → Sto → Fl
  | [], ρ, st => .nx ρ st
  | s :: ss, ρ, st => (exec C s ρ st).seq fun ρ st => execs C ss ρ st
end
def finish : Fl → R D
  | .nx _ st => .ok .non st
  | .rt d st => .ok d st
  | .ex c _ st => .exc c st
  | .fail => .fail
def enter (F : Fn) (ds : List D) : Env := ds.map some ++ List.replicate (F.ns - ds.length) none
def run (P : List Fn) : Nat → Cal
  | 0, _, _, _ => .fail
  | n + 1, f, ds, st => match P[f]? with
    | none => .fail
    | some F => if F.lam then (match ds with
        | [.clo _ es] => finish (execs (run P n) F.body (decE es) st)
        | _ => .fail) else if ds.length = F.np then finish (execs (run P n) F.body (enter F ds) st) else .fail
end TL

namespace HT
open PySem PyProof.Rows
section
variable {prog : Program} {w : World} {A : Around} {E : Value → Shared → Prop} {s : Shared}
theorem adjust_back (n : Nat) : Builtin.Slice.sliceAdjust none none (-1) (n : Int) = ((n : Int) - 1, -1) := by
  unfold Builtin.Slice.sliceAdjust
  simp
theorem places_back (n : Nat) : Builtin.Slice.slicePlaces ((n : Int) - 1) (-1) (-1) = n := by
  unfold Builtin.Slice.slicePlaces
  simp
  try (split <;> omega)
  try omega
theorem applied_back {b : Addr} {v1 v2 v3 : Value} {n : Nat} {Q : Int × Int × Nat → Shared → Prop} (hs : s.heap.IsSliceOf b v1 v2 v3) (p1 : IsPart v1 none) (p2 : IsPart v2 none) (p3 : IsPart v3 (some (-1)))
    (h : Q ((n : Int) - 1, -1, n) s) : wpAny (model prog w) A (Builtin.Slice.sliceApplied (.ref b) (pure (n : Int))) Q E s := by
  obtain ⟨os, hos, hcs, hds⟩ := id hs
  unfold Builtin.Slice.sliceApplied Builtin.Slice.sliceFields
  refine wpAny_bind (wpAny_bind (wpAny_field hos hds (x := v1) rfl (wpAny_bind (wpAny_field hos hds (x := v2) rfl (wpAny_bind (wpAny_field hos hds (x := v3) rfl (wpAny_pure ?_)))))))
  refine wpAny_bind (slicePart_ p3 ?_)
  show wpAny _ _ (if ((-1 : Int) == 0) = true then _ else _) _ _ s
  rw [if_neg (by decide)]
  refine wpAny_bind (slicePart_ p1 (wpAny_bind (slicePart_ p2 (wpAny_bind (wpAny_pure ?_)))))
  show wpAny _ _ (match Builtin.Slice.sliceAdjust none none (-1) (n : Int) with | (l, u) => pure (l, (-1 : Int), Builtin.Slice.slicePlaces l u (-1))) _ _ s
  rw [adjust_back n]
  show wpAny _ _ (pure ((n : Int) - 1, (-1 : Int), Builtin.Slice.slicePlaces ((n : Int) - 1) (-1) (-1))) _ _ s
  rw [places_back]
  exact wpAny_pure h
theorem fm_some {α β : Type} {f : α → Option β} {g : α → β} : ∀ {l : List α}, (∀ m ∈ l, f m = some (g m)) → l.filterMap f = l.map g
  | [], _ => rfl
  | x :: l, h => by
    rw [List.filterMap_cons, h x (List.mem_cons_self ..), List.map_cons, fm_some fun m hm => h m (List.mem_cons_of_mem _ hm)]
theorem pick_back (xs : Array Value) : ((List.range xs.size).filterMap fun (m : Nat) => xs[((xs.size : Int) - 1 + (m : Int) * (-1)).toNat]?).toArray = xs.toList.reverse.toArray := by
  congr 1
  apply List.ext_getElem?
  intro i
  have e : ∀ m ∈ List.range xs.size, xs[((xs.size : Int) - 1 + (m : Int) * (-1)).toNat]? = some (xs.toList.reverse.getD m .none) := by
    intro m hm
    have hm := List.mem_range.mp hm
    have : ((xs.size : Int) - 1 + (m : Int) * (-1)).toNat = xs.size - 1 - m := by omega
    rw [this, List.getD_eq_getElem?_getD, List.getElem?_reverse (by simpa using hm)]
    simp
    rw [Array.getElem?_eq_getElem (by omega)]
    simp
  rw [show ((List.range xs.size).filterMap fun (m : Nat) => xs[((xs.size : Int) - 1 + (m : Int) * (-1)).toNat]?) = (List.range xs.size).map fun m => xs.toList.reverse.getD m .none from fm_some e]
  rw [List.getElem?_map]
  by_cases hi : i < xs.size
  · rw [List.getElem?_range hi]
    simp [hi]
  · rw [List.getElem?_eq_none (by simpa using hi), List.getElem?_eq_none (by simpa using hi)]
    rfl
theorem getItem_tuple_back {t b : Addr} {items : Array Value} {v1 v2 v3 : Value} {Q : Value → Shared → Prop} (ht : IsTup s.heap t items) (hs : s.heap.IsSliceOf b v1 v2 v3) (p1 : IsPart v1 none) (p2 : IsPart v2 none) (p3 : IsPart v3 (some (-1)))
    (h : Q (.ref s.heap.objs.size) { s with heap := s.heap.push { cls := .type "tuple", data := .seq items.toList.reverse.toArray } })
    (hsz : items.size ≤ sizeLine) : wpAny (model prog w) A (getItem (.ref t) (.ref b)) Q E s := by
  have htake : sizeOk (.seq items.toList.reverse.toArray) := by
    show items.toList.reverse.toArray.size ≤ sizeLine
    rw [List.size_toArray, List.length_reverse, Array.length_toList]
    exact hsz
  obtain ⟨os, hos, hcs, hds⟩ := id hs
  have hTs : s.TypeIs (.ref b) "slice" := ⟨os, hos, hcs⟩
  unfold getItem
  try with_reducible refine wpAny_holding ?_
  first | refine wpAny_bind (wpAny_pure ?_) | skip
  refine wpAny_bind (wpAny_sequenceKey ht.typeIs (by decide) ?_)
  refine wpAny_bind (wpAny_callSpecial?_slot (name := Str.ofString "__getitem__") ht.typeIs PyProof.Rows.slot_tuple_getitem
    (wpAny_call_entry PyProof.Rows.slot_tuple_getitem ht.typeIs entry_tuple_getitem ?_ (args_tuple_getitem _ _)))
  show wpAny _ _ (Builtin.Tuple.tupleItemsOf (.ref t) >>= _) _ _ s
  refine wpAny_bind (tupleItemsOf_ ht ?_)
  refine wpAny_bind (wpAny_typeOf hTs ?_)
  rw [if_pos (by decide)]
  refine wpAny_bind (applied_back hs p1 p2 p3 ?_)
  have hno : ¬ ((((items.size : Int) - 1) == 0 && (-1 : Int) == 1 && items.size == items.size) = true) := by
    intro q
    rw [Bool.and_eq_true, Bool.and_eq_true] at q
    have := q.1.2
    exact absurd this (by decide)
  show wpAny _ _ (if (((items.size : Int) - 1) == 0 && (-1 : Int) == 1 && items.size == items.size) = true then _ else _) _ _ s
  rw [if_neg hno, pick_back]
  first
    | exact wpAny_bind (m := Builtin.Tuple.tupleExact _) (wpAny_newObj_type (wpAny_pure ⟨_, rfl, wpAny_pure h⟩) htake)
    | exact wpAny_bind (m := Builtin.Tuple.tupleExact _) (wpAny_newObj_type (wpAny_bind (wpAny_pure (wpAny_pure ⟨_, rfl, wpAny_pure h⟩))) htake)
    | exact wpAny_bind (wpAny_bind (m := Builtin.Tuple.tupleExact _) (wpAny_newObj_type (wpAny_pure (wpAny_pure ⟨_, rfl, wpAny_pure h⟩)) htake))
    | exact wpAny_bind (wpAny_bind (m := Builtin.Tuple.tupleExact _) (wpAny_newObj_type (wpAny_pure ⟨_, rfl, wpAny_pure h⟩) htake))
end
end HT
namespace L2
open PySem PySem.Spec PyProof.Rows
def tBack (K : PySem.W.Frag) (te : TE) : TE := fun σ H Q => te σ H fun x H1 => ∃ a xs, x = .ref a ∧ SqT K H1 a xs ∧ ∀ p, H1 p = none → Q (.ref p) (upd H1 p (.tup xs.reverse))
theorem pe_back {X : Cx} {e : Expr} {te : TE} {k : Nat} {p1 p2 p3 pos : Pos} (he : PE X e te) : PE X (.Subscript e (.Slice none none (some (.UnaryOp .USub (.Constant (.int 1) k p1) p2)) p3) pos) (tBack X.K te) := by
  refine ⟨fun pins s σ H Q I h => ?_⟩
  refine Subscript_ (thn (he.run pins s σ H _ I h) fun v s1 ⟨x, H1, I1, r1, q1⟩ => ?_)
  obtain ⟨a, xs, rfl, hx, q⟩ := q1
  cases r1
  have step : PO X (some (.UnaryOp .USub (.Constant (.int 1) k p1) p2)) (tPart (tUn (rU fun i => .int (-i)) (tC (.int 1)))) := po_some (pe_un un_neg pe_int)
  refine wpAny_Slice (thn (po_none.run pins s1 σ H1 (fun o H2 => o = none ∧ H2 = H1) I1 ⟨rfl, rfl⟩) fun v1 s2 ⟨l, H2, I2, q1, e1, e2⟩ => ?_)
  subst e1 e2
  refine thn (po_none.run pins s2 σ H2 (fun o H3 => o = none ∧ H3 = H2) I2 ⟨rfl, rfl⟩) fun v2 s3 ⟨u, H3, I3, q2, e1, e2⟩ => ?_
  subst e1 e2
  refine thn (step.run pins s3 σ H3 (fun o H4 => o = some (-1) ∧ H4 = H3) I3 ⟨1, rfl, -1, rfl, rfl, rfl⟩) fun v3 s4 ⟨o, H4, I4, q3, e1, e2⟩ => ?_
  subst e1 e2
  have I5 : Inv X pins σ H4 { s4 with heap := s4.heap.push { cls := .type "slice", data := .fields #[v1, v2, v3] } } := I4.kept (t' := s4.toks) fun b ob q => Heap.get?_push_of_some _ q
  obtain ⟨its, r, ht, hz⟩ := I5.tuple hx
  have hlen : its.toArray.size = xs.length := by rw [List.size_toArray]; exact r.length.symm
  show wpAny (model X.prog X.w) X.A (subscriptTail e (.Slice none none (some (.UnaryOp .USub (.Constant (.int 1) k p1) p2)) p3) (.ref a) (.ref s4.heap.objs.size)) (EP X pins σ Q) X.xe { s4 with heap := s4.heap.push { cls := .type "slice", data := .fields #[v1, v2, v3] } }
  refine tail_any (ops := [.ref a, .ref s4.heap.objs.size]) ht.typeIs PyProof.Rows.slot_tuple_getitem.lookup ?_ (by with_unfolding_all rfl)
  refine HT.getItem_tuple_back ht (Heap.IsSliceOf.new _ v1 v2 v3) q1 q2 q3 ?_ (by rw [hlen]; exact hz)
  refine ⟨.ref _, _, I5.laid (t' := s4.toks) (o := .tup xs.reverse) (fun b ob q => Heap.get?_push_of_some _ q) (Nat.le_refl _) ?_, rfl, q _ (I5.hok.fresh (Nat.le_refl _))⟩
  exact ⟨by rw [List.length_reverse]; exact hz, _, r.reverse, IsTup.new _ _⟩
end L2

namespace L2
open PySem PySem.Spec PyProof.Rows
theorem tuple_once (l : Addr) (items : Array Value) (n : Nat) (dd : Option Addr) (sl : Array (Option Value)) (u : Tok) (c1 : (items.isEmpty || (1 : Int) == 1) = true) :
    Meets (Builtin.«tuple.__mul__» ⟨[.ref l, .int 1 u], []⟩) (fun _ R s => s.heap.get? l = some { cls := .type "tuple", dict := dd, data := .seq items n, slots := sl } ∧ R (.ok (.ret (Value.ref l))) s) :=
  .of_wp fun prog w A R s h => by
    obtain ⟨hp, g, d, tk, os⟩ := s
    obtain ⟨hl, h⟩ := h
    have f1 := AutoSeq1.idx_int
    have c0 : (decide ((1 : Int) < -(2 ^ 63)) || decide ((1 : Int) ≥ 2 ^ 63)) = false := by decide
    wp_walk using wpAny_loadPart' hl
    repeat (first
      | (refine wpAny_ite_false (decide_eq_false (by rw [c0]; exact Bool.false_ne_true)) ?_; wp_walk using wpAny_loadPart' hl)
      | (refine wpAny_ite_true (decide_eq_true c1) ?_; wp_walk using wpAny_loadPart' hl))
    exact ⟨_, rfl, h⟩
def rOneT (K : PySem.W.Frag) : R2 := fun x y H Q => ∃ l xs, x = .ref l ∧ y = .int 1 ∧ SqT K H l xs ∧ Q (.ref l) H
theorem op_oneT {X : Cx} : OpR X (binaryOp .Mult) (rOneT X.K) := by
  intro pins s σ H x y v u Q I rx ry h
  obtain ⟨l, xs, rfl, rfl, hT, q⟩ := h
  cases rx
  obtain ⟨t, rfl⟩ := ry
  obtain ⟨its, r, ⟨⟨cls, dd, data, sl⟩, ho, hc, n, hd⟩, hs⟩ := I.tuple hT
  simp only at hc hd
  subst hc hd
  refine wpAny_binaryOp_repeat_ref (T := "tuple") (U := "int") (by decide) ⟨_, ho, rfl⟩ (fun s' => typeIs_int s' 1 t) noFill_tuple_mul F.fills_int_mul F.slot_int_rmul repeat_tuple F.slot_int_index.lookup
    (call_meets F.slot_int_rmul (typeIs_int s 1 t) F.entry_int_rmul (F.args_int_rmul_2 _ _) (int_rmul_tuple 1 t l its.toArray n dd sl)
      ⟨ho, rfl, ⟨_, ho, rfl⟩, call_meets F.slot_tuple_mul ⟨_, ho, rfl⟩ F.entry_tuple_mul (F.args_tuple_mul_2 _ _) (tuple_once l its.toArray n dd sl t (by simp)) ⟨ho, ?_⟩⟩)
  exact ⟨.ref l, H, I, rfl, q⟩
end L2

namespace TL
open PySem L2 PySem.Spec PyProof.Rows
open AutoSeq1 (wpAny_loadPart')
theorem meets_enumerate_newT (l : Addr) (items : Array Value) (n : Nat) (dct : Option Addr) (sl : Array (Option Value)) :
    Meets (Builtin.«enumerate.__new__» ⟨[.type "enumerate", .ref l], []⟩) (fun _ R s => s.heap.get? l = some { cls := .type "tuple", dict := dct, data := .seq items n, slots := sl } ∧
      R (.ok (.ret (.ref (s.heap.push { cls := .type "tuple_iterator", data := .fields #[.ref l, .int 0 0] }).objs.size)))
        { s with heap := (s.heap.push { cls := .type "tuple_iterator", data := .fields #[.ref l, .int 0 0] }).push { cls := .type "enumerate", data := .fields #[.none, .bool false, .ref s.heap.objs.size, rawInt 0, .none, .none] } }) :=
  .of_wp fun prog w A R s h => by
    obtain ⟨hp, g, d, tk, os⟩ := s; obtain ⟨hl, h⟩ := h
    have hsub := sub_enumerate
    have hL : Heap.IsTuple (Shared.heap ⟨hp, g, d, tk, os⟩) l items := ⟨_, hl, rfl, n, rfl⟩
    wp_walk using wpAny_loadPart' hl
    refine wpAny_stack_any fun st => wpAny_pure ?_
    split
    · rename_i c _ _ _ _ _
      cases (c == Value.type "enumerate")
      · wp_walk using wpAny_loadPart' hl, wpAny_pyIter_tuple hL
        exact ⟨_, rfl, h⟩
      · wp_walk using wpAny_loadPart' hl, wpAny_pyIter_tuple hL
        exact ⟨_, rfl, h⟩
    · wp_walk using wpAny_loadPart' hl, wpAny_pyIter_tuple hL
      exact ⟨_, rfl, h⟩
section
variable {prog : Program} {w : World} {A : Around} {E : Value → Shared → Prop} {s : Shared}
theorem call_enumerate_tup {l : Addr} {items : Array Value} {Q : Value → Shared → Prop} (hL : s.heap.IsTuple l items)
    (h : ∀ h', IsEnum h' (s.heap.objs.size + 1) s.heap.objs.size 0 .none → h'.IsTupleIter s.heap.objs.size l 0 → h'.objs.size = s.heap.objs.size + 2 →
      (∀ b o, s.heap.get? b = some o → h'.get? b = some o) → Q (.ref (s.heap.objs.size + 1)) { s with heap := h' }) :
    wpAny (model prog w) A (call (.type "enumerate") [.ref l]) Q E s := by
  obtain ⟨⟨c, dct, dt, sl⟩, hl, hc, n, hd⟩ := hL
  replace hc : c = .type "tuple" := hc
  replace hd : dt = .seq items n := hd
  subst hc hd
  refine callType_new F.called_enumerate (by decide) (F.typeCall_enumerate_1 _) (F.newCall_enumerate_1 _) (fun obj => F.args_object_init_2 obj _) F.entry_enumerate_new
    (meets_enumerate_newT l items n dct sl) ⟨hl, ?_⟩
  have hz : (s.heap.push { cls := .type "tuple_iterator", data := .fields #[.ref l, .int 0 0] }).objs.size = s.heap.objs.size + 1 := Heap.size_push ..
  show _ ∧ _
  rw [hz]
  have he : IsEnum ((s.heap.push { cls := .type "tuple_iterator", data := .fields #[.ref l, .int 0 0] }).push
      { cls := .type "enumerate", data := .fields #[.none, .bool false, .ref s.heap.objs.size, rawInt 0, .none, .none] }) (s.heap.objs.size + 1) s.heap.objs.size 0 .none := by
    have := Heap.get?_push_size (s.heap.push { cls := .type "tuple_iterator", data := .fields #[.ref l, .int 0 0] })
      (o := { cls := .type "enumerate", data := .fields #[.none, .bool false, .ref s.heap.objs.size, rawInt 0, .none, .none] }) rfl
    rw [hz] at this; exact this
  refine ⟨⟨_, he, rfl⟩, h _ he ⟨_, Heap.get?_push_of_some _ (Heap.get?_push_size _ rfl), rfl, rfl⟩ (by rw [Heap.size_push, hz]) fun b o x => Heap.get?_push_of_some _ (Heap.get?_push_of_some _ x)⟩
end
/-- the tuple at a as it stands, each item with its number in a new pair -/
def IteT (K : PySem.W.Frag) (a : Addr) : It :=
  ⟨fun i H => ∃ (xs : List V) (x : V), SqT K H a xs ∧ xs[i]? = some x, fun i H v H' => ∃ T x, v = .ref T ∧ H T = none ∧ H' = upd H T (.tup [.int (i : Nat), x]) ∧ ∀ xs, SqT K H a xs → xs[i]? = some x, fun i H => ∃ xs : List V, SqT K H a xs ∧ xs.length ≤ i⟩
theorem turn_enumT {P : Program} {w : World} {K : PySem.W.Frag} {elts : List Expr} {kk : Nat} {tpos : Pos} (a e it : Addr) :
    Turn P w K (.Tuple elts kk tpos) (IteT K a) [e, it] e (fun i h => (∃ old, IsEnum h e it ((i : Nat) : Int) old) ∧ h.IsTupleIter it a i ∧ e ≠ it) where
  mem := by simp
  obj := fun i h st b hb => by
    obtain ⟨⟨old, he⟩, ⟨o, ho, hc, hd⟩, _⟩ := st
    have e' : b = e ∨ b = it := by simpa using hb
    rcases e' with z | z
    · rw [z]; exact ⟨_, he, fun v q => nomatch q⟩
    · rw [z]; exact ⟨o, ho, fun v q => by rw [hd] at q; cases q⟩
  keep := fun i h h' st k => let ⟨⟨old, he⟩, hi, hne⟩ := st; ⟨⟨old, k e (by simp) _ he⟩, hi.at fun o q => k it (by simp) o q, hne⟩
  item := by
    intro X hP hw hK hc i pins s σ H E I hf st hg
    subst hP hw hK
    obtain ⟨⟨old, he⟩, hit, hne⟩ := st
    obtain ⟨xs, x, hq, hx⟩ := hg
    obtain ⟨its, rv, p, hz⟩ := I.tuple hq
    obtain ⟨u, hu, ru⟩ := rv.get hx
    have hel : e < s.heap.objs.size := Heap.lt_size he
    have hil : it < s.heap.objs.size := by obtain ⟨_, q, _⟩ := hit; exact Heap.lt_size q
    have pt : s.heap.IsTuple a its.toArray := p
    have hai : a ≠ it := by
      obtain ⟨o1, q1, c1, d1⟩ := hit
      obtain ⟨o2, q2, c2, n2, d2⟩ := pt
      intro z
      rw [z, q1] at q2
      cases q2
      rw [d1] at d2
      cases d2
    have hae : e ≠ a := by
      obtain ⟨o2, q2, c2, n2, d2⟩ := pt
      intro z
      have he' : s.heap.get? e = some _ := he
      rw [z, q2] at he'
      cases he'
      cases d2
    have hil2 : i < its.toArray.size := by
      rw [List.size_toArray]
      exact (List.getElem?_eq_some_iff.mp hu).1
    refine wpAny_pyNext_enum_itemD (Draws.tuple (A := X.A.in1) (show X.A.in1.handled = none from I.ok.hd hc) it a hai its.toArray) he ⟨hit, pt⟩ hil2 hne (by simp [hne, hae]) fun u' h' tk hP' ho hst hT hsz hk => ?_
    have eu : u' = u := by
      have : its.toArray[i]? = some u := by simpa using hu
      rw [this] at hP'
      exact (Option.some.inj hP').symm
    subst eu
    refine ⟨_, rfl, wpAny_letOwnedTupleGo_enum (s := { s with heap := h', toks := tk + 1 }) ho fun h'' he' sb => ?_⟩
    have hT2 : h''.get? s.heap.objs.size = some { cls := .type "tuple", data := .seq #[.int i tk, u'] } := (sb.2 _ (Nat.ne_of_gt hel)).trans hT
    have new : ObjOk X.prog X.w (upd H s.heap.objs.size (.tup [.int (i : Nat), x])) h'' s.heap.objs.size (.tup [.int (i : Nat), x]) :=
      ⟨by show 2 ≤ sizeLine; decide, [.int i tk, u'], .cons ⟨_, rfl⟩ (.cons ru .nil), ⟨_, hT2, rfl, _, rfl⟩⟩
    have I1 : Inv X pins σ (upd H s.heap.objs.size (.tup [.int (i : Nat), x])) { s with heap := h'', toks := tk + 1 } :=
      I.turnedNew (ch := [e, it]) (fun b ob hb q => (sb.2 b (fun z => hb (by simp [z]))).trans (hk b ob (fun z => hb (by simp [z])) (fun z => hb (by simp [z])) q)) hf (Nat.le_refl _) new
    refine ⟨.ref s.heap.objs.size, _, I1, rfl, ⟨_, x, rfl, I.hok.fresh (Nat.le_refl _), rfl, fun ys hy => by rw [I.tuple_inj hy hq]; exact hx⟩, ⟨⟨u', ?_⟩, hst.1.at fun o q => (sb.2 it (Ne.symm hne)).trans q, hne⟩, fun b hb => ?_⟩
    · have e1 : ((i + 1 : Nat) : Int) = (i : Int) + 1 := by omega
      rw [e1]; exact he'
    · have hb' : b < s.heap.objs.size := by
        have e' : b = e ∨ b = it := by simpa using hb
        rcases e' with z | z
        · rw [z]; exact hel
        · rw [z]; exact hil
      rw [upd_ne (Nat.ne_of_lt hb')]
      exact (hf b hb).1
  done := by
    intro X hP hw hK hc i pins s σ H E I hf st hg
    subst hP hw hK
    obtain ⟨⟨old, he⟩, hit, hne⟩ := st
    obtain ⟨xs, hq, hx⟩ := hg
    obtain ⟨its, rv, p, hz⟩ := I.tuple hq
    obtain ⟨f0, f1, f2, f3, f4, f5⟩ := hf it (by simp)
    have hl := rv.length
    have pt : s.heap.IsTuple a its.toArray := p
    have hT : s.TypeIs (.ref e) "enumerate" := ⟨_, he, rfl⟩
    unfold pyNext
    refine wpAny_bind (wpAny_attempt (wpAny_callSpecial?_slot (name := Str.ofString "__next__") hT F.slot_enumerate_next
      (wpAny_call_entry F.slot_enumerate_next hT F.entry_enumerate_next ?_ (F.args_enumerate_next_1 _))))
    show wpAny _ _ (field (.ref e) 2 >>= _) _ _ _
    refine wpAny_bind (wpAny_field he rfl (x := .ref it) rfl ?_)
    refine wpAny_bind (wpAny_nextOf_tuple_end (I.ok.hd hc) hit pt (by simp; omega) fun h' x he' hx' => ?_)
    obtain ⟨o, ho, hcc⟩ := hx'
    refine wpAny_bind (wpAny_isInstance (T := "StopIteration") (b := true) ⟨o, ho, hcc⟩ isSubtype_stop ?_)
    exact wpAny_pure ⟨rfl, I.turned (t' := s.toks) (fun b o hb q => he' b o hb q) f0 f1 f3 f4 f5⟩
  self := fun A i s Q E st h => let ⟨⟨_, he⟩, _⟩ := st; wpAny_pyIter_enum he h
def iEnumT (K : PySem.W.Frag) (ta : TA) : TI := fun σ H R => ta σ H fun vs H1 => ∃ a xs, vs = [.ref a] ∧ SqT K H1 a xs ∧ R (IteT K a) H1
theorem pi_enumT {X : Cx} {e : Expr} {ta : TA} {p pos tpos : Pos} {elts : List Expr} {kk : Nat} (hg : Gl X "enumerate") (hm : X.mg "enumerate" = none) (ha : PA X [e] ta) (hs : starEach [e] X.env = [(false, eval e X.env)]) :
    PI X (.Tuple elts kk tpos) (.Call (.Name "enumerate" p) [e] [] pos) (iEnumT X.K ta) := by
  refine ⟨fun pins s σ H R I h => ?_⟩
  refine Call_ (ld_blt I hg hm boot_enumerate (PyProof.Rows.callWith_type1 (thn (ha.run pos pins s σ H _ I h) fun us s1 ⟨vs, H1, I1, r1, q1⟩ => ?_) hs rfl))
  obtain ⟨a, xs, ex, hq, q⟩ := q1
  subst ex
  cases r1 with
  | cons r rr =>
    cases rr
    cases r
    obtain ⟨its, rv, p', hz⟩ := I1.tuple hq
    have pt : s1.heap.IsTuple a its.toArray := p'
    refine call_enumerate_tup pt fun h' he hit hsz hk => wpAny_pyIter_enum he ?_
    have I2 : Inv X pins σ H1 { s1 with heap := h' } := I1.kept (t' := s1.toks) hk
    refine ⟨s1.heap.objs.size + 1, [s1.heap.objs.size + 1, s1.heap.objs.size], _, _, H1, rfl, I2, turn_enumT a (s1.heap.objs.size + 1) s1.heap.objs.size, ⟨⟨.none, he⟩, hit, Nat.succ_ne_self _⟩, fun b hb => ?_, q⟩
    have e' : b = s1.heap.objs.size + 1 ∨ b = s1.heap.objs.size := by simpa using hb
    have hle : s1.heap.objs.size ≤ b := by
      rcases e' with z | z
      · rw [z]; exact Nat.le_add_right _ _
      · rw [z]; exact Nat.le_refl _
    exact I1.fpOk hle (I1.hok.fresh hle)
end TL

namespace TL
open PySem L2

/-- the written part, and the world -/
structure KW where
  K : PySem.W.Frag
  w : World
instance : Coe KW PySem.W.Frag := ⟨KW.K⟩
@[reducible] def _root_.L2.Cx.kw (X : L2.Cx) : KW := ⟨X.K, X.w⟩

/-- whose thing stands at an address: a name's (depth, slot), a cell's of the store; the path to it -/
inductive Root where
  | slot (dp i : Nat) | cell (l : Nat)
  deriving DecidableEq
structure Wd where
  mu : List Addr
  wr : Addr → Option (Root × List Str)
section
variable (K : KW) (ω : Wd) (H : Hp)
mutual
def Rep : D → V → Prop
  | .non, v => v = .non
  | .bl b, v => v = .bl b
  | .int i, v => v = .int i
  | .str x, v => v = .str x ∧ x.length ≤ sizeLine
  | .tup ds, v => ds.length ≤ sizeLine ∧ ∃ a vs, v = .ref a ∧ SqT K H a vs ∧ Reps ds vs
  | .lst ds, v => ds.length ≤ sizeLine ∧ ∃ a vs, v = .ref a ∧ H a = some (.lst vs) ∧ ω.wr a = none ∧ Reps ds vs
  | .fls ds, v => ds.length ≤ sizeLine ∧ ∃ a vs, v = .ref a ∧ ((H a = some (.lst vs) ∧ ω.wr a = none) ∨ (∃ o, H a = some (.frz o (.lst vs))) ∨ ∃ (o : Obj) (its : Array Value) (n : Nat), K.K.lookup a = some o ∧ o.cls = .type "list" ∧ o.dict = none ∧ o.data = .seq its n ∧ its.size ≤ sizeLine ∧ Vals vs its.toList) ∧ Reps ds vs
  | .dic kvs, v => kvs.length ≤ sizeLine ∧ ∃ a kws, v = .ref a ∧ H a = some (.dK kws) ∧ ω.wr a = none ∧ Repk kvs kws
  | .ref l, v => ∃ a, ω.mu[l]? = some a ∧ v = .ref a
  | .ptr l p, v => ∃ a, v = .ref a ∧ ω.wr a = some (.cell l, p)
  | _, _ => False
def Reps : List D → List V → Prop
  | [], vs => vs = []
  | d :: ds, vs => ∃ v r, vs = v :: r ∧ Rep d v ∧ Reps ds r
def Repk : List (Str × D) → List (Key × V) → Prop
  | [], vs => vs = []
  | (k, d) :: ds, vs => ∃ v r, vs = (.inr k, v) :: r ∧ Rep d v ∧ Repk ds r
end
end
section
variable {K : KW} {ω ω' ω'' : Wd} {H H' H'' : Hp}
/-- all that a value leans on is kept -/
structure Kept (ω : Wd) (H : Hp) (ω' : Wd) (H' : Hp) : Prop where
  mu : ω.mu <+: ω'.mu
  tup : ∀ a xs, H a = some (.tup xs) → H' a = some (.tup xs)
  frz : ∀ a o u, H a = some (.frz o u) → H' a = some (.frz o u)
  lst : ∀ a xs, H a = some (.lst xs) → ω.wr a = none → H' a = some (.lst xs) ∧ ω'.wr a = none
  dic : ∀ a xs, H a = some (.dK xs) → ω.wr a = none → H' a = some (.dK xs) ∧ ω'.wr a = none
  cell : ∀ a l p, ω.wr a = some (.cell l, p) → ω'.wr a = some (.cell l, p)
theorem Kept.sqT (k : Kept ω H ω' H') {a : Addr} {vs : List V} (h : SqT K H a vs) : SqT K H' a vs := by
  rcases h with (h | ⟨o, h⟩) | h
  · exact .inl (.inl (k.tup _ _ h))
  · exact .inl (.inr ⟨o, k.frz _ _ _ h⟩)
  · exact .inr h
mutual
theorem Rep.kept (k : Kept ω H ω' H') : ∀ (d : D) (v : V), Rep K ω H d v → Rep K ω' H' d v
  | .non, v, h => h
  | .bl b, v, h => h
  | .int i, v, h => h
  | .str x, v, h => h
  | .tup ds, v, h => by
    obtain ⟨l, a, vs, e, q, r⟩ := h
    exact ⟨l, a, vs, e, k.sqT q, Reps.kept k ds vs r⟩
  | .lst ds, v, h => by
    obtain ⟨l, a, vs, e, q, w, r⟩ := h
    obtain ⟨q', w'⟩ := k.lst _ _ q w
    exact ⟨l, a, vs, e, q', w', Reps.kept k ds vs r⟩
  | .fls ds, v, h => by
    obtain ⟨l, a, vs, e, q, r⟩ := h
    refine ⟨l, a, vs, e, ?_, Reps.kept k ds vs r⟩
    rcases q with ⟨q, w⟩ | ⟨o, q⟩ | q
    · exact .inl (k.lst _ _ q w)
    · exact .inr (.inl ⟨o, k.frz _ _ _ q⟩)
    · exact .inr (.inr q)
  | .dic kvs, v, h => by
    obtain ⟨l, a, vs, e, q, w, r⟩ := h
    obtain ⟨q', w'⟩ := k.dic _ _ q w
    exact ⟨l, a, vs, e, q', w', Repk.kept k kvs vs r⟩
  | .ref l, v, h => by
    obtain ⟨a, e, q⟩ := h
    refine ⟨a, ?_, q⟩
    obtain ⟨t, ht⟩ := k.mu
    rw [← ht, List.getElem?_append_left (List.getElem?_eq_some_iff.mp e).1]
    exact e
  | .ptr l p, v, h => by
    obtain ⟨a, e, q⟩ := h
    exact ⟨a, e, k.cell a l p q⟩
  | .err _, v, h => h.elim
  | .clo _ _, v, h => h.elim
  | .mlst _, v, h => h.elim
  | .mset _, v, h => h.elim
  | .mdic _, v, h => h.elim
  | .ins _ _, v, h => h.elim
theorem Reps.kept (k : Kept ω H ω' H') : ∀ (ds : List D) (vs : List V), Reps K ω H ds vs → Reps K ω' H' ds vs
  | [], vs, h => h
  | d :: ds, vs, h => by
    obtain ⟨v, r, e, h1, h2⟩ := h
    exact ⟨v, r, e, Rep.kept k d v h1, Reps.kept k ds r h2⟩
theorem Repk.kept (k : Kept ω H ω' H') : ∀ (ds : List (Str × D)) (vs : List (Key × V)), Repk K ω H ds vs → Repk K ω' H' ds vs
  | [], vs, h => h
  | (n, d) :: ds, vs, h => by
    obtain ⟨v, r, e, h1, h2⟩ := h
    exact ⟨v, r, e, Rep.kept k d v h1, Repk.kept k ds r h2⟩
end
theorem Kept.refl : Kept ω H ω H := ⟨List.prefix_refl _, fun _ _ h => h, fun _ _ _ h => h, fun _ _ h w => ⟨h, w⟩, fun _ _ h w => ⟨h, w⟩, fun _ _ _ h => h⟩
theorem Kept.trans (a : Kept ω H ω' H') (b : Kept ω' H' ω'' H'') : Kept ω H ω'' H'' :=
  ⟨a.mu.trans b.mu, fun c xs h => b.tup c xs (a.tup c xs h), fun c o u h => b.frz c o u (a.frz c o u h), fun c xs h w => let ⟨x, y⟩ := a.lst c xs h w; b.lst c xs x y, fun c xs h w => let ⟨x, y⟩ := a.dic c xs h w; b.dic c xs x y, fun c l p h => b.cell c l p (a.cell c l p h)⟩
/-- new things only -/
theorem Kept.grow (g : Same H H') : Kept ω H ω H' := ⟨List.prefix_refl _, fun _ _ h => g _ _ h, fun _ _ _ h => g _ _ h, fun _ _ h w => ⟨g _ _ h, w⟩, fun _ _ h w => ⟨g _ _ h, w⟩, fun _ _ _ h => h⟩

theorem Reps.length : ∀ {ds : List D} {vs : List V}, Reps K ω H ds vs → vs.length = ds.length
  | [], vs, h => by rw [show vs = [] from h]; rfl
  | d :: ds, vs, h => by
    obtain ⟨v, r, rfl, h1, h2⟩ := h
    rw [List.length_cons, List.length_cons, Reps.length h2]
theorem Reps.append : ∀ {ds es : List D} {vs ws : List V}, Reps K ω H ds vs → Reps K ω H es ws → Reps K ω H (ds ++ es) (vs ++ ws)
  | [], es, vs, ws, h, h' => by
    have e : vs = [] := h
    subst e
    exact h'
  | d :: ds, es, vs, ws, h, h' => by
    obtain ⟨v, r, rfl, h1, h2⟩ := h
    exact ⟨v, r ++ ws, rfl, h1, Reps.append h2 h'⟩
theorem Reps.get : ∀ {ds : List D} {vs : List V} {i : Nat} {d : D}, Reps K ω H ds vs → ds[i]? = some d → ∃ v, vs[i]? = some v ∧ Rep K ω H d v
  | [], vs, i, d, h, e => by simp at e
  | d' :: ds, vs, 0, d, h, e => by
    obtain ⟨v, r, rfl, h1, h2⟩ := h
    simp at e
    subst e
    exact ⟨v, rfl, h1⟩
  | d' :: ds, vs, i + 1, d, h, e => by
    obtain ⟨v, r, rfl, h1, h2⟩ := h
    simp at e
    obtain ⟨v', e', h'⟩ := Reps.get h2 e
    exact ⟨v', by simpa using e', h'⟩
theorem Reps.get' : ∀ {ds : List D} {vs : List V} {i : Nat} {v : V}, Reps K ω H ds vs → vs[i]? = some v → ∃ d, ds[i]? = some d ∧ Rep K ω H d v
  | [], vs, i, v, h, e => by
    rw [show vs = [] from h] at e
    simp at e
  | d' :: ds, vs, 0, v, h, e => by
    obtain ⟨v', r, rfl, h1, h2⟩ := h
    simp at e
    subst e
    exact ⟨d', rfl, h1⟩
  | d' :: ds, vs, i + 1, v, h, e => by
    obtain ⟨v', r, rfl, h1, h2⟩ := h
    simp at e
    obtain ⟨d, e', h'⟩ := Reps.get' h2 e
    exact ⟨d, by simpa using e', h'⟩
theorem Reps.take : ∀ {ds : List D} {vs : List V} (n : Nat), Reps K ω H ds vs → Reps K ω H (ds.take n) (vs.take n)
  | [], vs, n, h => by rw [show vs = [] from h]; simp [Reps]
  | d :: ds, vs, 0, h => by simp [Reps]
  | d :: ds, vs, n + 1, h => by
    obtain ⟨v, r, rfl, h1, h2⟩ := h
    exact ⟨v, r.take n, rfl, h1, Reps.take n h2⟩
theorem Reps.drop : ∀ {ds : List D} {vs : List V} (n : Nat), Reps K ω H ds vs → Reps K ω H (ds.drop n) (vs.drop n)
  | [], vs, n, h => by rw [show vs = [] from h]; simp [Reps]
  | d :: ds, vs, 0, h => h
  | d :: ds, vs, n + 1, h => by
    obtain ⟨v, r, rfl, h1, h2⟩ := h
    exact Reps.drop n h2
theorem Reps.reverse {ds : List D} {vs : List V} (h : Reps K ω H ds vs) : Reps K ω H ds.reverse vs.reverse := by
  induction ds generalizing vs with
  | nil => rw [show vs = [] from h]; rfl
  | cons d ds ih =>
    obtain ⟨v, r, rfl, h1, h2⟩ := h
    rw [List.reverse_cons, List.reverse_cons]
    exact (ih h2).append ⟨v, [], rfl, h1, rfl⟩
theorem Reps.rep {ds : List D} {vs : List V} (h : Reps K ω H ds vs) : ∀ k : Nat, Reps K ω H (List.replicate k ds).flatten (List.replicate k vs).flatten
  | 0 => rfl
  | k + 1 => by
    rw [List.replicate_succ, List.replicate_succ, List.flatten_cons, List.flatten_cons]
    exact h.append (h.rep k)
theorem Reps.one {d : D} {vs : List V} (h : Reps K ω H [d] vs) : ∃ v, vs = [v] ∧ Rep K ω H d v := by
  obtain ⟨v, r, rfl, h1, h2⟩ := h
  exact ⟨v, by rw [show r = [] from h2], h1⟩
theorem Reps.two {d e : D} {vs : List V} (h : Reps K ω H [d, e] vs) : ∃ v w, vs = [v, w] ∧ Rep K ω H d v ∧ Rep K ω H e w := by
  obtain ⟨v, r, rfl, h1, h2⟩ := h
  obtain ⟨w, rfl, h3⟩ := h2.one
  exact ⟨v, w, rfl, h1, h3⟩
theorem Reps.nil {vs : List V} (h : Reps K ω H [] vs) : vs = [] := h


mutual
theorem Rep.dp : ∀ (d : D) (v : V), d.shp = true ∨ SeqAt.shaped d.py = true ∨ PyData.canLay0 d.py = true → Rep K ω H d v → Dp K H v d.py
  | .non, v, _, h => by rw [show v = .non from h]; exact .non
  | .bl b, v, _, h => by rw [show v = .bl b from h]; exact .bl b
  | .int i, v, _, h => by rw [show v = .int i from h]; exact .int i
  | .str x, v, _, h => by rw [show v = .str x from h.1]; exact .str x
  | .tup ds, v, s, h => by
    obtain ⟨l, a, vs, rfl, q, r⟩ := h
    refine .tup q (Reps.dp ds vs ?_ r)
    have q : PyData.canLay0 (D.tup ds).py = true := s.elim (fun z => SeqAt.canLay_of_shaped z) fun z => z.elim (fun z => SeqAt.canLay_of_shaped z) fun z => z
    simpa [D.py, PyData.canLay0] using q
  | .lst ds, v, s, h => by
    obtain ⟨l, a, vs, rfl, q, _, r⟩ := h
    refine .lst (SqL.of q) (Reps.dp ds vs ?_ r)
    have q : PyData.canLay0 (D.lst ds).py = true := s.elim (fun z => SeqAt.canLay_of_shaped z) fun z => z.elim (fun z => SeqAt.canLay_of_shaped z) fun z => z
    simpa [D.py, PyData.canLay0] using q
  | .fls ds, v, s, h => by
    obtain ⟨l, a, vs, rfl, q, r⟩ := h
    refine .lst ?_ (Reps.dp ds vs ?_ r)
    · rcases q with ⟨q, _⟩ | ⟨o, q⟩ | q
      · exact .inl (.inl q)
      · exact .inl (.inr ⟨o, q⟩)
      · exact .inr q
    have q : PyData.canLay0 (D.fls ds).py = true := s.elim (fun z => SeqAt.canLay_of_shaped z) fun z => z.elim (fun z => SeqAt.canLay_of_shaped z) fun z => z
    simpa [D.py, PyData.canLay0] using q
  | .dic _, v, s, h => by
    have q : PyData.canLay0 (.dict []) = true := s.elim (fun z => SeqAt.canLay_of_shaped z) fun z => z.elim (fun z => SeqAt.canLay_of_shaped z) fun z => z
    simp [PyData.canLay0] at q
  | .ref _, v, s, h => by
    have q : PyData.canLay0 (.dict []) = true := s.elim (fun z => SeqAt.canLay_of_shaped z) fun z => z.elim (fun z => SeqAt.canLay_of_shaped z) fun z => z
    simp [PyData.canLay0] at q
  | .ptr _ _, v, s, h => by
    have q : PyData.canLay0 (.dict []) = true := s.elim (fun z => SeqAt.canLay_of_shaped z) fun z => z.elim (fun z => SeqAt.canLay_of_shaped z) fun z => z
    simp [PyData.canLay0] at q
  | .err _, v, s, h => h.elim
  | .clo _ _, v, s, h => h.elim
  | .mlst _, v, s, h => h.elim
  | .mset _, v, s, h => h.elim
  | .mdic _, v, s, h => h.elim
  | .ins _ _, v, s, h => h.elim
theorem Reps.dp : ∀ (ds : List D) (vs : List V), PyData.canLayAll0 (pys ds) = true → Reps K ω H ds vs → DpAll K H vs (pys ds)
  | [], vs, _, h => by rw [show vs = [] from h]; exact .nil
  | d :: ds, vs, s, h => by
    obtain ⟨v, r, rfl, h1, h2⟩ := h
    have q : PyData.canLay0 d.py = true ∧ PyData.canLayAll0 (pys ds) = true := by simpa [pys, PyData.canLayAll0] using s
    exact .cons (Rep.dp d v (.inr (.inr q.1)) h1) (Reps.dp ds r q.2 h2)
end

mutual
def nk : D → NestedKey
  | .int i => .num i
  | .str x => .text x
  | .tup ds => .tup (nks ds)
  | _ => .none
def nks : List D → List NestedKey
  | [] => []
  | d :: ds => nk d :: nks ds
end
/-- a dict whose keys are the tuples xs (each with its place), all with the value True -/
def msetO (w : World) (a : Addr) (xs : List (NestedKey × Addr)) : HO := .ext fun h => (a == sysModules) = false ∧ ∃ o es ep, h.get? a = some o ∧ o.ExactDict ∧ o.data = .dict es ep ∧
  es.toList = xs.map (fun x => (⟨x.1.hash w, .ref x.2, .bool true⟩ : DictEntry)) ∧ (xs.map (·.1)).Nodup
def KeysR (K : KW) (ω : Wd) (H : Hp) : List D → List (NestedKey × Addr) → Prop
  | [], xs => xs = []
  | d :: ds, xs => ∃ b r, xs = (nk d, b) :: r ∧ isKey d = true ∧ Rep K ω H d (.ref b) ∧ KeysR K ω H ds r
theorem KeysR.kept (k : Kept ω H ω' H') : ∀ {ds : List D} {xs : List (NestedKey × Addr)}, KeysR K ω H ds xs → KeysR K ω' H' ds xs
  | [], xs, h => h
  | d :: ds, xs, h => by
    obtain ⟨b, r, e, i, h1, h2⟩ := h
    exact ⟨b, r, e, i, Rep.kept k d _ h1, KeysR.kept k h2⟩

/-- a name's value: handed on, or owned -/
def OwnR (K : KW) (ω : Wd) (H : Hp) (t : Root) : D → V → Prop
  | .mlst ds, v => ∃ a vs, v = .ref a ∧ H a = some (.lst vs) ∧ ω.wr a = some (t, []) ∧ Reps K ω H ds vs
  | .mset ks, v => ∃ a xs, v = .ref a ∧ H a = some (msetO K.w a xs) ∧ ω.wr a = some (t, []) ∧ KeysR K ω H ks xs
  | d, v => Rep K ω H d v
theorem OwnR.of {t : Root} {d : D} {v : V} (h : Rep K ω H d v) : OwnR K ω H t d v := by
  cases d <;> first | exact h | exact h.elim
theorem OwnR.rep {t : Root} {d : D} {v : V} (o : d.own = false) (h : OwnR K ω H t d v) : Rep K ω H d v := by
  cases d <;> first | exact h | exact absurd o (by simp [D.own])

section
variable (K : KW) (ω : Wd) (H : Hp) (t : Root)
mutual
/-- a value at a place of the root t: handed on, or the root's own -/
def OwnAt : List Str → D → V → Prop
  | p, .mlst ds, v => ∃ a vs, v = .ref a ∧ H a = some (.lst vs) ∧ ω.wr a = some (t, p) ∧ Reps K ω H ds vs
  | p, .mdic kvs, v => ∃ a kws, v = .ref a ∧ H a = some (.dK kws) ∧ ω.wr a = some (t, p) ∧ (kvs.map (·.1)).Nodup ∧ EntsR p kvs kws
  | _, d, v => Rep K ω H d v
/-- the entries of a dict -/
def EntsR : List Str → List (Str × D) → List (Key × V) → Prop
  | _, [], vs => vs = []
  | p, (k, d) :: ds, vs => ∃ v r, vs = (.inr k, v) :: r ∧ k.length ≤ sizeLine ∧ OwnAt (p ++ [k]) d v ∧ EntsR p ds r
end
end
theorem OwnAt.of {t : Root} {p : List Str} {d : D} {v : V} (h : Rep K ω H d v) : OwnAt K ω H t p d v := by
  cases d <;> first | exact h | exact h.elim
theorem OwnAt.rep {t : Root} {p : List Str} {d : D} {v : V} (o : d.own = false) (h : OwnAt K ω H t p d v) : Rep K ω H d v := by
  cases d <;> first | exact h | exact absurd o (by simp [D.own])
mutual
theorem OwnAt.frame {t : Root} (k : Kept ω H ω' H') : ∀ (d : D) (p : List Str) (v : V), (∀ a q, ω.wr a = some (t, p ++ q) → ω'.wr a = ω.wr a ∧ H' a = H a) → OwnAt K ω H t p d v → OwnAt K ω' H' t p d v
  | .mlst ds, p, v, c, h => by
    obtain ⟨a, vs, e, q, w, r⟩ := h
    obtain ⟨e1, e2⟩ := c a [] (by rw [List.append_nil]; exact w)
    exact ⟨a, vs, e, e2.trans q, e1.trans w, Reps.kept k ds vs r⟩
  | .mdic kvs, p, v, c, h => by
    obtain ⟨a, kws, e, q, w, n, r⟩ := h
    obtain ⟨e1, e2⟩ := c a [] (by rw [List.append_nil]; exact w)
    exact ⟨a, kws, e, e2.trans q, e1.trans w, n, EntsR.frame k kvs p kws (fun a j q _ => c a (j :: q)) r⟩
  | .non, _, _, _, h => Rep.kept k _ _ h
  | .bl _, _, _, _, h => Rep.kept k _ _ h
  | .int _, _, _, _, h => Rep.kept k _ _ h
  | .str _, _, _, _, h => Rep.kept k _ _ h
  | .tup _, _, _, _, h => Rep.kept k _ _ h
  | .lst _, _, _, _, h => Rep.kept k _ _ h
  | .fls _, _, _, _, h => Rep.kept k _ _ h
  | .dic _, _, _, _, h => Rep.kept k _ _ h
  | .ref _, _, _, _, h => Rep.kept k _ _ h
  | .ptr _ _, _, _, _, h => Rep.kept k _ _ h
  | .clo _ _, _, _, _, h => Rep.kept k _ _ h
  | .err _, _, _, _, h => Rep.kept k _ _ h
  | .mset _, _, _, _, h => Rep.kept k _ _ h
  | .ins _ _, _, _, _, h => Rep.kept k _ _ h
theorem EntsR.frame {t : Root} (k : Kept ω H ω' H') : ∀ (ds : List (Str × D)) (p : List Str) (vs : List (Key × V)), (∀ a j q, j ∈ ds.map (·.1) → ω.wr a = some (t, p ++ j :: q) → ω'.wr a = ω.wr a ∧ H' a = H a) → EntsR K ω H t p ds vs → EntsR K ω' H' t p ds vs
  | [], _, _, _, h => h
  | (j, d) :: ds, p, vs, c, h => by
    obtain ⟨v, r, e, l, h1, h2⟩ := h
    exact ⟨v, r, e, l, OwnAt.frame k d (p ++ [j]) v (fun a q w => c a j q (by simp) (by rw [List.append_assoc] at w; exact w)) h1, EntsR.frame k ds p r (fun a i q hi w => c a i q (List.mem_cons_of_mem _ hi) w) h2⟩
end
def FldsR (K : KW) (ω : Wd) (H : Hp) (l : Nat) : List (Str × D) → List (Str × V) → Prop
  | [], vs => vs = []
  | (f, d) :: ds, vs => ∃ v r, vs = (f, v) :: r ∧ OwnAt K ω H (.cell l) [f] d v ∧ FldsR K ω H l ds r
/-- a cell: an instance of the class named c, or a dict -/
def CellI (K : KW) (ω : Wd) (H : Hp) (l : Nat) (c : Str) (fs : List (Str × D)) : Prop := ∃ a C dx vs, ω.mu[l]? = some a ∧ H a = some (.ins C dx vs) ∧ ω.wr a = some (.cell l, []) ∧ PySem.W.nsIn K.K mainGlobals c = some (some (.ref C)) ∧ (fs.map (·.1)).Nodup ∧ FldsR K ω H l fs vs
def CellR (K : KW) (ω : Wd) (H : Hp) (l : Nat) : D → Prop
  | .ins c fs => CellI K ω H l c fs
  | .mdic kvs => ∃ a, ω.mu[l]? = some a ∧ OwnAt K ω H (.cell l) [] (.mdic kvs) (.ref a)
  | _ => False
theorem FldsR.frame {l : Nat} (k : Kept ω H ω' H') : ∀ {ds : List (Str × D)} {vs : List (Str × V)}, (∀ a j q, j ∈ ds.map (·.1) → ω.wr a = some (.cell l, j :: q) → ω'.wr a = ω.wr a ∧ H' a = H a) → FldsR K ω H l ds vs → FldsR K ω' H' l ds vs
  | [], vs, _, h => h
  | (f, d) :: ds, vs, c, h => by
    obtain ⟨v, r, e, h1, h2⟩ := h
    exact ⟨v, r, e, OwnAt.frame k d [f] v (fun a q w => c a f q (by simp) w) h1, h2.frame k fun a j q hj w => c a j q (List.mem_cons_of_mem _ hj) w⟩
/-- from one state to another: values are kept, and all that belongs to the cell l stays as it is -/
structure CKept (l : Nat) (ω : Wd) (H : Hp) (ω' : Wd) (H' : Hp) : Prop where
  kept : Kept ω H ω' H'
  cell : ∀ a p, ω.wr a = some (.cell l, p) → ω'.wr a = ω.wr a ∧ H' a = H a
theorem mu_kept {l : Nat} {a : Addr} (k : Kept ω H ω' H') (h : ω.mu[l]? = some a) : ω'.mu[l]? = some a := by
  obtain ⟨t, ht⟩ := k.mu
  rw [← ht, List.getElem?_append_left (List.getElem?_eq_some_iff.mp h).1]
  exact h
theorem CellI.kept {l : Nat} {c : Str} {fs : List (Str × D)} (k : CKept l ω H ω' H') (h : CellI K ω H l c fs) : CellI K ω' H' l c fs := by
  obtain ⟨a, C, dx, vs, h1, h2, h3, h4, h5, h6⟩ := h
  obtain ⟨e2, e3⟩ := k.cell a _ h3
  exact ⟨a, C, dx, vs, mu_kept k.kept h1, e3.trans h2, e2.trans h3, h4, h5, h6.frame k.kept fun a j q _ w => k.cell a _ w⟩
theorem CellR.kept {l : Nat} {d : D} (k : CKept l ω H ω' H') (h : CellR K ω H l d) : CellR K ω' H' l d := by
  cases d <;> first | exact h.elim | exact CellI.kept k h | skip
  obtain ⟨a, h1, h2⟩ := h
  exact ⟨a, mu_kept k.kept h1, OwnAt.frame k.kept _ _ _ (fun a q w => k.cell a _ w) h2⟩
def keysOf : D → List Str
  | .ins _ fs => fs.map (·.1)
  | .mdic kvs => kvs.map (·.1)
  | _ => []
/-- the names' values -/
structure Loc (K : KW) (ω : Wd) (dp : Nat) (ρ : Env) (σ : L2.St) (H : Hp) : Prop where
  len : σ.length = ρ.length
  at_ : ∀ i d, ρ[i]? = some (some d) → ∃ v, σ[i]? = some (some v) ∧ OwnR K ω H (.slot dp i) d v
/-- the store's cells -/
structure StoOk (K : KW) (ω : Wd) (st : Sto) (H : Hp) : Prop where
  len : ω.mu.length = st.length
  trk : ∀ a, ω.wr a ≠ none → H a ≠ none
  at_ : ∀ (l : Nat) (d : D), st[l]? = some d → CellR K ω H l d
  inj : ∀ a b l p, ω.wr a = some (.cell l, p) → ω.wr b = some (.cell l, p) → a = b
  dom : ∀ a l p, ω.wr a = some (.cell l, p) → ∃ d, st[l]? = some d ∧ (p = [] ∨ ∃ f q, p = f :: q ∧ f ∈ keysOf d)
/-- from one state to another: values are kept; what belongs to names of frames below dp stays as it is -/
structure Ext (dp : Nat) (ω : Wd) (H : Hp) (ω' : Wd) (H' : Hp) : Prop where
  kept : Kept ω H ω' H'
  fix : ∀ a k i p, ω.wr a = some (.slot k i, p) → k < dp → ω'.wr a = ω.wr a ∧ H' a = H a
theorem Ext.refl {dp : Nat} : Ext dp ω H ω H := ⟨.refl, fun _ _ _ _ _ _ => ⟨rfl, rfl⟩⟩
theorem Ext.trans {dp : Nat} (a : Ext dp ω H ω' H') (b : Ext dp ω' H' ω'' H'') : Ext dp ω H ω'' H'' :=
  ⟨a.kept.trans b.kept, fun c k i p h hk => by
    obtain ⟨e1, e2⟩ := a.fix c k i p h hk
    obtain ⟨e3, e4⟩ := b.fix c k i p (e1.trans h) hk
    exact ⟨e3.trans e1, e4.trans e2⟩⟩
theorem Ext.mono {dp dp' : Nat} (a : Ext dp' ω H ω' H') (h : dp ≤ dp') : Ext dp ω H ω' H' := ⟨a.kept, fun c k i p e hk => a.fix c k i p e (Nat.lt_of_lt_of_le hk h)⟩
theorem Rep.ext {dp : Nat} (x : Ext dp ω H ω' H') {d : D} {v : V} (h : Rep K ω H d v) : Rep K ω' H' d v := Rep.kept x.kept d v h
theorem Reps.ext {dp : Nat} (x : Ext dp ω H ω' H') {d : List D} {v : List V} (h : Reps K ω H d v) : Reps K ω' H' d v := Reps.kept x.kept d v h
theorem OwnR.ext {dp k i : Nat} (x : Ext dp ω H ω' H') (hk : k < dp) {d : D} {v : V} (h : OwnR K ω H (.slot k i) d v) : OwnR K ω' H' (.slot k i) d v := by
  cases d with
  | mlst ds =>
    obtain ⟨a, vs, e, q, w, r⟩ := h
    obtain ⟨e1, e2⟩ := x.fix a k i [] w hk
    exact ⟨a, vs, e, e2.trans q, e1.trans w, r.ext x⟩
  | mset ks =>
    obtain ⟨a, xs, e, q, w, r⟩ := h
    obtain ⟨e1, e2⟩ := x.fix a k i [] w hk
    exact ⟨a, xs, e, e2.trans q, e1.trans w, r.kept x.kept⟩
  | _ => first | exact Rep.ext x h
theorem Loc.ext {dp : Nat} {ρ : Env} {σ : L2.St} (x : Ext (dp + 1) ω H ω' H') (h : Loc K ω dp ρ σ H) : Loc K ω' dp ρ σ H' :=
  ⟨h.len, fun i d e => let ⟨v, e', r⟩ := h.at_ i d e; ⟨v, e', r.ext x (Nat.lt_succ_self _)⟩⟩
/-- new things only -/
theorem Ext.grow {dp : Nat} (hw : ∀ a, ω.wr a ≠ none → H a ≠ none) (g : Same H H') : Ext dp ω H ω H' :=
  ⟨.grow g, fun a k i p e _ => ⟨rfl, by
    cases q : H a with
    | none => exact absurd q (hw a (by rw [e]; simp))
    | some o => rw [g _ _ q]⟩⟩
end
end TL

namespace TL
open PySem L2
section
variable {K : KW} {ω ω' ω'' : Wd} {H H' H'' : Hp}
theorem StoOk.grow {st : Sto} (h : StoOk K ω st H) (g : Same H H') : StoOk K ω st H' :=
  ⟨h.len, fun a n => by
    cases q : H a with
    | none => exact absurd q (h.trk a n)
    | some o => rw [g _ _ q]; simp, fun l d e => (h.at_ l d e).kept ⟨.grow g, fun a p e => ⟨rfl, by
    cases q : H a with
    | none => exact absurd q (h.trk a (by rw [e]; simp))
    | some o => rw [g _ _ q]⟩⟩, h.inj, h.dom⟩
theorem Ext.ofGrow {dp : Nat} {st : Sto} (h : StoOk K ω st H) (g : Same H H') : Ext dp ω H ω H' := Ext.grow h.trk g
theorem Rep.grow (g : Same H H') {d : D} {v : V} (h : Rep K ω H d v) : Rep K ω H' d v := Rep.kept (.grow g) d v h
theorem Reps.grow (g : Same H H') {d : List D} {v : List V} (h : Reps K ω H d v) : Reps K ω H' d v := Reps.kept (.grow g) d v h
theorem same_new {p : Addr} (h : H p = none) (o : HO) : Same H (upd H p o) := fun b u q => by rw [upd_ne (ne_of_none q h)]; exact q
theorem same_refl : Same H H := fun _ _ q => q

/-- what stands behind a piece of code that gives r -/
def Post (K : KW) (dp : Nat) (W : WX) (cls : Nat → Value) (σ : L2.St) (ω : Wd) (H : Hp) {α : Type} (r : R α) (P : α → Sto → Wd → Hp → Prop) : Prop := match r with
  | .ok a st' => ∀ ω' H', Ext (dp + 1) ω H ω' H' → StoOk K ω' st' H' → P a st' ω' H'
  | .exc c st' => ∀ ω' H', Ext (dp + 1) ω H ω' H' → StoOk K ω' st' H' → W (cls c) none σ H'
  | .fail => False
variable {dp : Nat} {W : WX} {cls : Nat → Value} {σ : L2.St}
theorem Post.bind {α β : Type} {r : R α} {f : α → Sto → R β} {P : β → Sto → Wd → Hp → Prop} (h : Post K dp W cls σ ω H (r.bind f) P) :
    Post K dp W cls σ ω H r fun a st1 ω1 H1 => Post K dp W cls σ ω1 H1 (f a st1) P := by
  cases r with
  | ok a st1 =>
    intro ω1 H1 x1 s1
    have h : Post K dp W cls σ ω H (f a st1) P := h
    show Post K dp W cls σ ω1 H1 (f a st1) P
    cases q : f a st1 with
    | ok b st2 => rw [q] at h; exact fun ω2 H2 x2 s2 => h ω2 H2 (x1.trans x2) s2
    | exc c st2 => rw [q] at h; exact fun ω2 H2 x2 s2 => h ω2 H2 (x1.trans x2) s2
    | fail => rw [q] at h; exact h
  | exc c st1 => exact h
  | fail => exact h
theorem Post.mono {α : Type} {r : R α} {P P' : α → Sto → Wd → Hp → Prop} (h : Post K dp W cls σ ω H r P) (i : ∀ a st' ω' H', Ext (dp + 1) ω H ω' H' → StoOk K ω' st' H' → P a st' ω' H' → P' a st' ω' H') : Post K dp W cls σ ω H r P' := by
  cases r with
  | ok a st1 => exact fun ω' H' x s => i _ _ _ _ x s (h ω' H' x s)
  | exc c st1 => exact h
  | fail => exact h
theorem Post.lift {α : Type} {st : Sto} {o : Option α} {P : α → Sto → Wd → Hp → Prop} (h : Post K dp W cls σ ω H (R.lift st o) P) : ∃ d, o = some d ∧ ∀ ω' H', Ext (dp + 1) ω H ω' H' → StoOk K ω' st H' → P d st ω' H' := by
  cases o with
  | some d => exact ⟨d, rfl, h⟩
  | none => exact h.elim
/-- an expression's reading -/
def tE (K : KW) (C : Cal) (dp : Nat) (W : WX) (cls : Nat → Value) (m : E) : TE := fun σ H Q => ∃ ω ρ st, Loc K ω dp ρ σ H ∧ StoOk K ω st H ∧
  Post K dp W cls σ ω H (ev C m ρ st) fun d _ ω' H' => ∀ v, Rep K ω' H' d v → Q v H'
/-- a test's -/
def tT (K : KW) (C : Cal) (dp : Nat) (W : WX) (cls : Nat → Value) (m : E) : TT := fun σ H Q => ∃ ω ρ st, Loc K ω dp ρ σ H ∧ StoOk K ω st H ∧
  Post K dp W cls σ ω H (ev C m ρ st) fun d _ ω' H' => ∃ b, d = .bl b ∧ Q b H'
/-- several -/
def tEs (K : KW) (C : Cal) (dp : Nat) (W : WX) (cls : Nat → Value) (ms : List E) : TA := fun σ H Q => ∃ ω ρ st, Loc K ω dp ρ σ H ∧ StoOk K ω st H ∧
  Post K dp W cls σ ω H (evs C ms ρ st) fun ds _ ω' H' => ∀ vs, Reps K ω' H' ds vs → Q vs H'
end
section
variable {X : Cx} {e : Expr} {es : List Expr} {t t' : TE} {u u' : TT} {ta ta' : TA}
theorem pe_imp (h : PE X e t) (i : ∀ σ H Q, t' σ H Q → t σ H Q) : PE X e t' := ⟨fun pins s σ H Q I q => h.run pins s σ H Q I (i σ H Q q)⟩
theorem pt_imp (h : PT X e u) (i : ∀ σ H Q, u' σ H Q → u σ H Q) : PT X e u' := ⟨fun pins s σ H Q I q => h.run pins s σ H Q I (i σ H Q q)⟩
theorem pa_imp (h : PA X es ta) (i : ∀ σ H Q, ta' σ H Q → ta σ H Q) : PA X es ta' := ⟨fun pos pins s σ H Q I q => h.run pos pins s σ H Q I (i σ H Q q)⟩
end

/-- an operation on values by what it gives -/
def rB (K : KW) (g : D → D → Option D) : R2 := fun x y H Q => ∃ (ω : Wd) (a b d : D), (∀ a, ω.wr a ≠ none → H a ≠ none) ∧ Rep K ω H a x ∧ Rep K ω H b y ∧ g a b = some d ∧ ∀ H' v, Same H H' → Rep K ω H' d v → Q v H'
theorem fresh_wr {ω : Wd} {H : Hp} (tr : ∀ a, ω.wr a ≠ none → H a ≠ none) {p : Addr} (hp : H p = none) : ω.wr p = none := by
  cases q : ω.wr p with
  | none => rfl
  | some z => exact absurd hp (tr p (by rw [q]; simp))
section
variable {X : Cx} {K : KW} {f : Value → Value → Sem Value} {r : R2} {g : D → D → Option D}
theorem opr_imp {r r' : R2} (h : OpR X f r) (i : ∀ x y H Q, r' x y H Q → r x y H Q) : OpR X f r' := fun pins s σ H x y v u Q I rx ry q => h pins s σ H x y v u Q I rx ry (i x y H Q q)
theorem rep_new_lst {ω : Wd} {H : Hp} (tr : ∀ a, ω.wr a ≠ none → H a ≠ none) {ds : List D} {vs : List V} {p : Addr} (hp : H p = none) (r : Reps K ω H ds vs) (l : ds.length ≤ sizeLine) : Rep K ω (upd H p (.lst vs)) (.lst ds) (.ref p) :=
  ⟨l, p, vs, rfl, upd_same, fresh_wr tr hp, r.grow (same_new hp _)⟩
theorem rep_new_tup {ω : Wd} {H : Hp} {ds : List D} {vs : List V} {p : Addr} (hp : H p = none) (r : Reps K ω H ds vs) (l : ds.length ≤ sizeLine) : Rep K ω (upd H p (.tup vs)) (.tup ds) (.ref p) :=
  ⟨l, p, vs, rfl, SqT.of upd_same, r.grow (same_new hp _)⟩
theorem op_dAdd : OpR X (binaryOp .Add) (rB X.kw dAdd) := by
  refine opr_imp (op_add.or (op_add_str.or (op_catA.or op_cat))) ?_
  rintro x y H Q ⟨ω, a, b, d, tr, ra, rb, e, q⟩
  unfold dAdd at e
  split at e
  · cases e
    cases ra; cases rb
    exact .inl ⟨_, _, rfl, rfl, q H _ same_refl rfl⟩
  · split at e
    · rename_i hl
      cases e
      obtain ⟨rfl, _⟩ := ra
      obtain ⟨rfl, _⟩ := rb
      refine .inr (.inl ⟨_, _, rfl, rfl, hl, q H _ same_refl ⟨rfl, ?_⟩⟩)
      show (Str.append _ _).cps.size ≤ _
      unfold Str.append
      rw [Array.size_append]
      exact hl
    · cases e
  · split at e
    · rename_i hl
      cases e
      obtain ⟨_, a1, vs, rfl, s1, r1⟩ := ra
      obtain ⟨_, a2, ws, rfl, s2, r2⟩ := rb
      have l1 := r1.length
      have l2 := r2.length
      refine .inr (.inr (.inl ⟨a1, a2, vs, ws, rfl, rfl, s1, s2, by rw [l1, l2]; exact hl, fun e => ?_, fun n e => ?_, fun n1 n2 p hp => ?_⟩))
      · subst e
        have r0 := r1.append r2
        rw [List.nil_append] at r0
        exact q H _ same_refl ⟨by rw [List.length_append]; exact hl, a2, ws, rfl, s2, r0⟩
      · subst e
        have r0 := r1.append r2
        rw [List.append_nil] at r0
        exact q H _ same_refl ⟨by rw [List.length_append]; exact hl, a1, vs, rfl, s1, r0⟩
      · exact q _ _ (same_new hp _) (rep_new_tup hp (r1.append r2) (by rw [List.length_append]; exact hl))
    · cases e
  · split at e
    · rename_i hl
      cases e
      obtain ⟨_, a1, vs, rfl, s1, w1, r1⟩ := ra
      obtain ⟨_, a2, ws, rfl, s2, w2, r2⟩ := rb
      have l1 := r1.length
      have l2 := r2.length
      refine .inr (.inr (.inr ⟨a1, a2, vs, ws, rfl, rfl, s1, s2, by rw [l1, l2]; exact hl, fun p hp => ?_⟩))
      exact q _ _ (same_new hp _) (rep_new_lst tr hp (r1.append r2) (by rw [List.length_append]; exact hl))
    · cases e
  · cases e
theorem op_dSub : OpR X (binaryOp .Sub) (rB X.kw dSub) := by
  refine opr_imp op_sub ?_
  rintro x y H Q ⟨ω, a, b, d, tr, ra, rb, e, q⟩
  unfold dSub at e
  split at e
  · cases e
    cases ra; cases rb
    exact ⟨_, _, rfl, rfl, q H _ same_refl rfl⟩
  · cases e
theorem length_rep {α : Type} (k : Nat) (xs : List α) : (List.replicate k xs).flatten.length = xs.length * k := by
  induction k with
  | zero => simp
  | succ k ih => rw [List.replicate_succ, List.flatten_cons, List.length_append, ih, Nat.mul_succ, Nat.add_comm]
theorem op_dMul : OpR X (binaryOp .Mult) (rB X.kw dMul) := by
  refine opr_imp (op_mul.or (op_rep.or (op_repT.or op_oneT))) ?_
  rintro x y H Q ⟨ω, a, b, d, tr, ra, rb, e, q⟩
  unfold dMul at e
  split at e
  · split at e
    · rename_i hc
      cases e
      cases ra; cases rb
      exact .inl ⟨_, _, rfl, rfl, hc, q H _ same_refl rfl⟩
    · cases e
  · split at e
    · rename_i hc
      obtain ⟨h0, h1, h2⟩ := hc
      cases e
      obtain ⟨_, a1, vs, rfl, s1, w1, r1⟩ := ra
      cases rb
      have l1 := r1.length
      refine .inr (.inl ⟨a1, _, vs, rfl, rfl, s1, by omega, h1, by rw [l1]; exact h2, fun p hp => ?_⟩)
      exact q _ _ (same_new hp _) (rep_new_lst tr hp (r1.rep _) (by rw [length_rep]; exact h2))
    · cases e
  · split at e
    · rename_i hc
      cases hc
      cases e
      have ra' := ra
      obtain ⟨_, a1, vs, rfl, s1, r1⟩ := ra
      cases rb
      exact .inr (.inr (.inr ⟨a1, vs, rfl, rfl, s1, q H _ same_refl ra'⟩))
    split at e
    · rename_i hc
      obtain ⟨h0, h1, h2, h3⟩ := hc
      cases e
      obtain ⟨_, a1, vs, rfl, s1, r1⟩ := ra
      cases rb
      have l1 := r1.length
      refine .inr (.inr (.inl ⟨a1, _, vs, rfl, rfl, s1, fun e => h0 ?_, h1, h2, by rw [l1]; exact h3, fun p hp => ?_⟩))
      · rw [e] at l1
        exact List.eq_nil_of_length_eq_zero l1.symm
      · refine q _ _ (same_new hp _) (rep_new_tup hp (r1.rep _) ?_)
        rw [length_rep, sizeLine_eq]
        rename_i ds k _ _
        have : ds.length * k.toNat ≤ 1000 * 1000 := Nat.mul_le_mul h3 (by omega)
        omega
    · cases e
  · cases e
theorem op_dDiv : OpR X (binaryOp .FloorDiv) (rB X.kw dDiv) := by
  refine opr_imp op_fdiv ?_
  rintro x y H Q ⟨ω, a, b, d, tr, ra, rb, e, q⟩
  unfold dDiv at e
  split at e
  · split at e
    · rename_i hc
      cases e
      cases ra; cases rb
      exact ⟨_, _, rfl, rfl, hc, q H _ same_refl rfl⟩
    · cases e
  · cases e
theorem op_dMod : OpR X (binaryOp .Mod) (rB X.kw dMod) := by
  refine opr_imp op_mod ?_
  rintro x y H Q ⟨ω, a, b, d, tr, ra, rb, e, q⟩
  unfold dMod at e
  split at e
  · split at e
    · rename_i hc
      cases e
      cases ra; cases rb
      exact ⟨_, _, rfl, rfl, hc, q H _ same_refl rfl⟩
    · cases e
  · cases e
theorem op_dEq (hu : X.A.units + 64 < cLine) : OpR X (compareOp .Eq) (rB X.kw dEq) := by
  refine opr_imp (op_eqD hu) ?_
  rintro x y H Q ⟨ω, a, b, d, tr, ra, rb, e, q⟩
  unfold dEq at e
  split at e
  · rename_i hc
    cases e
    rw [Bool.and_eq_true] at hc
    exact ⟨_, _, Rep.dp a x (.inl hc.1) ra, Rep.dp b y (.inl hc.2) rb, hc.1, hc.2, q H _ same_refl rfl⟩
  · cases e
theorem op_dNe (hu : X.A.units + 64 < cLine) : OpR X (compareOp .NotEq) (rB X.kw dNe) := by
  refine opr_imp (op_neD hu) ?_
  rintro x y H Q ⟨ω, a, b, d, tr, ra, rb, e, q⟩
  unfold dNe at e
  split at e
  · rename_i hc
    cases e
    rw [Bool.and_eq_true] at hc
    exact ⟨_, _, Rep.dp a x (.inl hc.1) ra, Rep.dp b y (.inl hc.2) rb, hc.1, hc.2, q H _ same_refl rfl⟩
  · cases e
theorem op_dLt : OpR X (compareOp .Lt) (rB X.kw dLt) := by
  refine opr_imp op_lt ?_
  rintro x y H Q ⟨ω, a, b, d, tr, ra, rb, e, q⟩
  unfold dLt at e
  split at e
  · cases e
    cases ra; cases rb
    exact ⟨_, _, rfl, rfl, q H _ same_refl rfl⟩
  · cases e
theorem op_dLe : OpR X (compareOp .LtE) (rB X.kw dLe) := by
  refine opr_imp (op_le.or op_le_str) ?_
  rintro x y H Q ⟨ω, a, b, d, tr, ra, rb, e, q⟩
  unfold dLe at e
  split at e
  · cases e
    cases ra; cases rb
    exact .inl ⟨_, _, rfl, rfl, q H _ same_refl rfl⟩
  · cases e
    obtain ⟨rfl, _⟩ := ra
    obtain ⟨rfl, _⟩ := rb
    exact .inr ⟨_, _, rfl, rfl, q H _ same_refl rfl⟩
  · cases e
theorem op_dGt : OpR X (compareOp .Gt) (rB X.kw dGt) := by
  refine opr_imp op_gt ?_
  rintro x y H Q ⟨ω, a, b, d, tr, ra, rb, e, q⟩
  unfold dGt at e
  split at e
  · cases e
    cases ra; cases rb
    exact ⟨_, _, rfl, rfl, q H _ same_refl rfl⟩
  · cases e
theorem op_dGe : OpR X (compareOp .GtE) (rB X.kw dGe) := by
  refine opr_imp op_ge ?_
  rintro x y H Q ⟨ω, a, b, d, tr, ra, rb, e, q⟩
  unfold dGe at e
  split at e
  · cases e
    cases ra; cases rb
    exact ⟨_, _, rfl, rfl, q H _ same_refl rfl⟩
  · cases e
/-- x in t, t a tuple of data -/
def rInT (K : KW) (neg : Bool) : R2 := fun x y H Q => ∃ d ds, Dp K H x d ∧ Dp K H y (.tuple ds) ∧ SeqAt.shaped d = true ∧ PyData.canLayAll0 ds = true ∧ Q (.bl (if neg then !(ds.any fun z => PyData.eqv z d) else ds.any fun z => PyData.eqv z d)) H
theorem op_inT (hu : X.A.units + 65 < cLine) : OpR X (compareOp .In) (rInT X.kw false) := by
  intro pins s σ H x y v u Q I rx ry h
  obtain ⟨d, ds, hd, he, sd, se, q⟩ := h
  obtain ⟨as, r1⟩ := Dp.reads I d x v hd rx
  obtain ⟨bs, r2⟩ := Dp.reads I (.tuple ds) y u he ry
  exact SeqAt.in_tuple_reads r2 r1 se (SeqAt.canLay_of_shaped sd) (PyProof.Rows.room_in_shaped sd hu) ⟨.bl _, H, I, rfl, q⟩
theorem op_notInT (hu : X.A.units + 65 < cLine) : OpR X (compareOp .NotIn) (rInT X.kw true) := by
  intro pins s σ H x y v u Q I rx ry h
  obtain ⟨d, ds, hd, he, sd, se, q⟩ := h
  obtain ⟨as, r1⟩ := Dp.reads I d x v hd rx
  obtain ⟨bs, r2⟩ := Dp.reads I (.tuple ds) y u he ry
  exact SeqAt.notIn_tuple_reads r2 r1 se (SeqAt.canLay_of_shaped sd) (PyProof.Rows.room_in_shaped sd hu) ⟨.bl _, H, I, rfl, q⟩
theorem any_pys (x : PyData) : ∀ ds : List D, (pys ds).any (fun z => PyData.eqv z x) = ds.any fun y => PyData.eqv y.py x
  | [] => rfl
  | d :: ds => by
    show (PyData.eqv d.py x || (pys ds).any _) = _
    rw [any_pys x ds]
    rfl
theorem canLayAll_of {ds : List D} (h : (D.lst ds).shp = true) : PyData.canLayAll0 (pys ds) = true := by
  have q := SeqAt.canLay_of_shaped h
  simpa [D.py, PyData.canLay0] using q
theorem canLayAll_ofT {ds : List D} (h : (D.tup ds).shp = true) : PyData.canLayAll0 (pys ds) = true := by
  have q := SeqAt.canLay_of_shaped h
  simpa [D.py, PyData.canLay0] using q
theorem one_sign {s : Str} {c : Nat} (h : s.cps.toList = [c]) : s = ⟨#[c]⟩ := by
  obtain ⟨a⟩ := s
  have : a = #[c] := by
    apply Array.ext'
    exact h
  rw [this]
theorem op_dIn (hu : X.A.units + 65 < cLine) : OpR X (compareOp .In) (rB X.kw dIn) := by
  refine opr_imp (op_in_sign.or ((op_inD hu).or (op_inT hu))) ?_
  rintro x y H Q ⟨ω, a, b, d, tr, ra, rb, e, q⟩
  unfold dIn at e
  cases e1 : inD a b with
  | none => rw [e1] at e; cases e
  | some k =>
    rw [e1] at e
    cases e
    unfold inD at e1
    split at e1
    · split at e1
      · split at e1
        · rename_i hs
          cases e1
          obtain ⟨rfl, _⟩ := ra
          obtain ⟨rfl, _⟩ := rb
          exact .inl ⟨_, _, by rw [one_sign hs], rfl, q H _ same_refl rfl⟩
        · cases e1
      · cases e1
    · split at e1
      · rename_i hc
        cases e1
        rw [Bool.and_eq_true] at hc
        refine .inr (.inl ⟨_, _, Rep.dp a x (.inl hc.1) ra, Rep.dp _ y (.inl hc.2) rb, hc.1, hc.2, ?_⟩)
        rw [any_pys]
        exact q H _ same_refl rfl
      · cases e1
    · split at e1
      · rename_i hc
        cases e1
        rw [Bool.and_eq_true] at hc
        refine .inr (.inr ⟨_, _, Rep.dp a x (.inl hc.1) ra, Rep.dp _ y (.inl hc.2) rb, hc.1, canLayAll_ofT hc.2, ?_⟩)
        show Q (.bl (List.any _ _)) H
        rw [any_pys]
        exact q H _ same_refl rfl
      · cases e1
    · exact rb.elim
    · exact rb.elim
    · cases e1
theorem op_dNotIn (hu : X.A.units + 65 < cLine) : OpR X (compareOp .NotIn) (rB X.kw dNotIn) := by
  refine opr_imp (op_notIn_sign.or ((op_notInD hu).or (op_notInT hu))) ?_
  rintro x y H Q ⟨ω, a, b, d, tr, ra, rb, e, q⟩
  unfold dNotIn at e
  cases e1 : inD a b with
  | none => rw [e1] at e; cases e
  | some k =>
    rw [e1] at e
    cases e
    unfold inD at e1
    split at e1
    · split at e1
      · split at e1
        · rename_i hs
          cases e1
          obtain ⟨rfl, _⟩ := ra
          obtain ⟨rfl, _⟩ := rb
          exact .inl ⟨_, _, by rw [one_sign hs], rfl, q H _ same_refl rfl⟩
        · cases e1
      · cases e1
    · split at e1
      · rename_i hc
        cases e1
        rw [Bool.and_eq_true] at hc
        refine .inr (.inl ⟨_, _, Rep.dp a x (.inl hc.1) ra, Rep.dp _ y (.inl hc.2) rb, hc.1, hc.2, ?_⟩)
        rw [any_pys]
        exact q H _ same_refl rfl
      · cases e1
    · split at e1
      · rename_i hc
        cases e1
        rw [Bool.and_eq_true] at hc
        refine .inr (.inr ⟨_, _, Rep.dp a x (.inl hc.1) ra, Rep.dp _ y (.inl hc.2) rb, hc.1, canLayAll_ofT hc.2, ?_⟩)
        show Q (.bl (!List.any _ _)) H
        rw [any_pys]
        exact q H _ same_refl rfl
      · cases e1
    · exact rb.elim
    · exact rb.elim
    · cases e1
theorem op_dIsB : OpR X (compareOp .Is) (rB X.kw (o2 .isB)) := by
  refine opr_imp L2.op_is_bl ?_
  rintro x y H Q ⟨ω, a, b, d, tr, ra, rb, e, q⟩
  unfold o2 at e
  split at e <;> try cases e
  all_goals try contradiction
  all_goals
    cases ra; cases rb
    exact ⟨_, _, rfl, rfl, q H _ same_refl rfl⟩
theorem op_dIsNotB : OpR X (compareOp .IsNot) (rB X.kw (o2 .isNotB)) := by
  refine opr_imp L2.op_isnot_bl ?_
  rintro x y H Q ⟨ω, a, b, d, tr, ra, rb, e, q⟩
  unfold o2 at e
  split at e <;> try cases e
  all_goals try contradiction
  all_goals
    cases ra; cases rb
    exact ⟨_, _, rfl, rfl, q H _ same_refl rfl⟩
theorem ixr_imp {r r' : R2} (h : IxR X r) (i : ∀ x y H Q, r' x y H Q → r x y H Q) : IxR X r' := fun value slice pins s σ H x y v u Q I rx ry q hs => h value slice pins s σ H x y v u Q I rx ry (i x y H Q q) hs
theorem atI_rep {ω : Wd} {H : Hp} {ds : List D} {vs : List V} {i : Int} {d : D} (r : Reps K ω H ds vs) (e : atI ds i = some d) : ∃ v, atI vs i = some v ∧ Rep K ω H d v := by
  unfold atI at e ⊢
  rw [r.length]
  cases q : ixN ds.length i with
  | none => rw [q] at e; cases e
  | some j =>
    rw [q] at e
    exact r.get e
theorem valV_repk {K : KW} {ω : Wd} {H : Hp} {k : Str} : ∀ {kvs : List (Str × D)} {kws : List (Key × V)}, Repk K ω H kvs kws → match kvs.lookup k with
    | none => valV kws (.inr k) = none
    | some d => ∃ v, valV kws (.inr k) = some v ∧ Rep K ω H d v
  | [], kws, r => by
    cases r
    exact valV_nil
  | (k', d) :: kvs, kws, r => by
    obtain ⟨v, r', rfl, h1, h2⟩ := r
    rw [List.lookup_cons]
    by_cases e : k = k'
    · subst e
      rw [beq_self_eq_true]
      exact ⟨v, valV_pos rfl, h1⟩
    · rw [show (k == k') = false from by simpa using e]
      have e2 : valV ((Sum.inr k', v) :: r') (Sum.inr k) = valV r' (.inr k) := valV_neg (p := ((Sum.inr k' : Key), v)) (fun z => e (Sum.inr.inj z).symm)
      rw [e2]
      exact valV_repk h2
theorem ix_dk (hu : X.A.units + 1 < cLine) : IxR X (fun x y H Q => ∃ a v, x = .ref a ∧ DGet H a y (some v) ∧ Q v H) := by
  intro value slice pins s σ H x y v u Q I rx ry q hs
  obtain ⟨p, r, rfl, g, q⟩ := q
  obtain rfl : v = Value.ref p := rx
  exact PyProof.Rows.tail_any (dict_typeIs I g) PySem.F.slot_dict_getitem.lookup (d_getItem hu I g ry fun w' s' I' r' => ⟨r, H, I', r', q⟩) hs
theorem op_dIx (hu : X.A.units + 65 < cLine) : IxR X (rB X.kw dIx) := by
  refine ixr_imp (ix_seq.or (ix_dk (by omega))) ?_
  rintro x y H Q ⟨ω, a, b, d, tr, ra, rb, e, q⟩
  unfold dIx at e
  split at e
  · obtain ⟨_, a1, vs, rfl, s1, r1⟩ := ra
    cases rb
    obtain ⟨v, e1, rv⟩ := atI_rep r1 e
    exact .inl (.inr (.inl ⟨a1, vs, _, v, rfl, rfl, s1, e1, q H v same_refl rv⟩))
  · obtain ⟨_, a1, vs, rfl, s1, w1, r1⟩ := ra
    cases rb
    obtain ⟨v, e1, rv⟩ := atI_rep r1 e
    exact .inl (.inl ⟨a1, vs, _, v, rfl, rfl, SqL.of s1, e1, q H v same_refl rv⟩)
  · obtain ⟨_, a1, vs, rfl, s1, r1⟩ := ra
    cases rb
    obtain ⟨v, e1, rv⟩ := atI_rep r1 e
    refine .inl (.inl ⟨a1, vs, _, v, rfl, rfl, ?_, e1, q H v same_refl rv⟩)
    rcases s1 with ⟨s1, _⟩ | ⟨o, s1⟩ | s1
    · exact .inl (.inl s1)
    · exact .inl (.inr ⟨o, s1⟩)
    · exact .inr s1
  · obtain ⟨rfl, l1⟩ := ra
    cases rb
    rename_i z i
    cases e1 : atI z.cps.toList i with
    | none => rw [e1] at e; cases e
    | some c =>
      rw [e1] at e
      cases e
      refine .inl (.inr (.inr ⟨_, _, c, rfl, rfl, l1, e1, q H _ same_refl ⟨rfl, ?_⟩⟩))
      show 1 ≤ sizeLine
      rw [sizeLine_eq]
      decide
  · obtain ⟨ln, ad, kws, rfl, ha, wa, rk⟩ := ra
    obtain ⟨rfl, l1⟩ := rb
    rename_i kvs key
    have vv := valV_repk (k := key) rk
    rw [e] at vv
    obtain ⟨v', e1, rv⟩ := vv
    exact .inr ⟨ad, v', rfl, by rw [← e1]; exact DGet.k (k := .inr key) ha, q H v' same_refl rv⟩
  · cases e
end
end TL

namespace TL
open PySem L2 PyProof.Rows
section
variable {X : Cx}
theorem call_int_txt : CallR X (.type "int") (fun xs H Q => ∃ a n, xs = [.str a] ∧ PySem.intText? a = some n ∧ a.length ≤ 640 ∧ Q (.int n) H) := by
  intro pins s σ H xs us Q I rs h
  obtain ⟨a, n, rfl, hn, hl, h⟩ := h
  cases rs with
  | cons r1 rs =>
    cases rs
    obtain ⟨t, rfl⟩ := r1
    exact PySem.W.KIN.call_text hn hl ⟨.int n, H, I.tok _, ⟨_, rfl⟩, h⟩
theorem call_str_txt : CallR X (.type "str") (fun xs H Q => ∃ a, xs = [.str a] ∧ Q (.str a) H) := by
  intro pins s σ H xs us Q I r h
  obtain ⟨a, rfl, q⟩ := h
  cases r with
  | cons r1 rs =>
    cases rs
    obtain ⟨t, rfl⟩ := r1
    exact PySem.P.str_of_str ⟨.str a, H, I, ⟨t, rfl⟩, q⟩
theorem intText_fig : ∀ k : Fin 10, PySem.intText? ⟨#[48 + k.val]⟩ = some (k.val : Int) := by decide +kernel
end
end TL

namespace TStr
open PySem PySem.Spec PyProof.Rows PySem.Froz L2

/-- at a stands a set of the texts l, of which a walk is known -/
def Held (P : Program) (w : World) (h : Heap) (a : Addr) (l : List Str) : Prop :=
  l.Nodup ∧ l.length < scanBound ∧ ∃ D : SD, h.get? a = some (sObj "set" D) ∧ TxOk P w D l ∧ Ris D.2.2.place.toList ∧ (w.params.followText "set-order" = true ∨ D.2.2.led = true)
section
variable {P : Program} {w : World} {A : Around} {E : Value → Shared → Prop} {s : Shared} {h h' : Heap} {a : Addr} {l : List Str}
theorem Held.keep (x : Held P w h a l) (k : ∀ o, h.get? a = some o → h'.get? a = some o) : Held P w h' a l :=
  let ⟨n, b, D, e, r⟩ := x; ⟨n, b, D, k _ e, r⟩
theorem Held.lt (x : Held P w h a l) : a < h.objs.size := let ⟨_, _, _, e, _⟩ := x; Heap.lt_size e
theorem held_new (e : h.get? a = some { cls := .type "set", dict := none, data := .set #[] 0 (.fresh 0 0 (!w.params.followText "set-order")) }) : Held P w h a [] :=
  ⟨List.nodup_nil, by decide, (#[], 0, .fresh 0 0 (!w.params.followText "set-order")), e, .nil rfl, List.Pairwise.nil, by
    show _ ∨ (!w.params.followText "set-order") = true
    cases w.params.followText "set-order"
    · exact .inr rfl
    · exact .inl rfl⟩
theorem tail_ris {ep : Nat} {es : Array (Int × Value)} {t : SetTable} {b : Bool} (r : Ris t.place.toList) : Ris (tailTx ep es t b).2.2.place.toList ∧ (tailTx ep es t b).2.2.led = t.led := by
  unfold tailTx
  split
  · exact ⟨relayAll_ris _ _ _, relayAll_led _ _ _⟩
  · exact ⟨r, rfl⟩
theorem add_ris {D : SD} {hh : Int} {v : Value} (r : Ris D.2.2.place.toList) : Ris (addTx hh v D).2.2.place.toList ∧ (addTx hh v D).2.2.led = D.2.2.led := by
  have r1 := layNew_ris D.2.2 D.1 hh v r
  have l1 := layNew_led D.2.2 D.1 hh v
  unfold addTx
  split
  · have z := tail_ris (ep := D.2.1) (es := (layNew D.2.2 D.1 hh v).1) (t := { (layNew D.2.2 D.1 hh v).2.1 with plain := false }) (b := (layNew D.2.2 D.1 hh v).2.2.1) r1
    exact ⟨z.1, z.2.trans l1⟩
  · have z := tail_ris (ep := D.2.1) (es := (layNew D.2.2 D.1 hh v).1) (t := (layNew D.2.2 D.1 hh v).2.1) (b := (layNew D.2.2 D.1 hh v).2.2.1) r1
    exact ⟨z.1, z.2.trans l1⟩
theorem only_a {f : Obj → Obj} : Heap.SameBut a h (h.update a f) := Heap.SameBut.update h a f
/-- a text that is in the set already -/
theorem add_old {D : SD} {k : Str} {u : Tok} {Q : Bool → Shared → Prop} (ho : s.heap.get? a = some (sObj "set" D)) (F : TxOk P w D l) (hb : l.length < scanBound) (hk : k ∈ l) (q : Q false s) :
    wpAny (model P w) A (setAddHashed a (.str k u) (hashStr w k)) Q E s := by
  have hd : (sObj "set" D).data = .set D.1 D.2.1 D.2.2 := rfl
  have hf : D.2.2.fits D.1.size = true := F.fit
  have hb0 : D.1.size < scanBound := by rw [F.sz]; exact hb
  obtain ⟨e, he, hi⟩ := (F.mem k).mp hk
  unfold setAddHashed setAddHashedIn
  refine wpAny_holding (wpAny_bind (wpAny_setState_of ho hd hf ?_))
  dsimp only
  rw [byScan_of rfl hb0 F.el]
  simp only [↓reduceIte]
  unfold setAddByScan
  refine wpAny_bind (wpAny_bind (wpAny_rule (wpAny_bind (wpAny_setScan_of (knd := strKind P w) (k := k) (is_str k u) ho hd hf F.el ?_))))
  cases hfi : List.findIdx? (fun e => (strKind P w).is k e.2) D.1.toList with
  | none =>
    have z := List.findIdx?_eq_none_iff.mp hfi e he
    rw [hi] at z
    cases z
  | some j => exact wpAny_pure (wpAny_pure q)
theorem add_held {k : Str} {u : Tok} {Q : Bool → Shared → Prop} (x : Held P w s.heap a l) (hb : l.length + 1 < scanBound)
    (q : ∀ h' b, Heap.SameBut a s.heap h' → Held P w h' a (if k ∈ l then l else k :: l) → Q b { s with heap := h' }) : wpAny (model P w) A (setAddHashed a (.str k u) (hashStr w k)) Q E s := by
  obtain ⟨n, b, D, e, F, r, t⟩ := x
  by_cases hk : k ∈ l
  · rw [if_pos hk] at q
    exact add_old e F b hk (q s.heap false (Heap.SameBut.refl a s.heap) ⟨n, b, D, e, F, r, t⟩)
  · rw [if_neg hk] at q
    have z := add_ris (D := D) (hh := hashStr w k) (v := .str k u) r
    refine add_x e F hk hb (q _ true only_a ⟨List.nodup_cons.mpr ⟨hk, n⟩, hb, _, get_upd _ e rfl, add_ok u F, z.1, t.imp id fun y => z.2.trans y⟩)
/-- all of a walk's texts into the set -/
theorem update_loop {I : Addr} {fp wr : List Addr} {G : Array GenState → Array GenState → Prop} {n : Nat} {Pv : Nat → Value → Prop} {St : Nat → Shared → Prop} {R : Result → Shared → Prop} {xs : List Str}
    (W : WalksS P w A.in1 I fp wr G n Pv St) (hSf : a ∉ fp) (hn : n = xs.length) (hb : xs.length + 1 < scanBound) (hval : ∀ i v, Pv i v → ∃ k t, xs[i]? = some k ∧ v = .str k t) :
    ∀ (m i : Nat) (s : Shared) (l : List Str), n - i = m → i ≤ n → St i s → Held P w s.heap a l → l.length ≤ i → (∀ k, k ∈ l ↔ k ∈ xs.take i) →
      (∀ s' l', Moved (a :: wr) G s s' → Held P w s'.heap a l' → l'.length ≤ n → (∀ k, k ∈ l' ↔ k ∈ xs) → R (.ok (.ret .none)) s') →
      codeAny (model P w) A (.builtin "set.update.loop" ⟨[.ref a, .ref I], []⟩) R s := by
  have hw : a ∉ wr := fun h => hSf (W.sub _ h)
  intro m
  induction m with
  | zero =>
    intro i s l hm hi hst hS hl hmem hR
    have hin : i = n := by omega
    refine codeAny_builtin PyProof.Rows.F.entry_set_update_loop ?_
    rw [Around.under_plainId PyProof.Rows.F.plain_set_update_loop _]
    show wpAny _ A.in1 (pyNext (.ref I) >>= _) _ _ s
    rw [hin] at hst
    refine wpAny_bind (W.done s _ _ hst fun s' mv => ?_)
    show wpAny _ A.in1 (ret Value.none) _ _ s'
    refine wpAny_pure (hR s' l (mv.mono fun b z => List.mem_cons_of_mem _ z) (hS.keep fun o e => mv.heap a o hw e) (by omega) fun k => ?_)
    rw [hmem k, hin, hn, List.take_length]
  | succ m ih =>
    intro i s l hm hi hst hS hl hmem hR
    have hlt : i < n := by omega
    refine codeAny_builtin PyProof.Rows.F.entry_set_update_loop ?_
    rw [Around.under_plainId PyProof.Rows.F.plain_set_update_loop _]
    show wpAny _ A.in1 (pyNext (.ref I) >>= _) _ _ s
    refine wpAny_bind (W.item i s _ _ hlt hst fun v s' hP hst' mv => ?_)
    obtain ⟨z, t, hz, rfl⟩ := hval i v hP
    show wpAny _ A.in1 (holding [Value.str z t] (setAdd a (.str z t)) >>= _) _ _ s'
    refine wpAny_bind (wpAny_holding ?_)
    unfold setAdd
    refine wpAny_holding (wpAny_bind ((strKind P w).pyHash (k := z) (is_str _ _) ?_))
    refine add_held (s := { s' with toks := s'.toks + 1 }) (hS.keep fun o e => mv.heap a o hw e) (by omega) fun h2 b hsb hS2 => ?_
    refine wpAny_pure ⟨plainId_quiet PyProof.Rows.F.plain_set_update_loop _, ih (i + 1) _ _ (by omega) hlt (W.frame _ s' _ _ hst' (Nat.le_succ _) fun c hc o e => ?_) hS2 ?_ (fun k => ?_) fun s3 l3 mv3 hS3 hl3 hm3 => ?_⟩
    · rw [hsb.2 c (fun y : c = a => hSf (y ▸ hc))]; exact e
    · split
      · omega
      · rw [List.length_cons]; omega
    · rw [List.take_add_one, hz]
      split
      · rename_i hin
        constructor
        · intro y; exact List.mem_append_left _ ((hmem k).mp y)
        · intro y
          rcases List.mem_append.mp y with y | y
          · exact (hmem k).mpr y
          · have : k = z := by simpa using y
            rw [this]; exact hin
      · rw [List.mem_cons, hmem k, List.mem_append]
        constructor
        · rintro (y | y)
          · right; simp [y]
          · left; exact y
        · rintro (y | y)
          · right; exact y
          · left; simpa using y
    · refine hR s3 l3 (Moved.trans W.gtrans ((mv.mono fun c y => List.mem_cons_of_mem _ y).then_heap (Nat.le_succ _) fun c o hc e => ?_) mv3) hS3 hl3 hm3
      rw [hsb.2 c (fun y : c = a => hc (by rw [y]; exact List.mem_cons_self))]; exact e

set_option maxHeartbeats 3200000 in
theorem set_list {c : Addr} {items : Array Value} {xs : List Str} {Q : Value → Shared → Prop} (hh : A.handled = none) (hc : s.heap.IsList c items) (hi : StrsAre items.toList xs) (hb : xs.length + 1 < scanBound)
    (q : ∀ (h' : Heap) (tk : Nat) (l : List Str), Held P w h' s.heap.objs.size l → l.length ≤ xs.length → (∀ k, k ∈ l ↔ k ∈ xs) → (∀ b o, s.heap.get? b = some o → h'.get? b = some o) → Q (.ref s.heap.objs.size) { s with heap := h', toks := tk }) :
    wpAny (model P w) A (call (.type "set") [.ref c]) Q E s := by
  have hsz : items.size = xs.length := by rw [← StrsAre.len_eq hi, Array.length_toList]
  obtain ⟨mc, tl, hmro⟩ := PySem.F.called_set.mro
  have hmade := PySem.F.called_set.made
  have hsub := PySem.F.called_set.sub
  refine wpAny_call (codeAny_of_tree ?_)
  show wpAny _ _ (callAny (.type "set") _) _ _ _
  refine wpAny_pure ⟨Code.quiet_builtin _ (by decide +kernel), codeAny_builtin PySem.F.entry_type_call ?_⟩
  rw [Around.under_plain (weight_type_call_type "set" [.ref c] []) rfl]
  have h1 := PySem.F.called_set.notType
  have h2 := PySem.F.called_set.canCreate
  have hct := PySem.F.typeCall_set_1 (.ref c)
  repeat (any_goals (first | assumption | wp_step))
  refine codeAny_mono (code_set_led1 (.ref c) (E := E) (Q₁ := fun v s1 => v = .ref s.heap.objs.size ∧ s1 = { s with heap := s.heap.push { cls := .type "set", dict := none, data := .set #[] 0 (.fresh 0 0 (!w.params.followText "set-order")) } }) ⟨rfl, rfl⟩) fun r s1 hr => ?_
  cases r with
  | error e => exact hr
  | ok fl =>
    cases fl with
    | ret v =>
      obtain ⟨rfl, rfl⟩ := hr
      have hS : (s.heap.push { cls := .type "set", dict := none, data := .set #[] 0 (.fresh 0 0 (!w.params.followText "set-order")) }).get? s.heap.objs.size = some { cls := .type "set", dict := none, data := .set #[] 0 (.fresh 0 0 (!w.params.followText "set-order")) } := Heap.get?_push_size _ rfl
      have hT : Shared.TypeIs { s with heap := s.heap.push { cls := .type "set", dict := none, data := .set #[] 0 (.fresh 0 0 (!w.params.followText "set-order")) } } (.ref s.heap.objs.size) "set" := ⟨_, hS, rfl⟩
      have hli := PySem.F.called_set.init.lookup
      have hbi := PySem.F.called_set.init.bind (.ref s.heap.objs.size)
      repeat (any_goals (first | assumption | wp_step))
      refine codeAny_mono (codeAny_call_builtin (R := wants (fun r s2 => r = .none ∧ ∃ h' tk l, s2 = { s with heap := h', toks := tk } ∧ Held P w h' s.heap.objs.size l ∧ l.length ≤ xs.length ∧ (∀ k, k ∈ l ↔ k ∈ xs) ∧
          (∀ b o, s.heap.get? b = some o → h'.get? b = some o)) E) PySem.F.called_set.init.plain PySem.F.entry_set_init (check_set_init_1 hT ?_)) fun r2 s2 hr2 => ?_
      · obtain ⟨ol, hol, hcl, nl, hdl⟩ := hc
        obtain ⟨ocls, odict, odata, oslots⟩ := ol
        simp only at hcl hdl
        subst hcl; subst hdl
        generalize hH : s.heap.push { cls := .type "set", dict := none, data := .set #[] 0 (.fresh 0 0 (!w.params.followText "set-order")) } = H at hS hT
        have hzH : H.objs.size = s.heap.objs.size + 1 := by rw [← hH]; exact Heap.size_push ..
        have up : ∀ b o, s.heap.get? b = some o → H.get? b = some o := fun b o e => by rw [← hH]; exact Heap.get?_push_of_some _ e
        have hol' := up _ _ hol
        have hsls := PySem.F.sub_list_set
        have hslf := PySem.F.sub_list_frozenset
        have hne : (Value.type "list" == Value.type "dict") = false := by decide
        have hl1 : H.IsList c items := ⟨_, hol', rfl, nl, rfl⟩
        unfold Builtin.«set.__init__» noKeywords Builtin.Frozenset.updateFrom
        generalize hPI : pyIter = PI
        wp_walk
        subst hPI
        refine wpAny_pyIter_list hl1 ?_
        refine wpAny_bind (wpAny_runValue ?_)
        have hlS : c < s.heap.objs.size := Heap.lt_size hol
        have hh3 : A.in1.in1.in1.handled = none := by simp [hh]
        have hSf : s.heap.objs.size ∉ [H.objs.size, c] := by
          rw [hzH]; simp only [List.mem_cons, List.mem_singleton, List.not_mem_nil, or_false, not_or]
          exact ⟨Nat.ne_of_lt (Nat.lt_succ_self _), Nat.ne_of_gt hlS⟩
        have hval : ∀ (i : Nat) (v : Value), items[i]? = some v → ∃ k t, xs[i]? = some k ∧ v = .str k t := fun i v hv => by
          have hlt : i < xs.length := by rw [← hsz]; exact (Array.getElem?_eq_some_iff.mp hv).1
          obtain ⟨t, e⟩ := SS.strs_at hi i v (by rw [Array.getElem?_toList]; exact hv)
          refine ⟨xs[i], t, List.getElem?_eq_getElem hlt, ?_⟩
          rw [e, List.getD_eq_getElem?_getD, List.getElem?_eq_getElem hlt]
          rfl
        refine update_loop ((Walks.list hh3 _ c (by rw [hzH]; exact Nat.ne_of_lt (Nat.lt_succ_of_lt hlS)) items).toS) hSf hsz hb hval (items.size - 0) 0 _ [] (by omega) (Nat.zero_le _)
          ⟨⟨_, Heap.get?_push_size _ rfl, rfl, rfl⟩, (hl1.push _)⟩ (held_new (Heap.get?_push_of_some _ hS)) (Nat.le_refl 0) (by simp) ?_
        intro s3 l3 mv hS3 hl3 hm3
        obtain ⟨h3, g3, d3, tk3, os3⟩ := s3
        have eg : g3 = s.gens := mv.gens
        have ed : d3 = s.drawn := mv.drawn
        have eo : os3 = s.os := mv.os
        subst eg; subst ed; subst eo
        show wpAny _ _ _ _ _ _
        refine wpAny_pure ?_
        show wpAny _ _ (ret Value.none) _ _ _
        refine wpAny_pure ⟨rfl, h3, tk3, l3, rfl, hS3, by omega, hm3, fun b o e => ?_⟩
        have hb0 : b < s.heap.objs.size := Heap.lt_size e
        exact mv.heap b o (by simp only [List.mem_cons, List.mem_singleton, List.not_mem_nil, or_false, not_or]; exact ⟨Nat.ne_of_lt hb0, by rw [hzH]; exact Nat.ne_of_lt (Nat.lt_succ_of_lt hb0)⟩) (Heap.get?_push_of_some _ (up _ _ e))
      · cases r2 with
        | error e => exact hr2
        | ok fl2 =>
          cases fl2 with
          | ret r =>
            obtain ⟨rfl, h', tk, l', rfl, hS', hl', hm', hk'⟩ := hr2
            repeat (any_goals (first | assumption | wp_step))
            exact q _ _ _ hS' hl' hm' hk'
          | _ => exact hr2.elim
    | _ => exact hr.elim

set_option maxHeartbeats 3200000 in
theorem set_tuple {c : Addr} {items : Array Value} {xs : List Str} {Q : Value → Shared → Prop} (hh : A.handled = none) (hc : s.heap.IsTuple c items) (hi : StrsAre items.toList xs) (hb : xs.length + 1 < scanBound)
    (q : ∀ (h' : Heap) (tk : Nat) (l : List Str), Held P w h' s.heap.objs.size l → l.length ≤ xs.length → (∀ k, k ∈ l ↔ k ∈ xs) → (∀ b o, s.heap.get? b = some o → h'.get? b = some o) → Q (.ref s.heap.objs.size) { s with heap := h', toks := tk }) :
    wpAny (model P w) A (call (.type "set") [.ref c]) Q E s := by
  have hsz : items.size = xs.length := by rw [← StrsAre.len_eq hi, Array.length_toList]
  obtain ⟨mc, tl, hmro⟩ := PySem.F.called_set.mro
  have hmade := PySem.F.called_set.made
  have hsub := PySem.F.called_set.sub
  refine wpAny_call (codeAny_of_tree ?_)
  show wpAny _ _ (callAny (.type "set") _) _ _ _
  refine wpAny_pure ⟨Code.quiet_builtin _ (by decide +kernel), codeAny_builtin PySem.F.entry_type_call ?_⟩
  rw [Around.under_plain (weight_type_call_type "set" [.ref c] []) rfl]
  have h1 := PySem.F.called_set.notType
  have h2 := PySem.F.called_set.canCreate
  have hct := PySem.F.typeCall_set_1 (.ref c)
  repeat (any_goals (first | assumption | wp_step))
  refine codeAny_mono (code_set_led1 (.ref c) (E := E) (Q₁ := fun v s1 => v = .ref s.heap.objs.size ∧ s1 = { s with heap := s.heap.push { cls := .type "set", dict := none, data := .set #[] 0 (.fresh 0 0 (!w.params.followText "set-order")) } }) ⟨rfl, rfl⟩) fun r s1 hr => ?_
  cases r with
  | error e => exact hr
  | ok fl =>
    cases fl with
    | ret v =>
      obtain ⟨rfl, rfl⟩ := hr
      have hS : (s.heap.push { cls := .type "set", dict := none, data := .set #[] 0 (.fresh 0 0 (!w.params.followText "set-order")) }).get? s.heap.objs.size = some { cls := .type "set", dict := none, data := .set #[] 0 (.fresh 0 0 (!w.params.followText "set-order")) } := Heap.get?_push_size _ rfl
      have hT : Shared.TypeIs { s with heap := s.heap.push { cls := .type "set", dict := none, data := .set #[] 0 (.fresh 0 0 (!w.params.followText "set-order")) } } (.ref s.heap.objs.size) "set" := ⟨_, hS, rfl⟩
      have hli := PySem.F.called_set.init.lookup
      have hbi := PySem.F.called_set.init.bind (.ref s.heap.objs.size)
      repeat (any_goals (first | assumption | wp_step))
      refine codeAny_mono (codeAny_call_builtin (R := wants (fun r s2 => r = .none ∧ ∃ h' tk l, s2 = { s with heap := h', toks := tk } ∧ Held P w h' s.heap.objs.size l ∧ l.length ≤ xs.length ∧ (∀ k, k ∈ l ↔ k ∈ xs) ∧
          (∀ b o, s.heap.get? b = some o → h'.get? b = some o)) E) PySem.F.called_set.init.plain PySem.F.entry_set_init (check_set_init_1 hT ?_)) fun r2 s2 hr2 => ?_
      · obtain ⟨ol, hol, hcl, nl, hdl⟩ := hc
        obtain ⟨ocls, odict, odata, oslots⟩ := ol
        simp only at hcl hdl
        subst hcl; subst hdl
        generalize hH : s.heap.push { cls := .type "set", dict := none, data := .set #[] 0 (.fresh 0 0 (!w.params.followText "set-order")) } = H at hS hT
        have hzH : H.objs.size = s.heap.objs.size + 1 := by rw [← hH]; exact Heap.size_push ..
        have up : ∀ b o, s.heap.get? b = some o → H.get? b = some o := fun b o e => by rw [← hH]; exact Heap.get?_push_of_some _ e
        have hol' := up _ _ hol
        have hsls := PySem.F.sub_tuple_set
        have hslf := PySem.F.sub_tuple_frozenset
        have hne : (Value.type "tuple" == Value.type "dict") = false := by decide
        have hl1 : H.IsTuple c items := ⟨_, hol', rfl, nl, rfl⟩
        unfold Builtin.«set.__init__» noKeywords Builtin.Frozenset.updateFrom
        generalize hPI : pyIter = PI
        wp_walk
        subst hPI
        refine wpAny_pyIter_tuple hl1 ?_
        refine wpAny_bind (wpAny_runValue ?_)
        have hlS : c < s.heap.objs.size := Heap.lt_size hol
        have hh3 : A.in1.in1.in1.handled = none := by simp [hh]
        have hSf : s.heap.objs.size ∉ [H.objs.size, c] := by
          rw [hzH]; simp only [List.mem_cons, List.mem_singleton, List.not_mem_nil, or_false, not_or]
          exact ⟨Nat.ne_of_lt (Nat.lt_succ_self _), Nat.ne_of_gt hlS⟩
        have hval : ∀ (i : Nat) (v : Value), items[i]? = some v → ∃ k t, xs[i]? = some k ∧ v = .str k t := fun i v hv => by
          have hlt : i < xs.length := by rw [← hsz]; exact (Array.getElem?_eq_some_iff.mp hv).1
          obtain ⟨t, e⟩ := SS.strs_at hi i v (by rw [Array.getElem?_toList]; exact hv)
          refine ⟨xs[i], t, List.getElem?_eq_getElem hlt, ?_⟩
          rw [e, List.getD_eq_getElem?_getD, List.getElem?_eq_getElem hlt]
          rfl
        refine update_loop ((Walks.tuple hh3 _ c (by rw [hzH]; exact Nat.ne_of_lt (Nat.lt_succ_of_lt hlS)) items).toS) hSf hsz hb hval (items.size - 0) 0 _ [] (by omega) (Nat.zero_le _)
          ⟨⟨_, Heap.get?_push_size _ rfl, rfl, rfl⟩, (hl1.push _)⟩ (held_new (Heap.get?_push_of_some _ hS)) (Nat.le_refl 0) (by simp) ?_
        intro s3 l3 mv hS3 hl3 hm3
        obtain ⟨h3, g3, d3, tk3, os3⟩ := s3
        have eg : g3 = s.gens := mv.gens
        have ed : d3 = s.drawn := mv.drawn
        have eo : os3 = s.os := mv.os
        subst eg; subst ed; subst eo
        show wpAny _ _ _ _ _ _
        refine wpAny_pure ?_
        show wpAny _ _ (ret Value.none) _ _ _
        refine wpAny_pure ⟨rfl, h3, tk3, l3, rfl, hS3, by omega, hm3, fun b o e => ?_⟩
        have hb0 : b < s.heap.objs.size := Heap.lt_size e
        exact mv.heap b o (by simp only [List.mem_cons, List.mem_singleton, List.not_mem_nil, or_false, not_or]; exact ⟨Nat.ne_of_lt hb0, by rw [hzH]; exact Nat.ne_of_lt (Nat.lt_succ_of_lt hb0)⟩) (Heap.get?_push_of_some _ (up _ _ e))
      · cases r2 with
        | error e => exact hr2
        | ok fl2 =>
          cases fl2 with
          | ret r =>
            obtain ⟨rfl, h', tk, l', rfl, hS', hl', hm', hk'⟩ := hr2
            repeat (any_goals (first | assumption | wp_step))
            exact q _ _ _ hS' hl' hm' hk'
          | _ => exact hr2.elim
    | _ => exact hr.elim
end
end TStr

namespace TStr
open PySem PySem.Spec PyProof.Rows PySem.Froz L2
theorem le_of {x y : Str} : TL.strLe x y = true ↔ x.cps.toList ≤ y.cps.toList := by
  unfold TL.strLe
  rw [Bool.not_eq_true', decide_eq_false_iff_not]
  exact Iff.rfl
theorem le_trans' {x y z : Str} (h : TL.strLe x y = true) (k : TL.strLe y z = true) : TL.strLe x z = true := le_of.mpr (List.le_trans (le_of.mp h) (le_of.mp k))
theorem le_anti {x y : Str} (h : TL.strLe x y = true) (k : TL.strLe y x = true) : x = y := by
  have e := List.le_antisymm (le_of.mp h) (le_of.mp k)
  obtain ⟨a⟩ := x
  obtain ⟨b⟩ := y
  have : a = b := Array.ext' e
  rw [this]
theorem le_total' (x y : Str) : TL.strLe x y = true ∨ TL.strLe y x = true := (List.le_total x.cps.toList y.cps.toList).imp le_of.mpr le_of.mpr
theorem insS_perm (x : Str) : ∀ l : List Str, (TL.insS x l).Perm (x :: l)
  | [] => .refl _
  | y :: r => by
    unfold TL.insS
    split
    · exact .refl _
    · exact ((insS_perm x r).cons y).trans (.swap x y r)
theorem sortS_perm : ∀ l : List Str, (TL.sortS l).Perm l
  | [] => .refl _
  | x :: r => (insS_perm x _).trans ((sortS_perm r).cons x)
theorem insS_sorted (x : Str) : ∀ l : List Str, l.Pairwise (fun a b => TL.strLe a b = true) → (TL.insS x l).Pairwise (fun a b => TL.strLe a b = true)
  | [], _ => by simp [TL.insS]
  | y :: r, h => by
    have h' := List.pairwise_cons.mp h
    unfold TL.insS
    split
    · rename_i q
      refine List.pairwise_cons.mpr ⟨fun z hz => ?_, h⟩
      rcases List.mem_cons.mp hz with rfl | hz
      · exact q
      · exact le_trans' q (h'.1 z hz)
    · rename_i q
      have q2 : TL.strLe y x = true := (le_total' x y).resolve_left q
      refine List.pairwise_cons.mpr ⟨fun z hz => ?_, insS_sorted x r h'.2⟩
      rcases List.mem_cons.mp ((insS_perm x r).mem_iff.mp hz) with rfl | hz
      · exact q2
      · exact h'.1 z hz
theorem sortS_sorted : ∀ l : List Str, (TL.sortS l).Pairwise (fun a b => TL.strLe a b = true)
  | [] => List.Pairwise.nil
  | x :: r => insS_sorted x _ (sortS_sorted r)
theorem dedS_mem {k : Str} : ∀ l : List Str, k ∈ TL.dedS l ↔ k ∈ l
  | [] => Iff.rfl
  | x :: r => by
    unfold TL.dedS
    split
    · rename_i h
      rw [dedS_mem r, List.mem_cons]
      constructor
      · exact .inr
      · rintro (rfl | q)
        · exact h
        · exact q
    · rw [List.mem_cons, List.mem_cons, dedS_mem r]
theorem dedS_nodup : ∀ l : List Str, (TL.dedS l).Nodup
  | [] => List.nodup_nil
  | x :: r => by
    unfold TL.dedS
    split
    · exact dedS_nodup r
    · rename_i h
      exact List.nodup_cons.mpr ⟨fun q => h ((dedS_mem r).mp q), dedS_nodup r⟩
/-- a list without doubles within a list as short is that list in another order -/
theorem perm_of_sub {α : Type} [BEq α] [LawfulBEq α] : ∀ {l m : List α}, l.Nodup → (∀ x ∈ l, x ∈ m) → m.length ≤ l.length → m.Perm l
  | [], m, _, _, h => by
    have : m = [] := List.length_eq_zero_iff.mp (Nat.le_zero.mp h)
    rw [this]
  | x :: r, m, n, h, hl => by
    obtain ⟨n1, n2⟩ := List.nodup_cons.mp n
    have hx := h x List.mem_cons_self
    have p := List.perm_cons_erase hx
    have l1 := p.length_eq
    rw [List.length_cons] at l1 hl
    exact p.trans ((perm_of_sub n2 (fun y hy => (List.mem_erase_of_ne (fun (e : y = x) => n1 (e ▸ hy))).mpr (h y (List.mem_cons_of_mem _ hy))) (by omega)).cons x)
theorem perm_of_sub_le {α : Type} [BEq α] [LawfulBEq α] : ∀ {l m : List α}, l.Nodup → (∀ x ∈ l, x ∈ m) → l.length ≤ m.length
  | [], m, _, _ => Nat.zero_le _
  | x :: r, m, n, h => by
    obtain ⟨n1, n2⟩ := List.nodup_cons.mp n
    have l1 := (List.perm_cons_erase (h x List.mem_cons_self)).length_eq
    have ih := perm_of_sub_le (m := m.erase x) n2 fun y hy => (List.mem_erase_of_ne (fun (e : y = x) => n1 (e ▸ hy))).mpr (h y (List.mem_cons_of_mem _ hy))
    rw [List.length_cons] at l1 ⊢
    omega
theorem rising_pair : ∀ {l : List Str} {p : Str}, risingS p l = true → (p :: l).Pairwise (fun a b => TL.strLe a b = true)
  | [], p, _ => by simp
  | x :: r, p, h => by
    have h : (!ltCps x.cps.toList p.cps.toList && risingS x r) = true := h
    rw [Bool.and_eq_true, ltCps_eq] at h
    have ih := rising_pair h.2
    have q : TL.strLe p x = true := h.1
    refine List.pairwise_cons.mpr ⟨fun z hz => ?_, ih⟩
    rcases List.mem_cons.mp hz with rfl | hz
    · exact q
    · exact le_trans' q ((List.pairwise_cons.mp ih).1 z hz)
theorem sortedS_pair : ∀ {l : List Str}, sortedS l = true → l.Pairwise (fun a b => TL.strLe a b = true)
  | [], _ => List.Pairwise.nil
  | x :: r, h => rising_pair h
/-- what is sorted is sortS -/
theorem sorted_eq {l ys : List Str} (p : ys.Perm l) (h : sortedS ys = true) : ys = TL.sortS l :=
  List.Perm.eq_of_pairwise (fun a b _ _ => le_anti) (sortedS_pair h) (sortS_sorted l) (p.trans (sortS_perm l).symm)
theorem sortS_of_perm {l m : List Str} (p : l.Perm m) : TL.sortS l = TL.sortS m :=
  List.Perm.eq_of_pairwise (fun a b _ _ => le_anti) (sortS_sorted l) (sortS_sorted m) ((sortS_perm l).trans (p.trans (sortS_perm m).symm))
section
variable {P : Program} {w : World} {A : Around} {E : Value → Shared → Prop} {s : Shared} {h h' : Heap} {a : Addr} {l : List Str}
theorem is_str_eq {k : Str} {v : Value} (h : (strKind P w).is k v = true) : ∃ t, v = .str k t := by
  have h : Value.isStrOf k v = true := h
  cases v <;> first | (simp [Value.isStrOf] at h; done) | skip
  rename_i x t _
  have e : x = k := by simpa [Value.isStrOf] using h
  exact ⟨_, by rw [e]⟩
def txt (v : Value) : Str := match v with
  | .str k _ => k
  | _ => Str.empty
theorem strs_of : ∀ {vs : List Value}, (∀ v ∈ vs, ∃ k t, v = Value.str k t) → StrsAre vs (vs.map txt)
  | [], _ => .nil
  | v :: vs, h => by
    obtain ⟨k, t, rfl⟩ := h v List.mem_cons_self
    exact .cons k t (strs_of fun u hu => h u (List.mem_cons_of_mem _ hu))
theorem sorted_held {Q : Value → Shared → Prop} (x : Held P w s.heap a l) (hh : A.handled = none) (h64 : l.length < 64)
    (q : ∀ s' p (out : Array Value) (c : Nat), (∀ b o, s.heap.get? b = some o → s'.heap.get? b = some o) → s'.gens = s.gens → s'.os = s.os → s.heap.objs.size ≤ p →
      s'.heap.get? p = some (seqObj "list" out c) → StrsAre out.toList (TL.sortS l) → Q (.ref p) s') : wpAny (model P w) A (call (.builtin "sorted") [.ref a]) Q E s := by
  obtain ⟨n, b, D, e, F, r, t⟩ := x
  have hb : D.1.size < scanBound := by rw [F.sz]; exact b
  refine Calls.call_function_entry kind_sorted plain_sorted entry_sorted (args_sorted1 _) ?_
  unfold Builtin.«sorted»
  refine wpAny_bind (m := checkCount "sorted" 1 1 _) (wpAny_pure ?_)
  refine wpAny_bind (collect_set (A := A.in1) hh ⟨_, e, rfl, rfl⟩ F.fit hb r t fun s1 vs k1 hz g1 o1 pm => ?_)
  have hst : ∀ v ∈ vs, ∃ k u, v = Value.str k u := fun v hv => by
    obtain ⟨y, hy, rfl⟩ := List.mem_map.mp (pm.mem_iff.mp hv)
    obtain ⟨⟨k, hk, _⟩, _⟩ := F.el y hy
    obtain ⟨u, eu⟩ := is_str_eq hk
    exact ⟨k, u, eu⟩
  have hl : vs.length = l.length := by rw [pm.length_eq, List.length_map, Array.length_toList, F.sz]
  have S := strs_of hst
  have pk : (vs.map txt).Perm l := by
    refine perm_of_sub n (fun k hk => ?_) (by rw [List.length_map]; exact Nat.le_of_eq hl)
    obtain ⟨y, hy, z⟩ := (F.mem k).mp hk
    obtain ⟨u, eu⟩ := is_str_eq z
    refine List.mem_map.mpr ⟨y.2, pm.mem_iff.mpr (List.mem_map.mpr ⟨y, hy, rfl⟩), ?_⟩
    rw [eu]
    rfl
  have h2 : vs.length < 64 := by rw [hl]; exact h64
  refine wpAny_bind (wpAny_newList ?_ (by rw [sizeLine_eq]; omega))
  have hoL : (s1.heap.push (seqObj "list" vs.toArray 0)).get? s1.heap.objs.size = some (seqObj "list" vs.toArray 0) := Heap.get?_push_size _ rfl
  refine wpAny_bind (wpAny_holding (wpAny_call_entry slot_list_sort ⟨_, hoL, rfl⟩ entry_list_sort (list_sort_treeK strKind_oneLt hoL S.keysOf (fun v1 v2 rest e => keyKind_strs (by rw [← e]; exact S)) h2 fun st' hp hs => ⟨_, rfl, ?_⟩) (args_list_sort _)))
  obtain ⟨ss, q1, q2, q3⟩ := sorted_out_str S hp hs
  have e2 : ss = TL.sortS l := sorted_eq (q2.trans pk) q3
  rw [e2] at q1
  obtain ⟨c, hc⟩ := sortedHeap_at (vs := vs) (out := (arrOf st').map (·.2)) hoL
  refine wpAny_pure ⟨_, rfl, q _ s1.heap.objs.size _ c (fun b u e => ?_) g1 o1 hz hc q1⟩
  have y := k1 b u e
  have hlt := Heap.lt_size y
  show (sortedHeap (s1.heap.push (seqObj "list" vs.toArray 0)) s1.heap.objs.size vs _).get? b = some u
  rw [sortedHeap_old (Nat.ne_of_lt hlt) (by rw [size_push']; exact Nat.lt_succ_of_lt hlt)]
  exact Heap.get?_push_of_some _ y
end
def SetS (P : Program) (w : World) (a : Addr) (l : List Str) : HO := .ext fun h => Held P w h a l
section
variable {X : Cx}
theorem setS_ok {P : Program} {w : World} {H : Hp} {h : Heap} {a : Addr} {l : List Str} (x : Held P w h a l) : ObjOk P w H h a (SetS P w a l) := by
  refine ⟨x, ?_, fun h1 h2 y k => y.keep k⟩
  obtain ⟨_, _, D, e, _⟩ := x
  exact ⟨_, e⟩
/-- set(texts) -/
def rSet (X : Cx) : List V → Hp → VK → Prop := fun vs H Q => ∃ (c : Addr) (xs : List Str), vs = [.ref c] ∧ (SqL X.K H c (xs.map V.str) ∨ SqT X.K H c (xs.map V.str)) ∧ xs.length < 64 ∧
  ∀ p l, H p = none → l.Nodup → l.length ≤ xs.length → (∀ k, k ∈ l ↔ k ∈ xs) → Q (.ref p) (upd H p (SetS X.prog X.w p l))
theorem cr_setS (hc : X.calm = true) : CallR X (.type "set") (rSet X) := by
  intro pins s σ H vs us Q I r h
  obtain ⟨c, xs, rfl, hs, h64, q⟩ := h
  rw [Vals.ref1 r]
  have hb : xs.length + 1 < scanBound := by unfold scanBound; omega
  have fin : ∀ (h' : Heap) (tk : Nat) (l : List Str), Held X.prog X.w h' s.heap.objs.size l → l.length ≤ xs.length → (∀ k, k ∈ l ↔ k ∈ xs) → (∀ b o, s.heap.get? b = some o → h'.get? b = some o) →
      EP X pins σ Q (.ref s.heap.objs.size) { s with heap := h', toks := tk } := fun h' tk l a b c d =>
    ⟨.ref _, _, I.laid (a := s.heap.objs.size) (o := SetS X.prog X.w s.heap.objs.size l) d (Nat.le_refl _) (setS_ok a), rfl, q _ l (I.hok.fresh (Nat.le_refl _)) a.1 b c⟩
  rcases hs with hs | hs
  · obtain ⟨its, rv, hl, _⟩ := I.list hs
    exact set_list (I.ok.hd hc) hl.isList rv.strs hb fin
  · obtain ⟨its, rv, hl, _⟩ := I.tuple hs
    exact set_tuple (I.ok.hd hc) hl rv.strs hb fin
/-- sorted(set) -/
def rSort (X : Cx) : List V → Hp → VK → Prop := fun vs H Q => ∃ (a : Addr) (l : List Str), vs = [.ref a] ∧ H a = some (SetS X.prog X.w a l) ∧ l.length < 64 ∧ ∀ p, H p = none → Q (.ref p) (upd H p (.lst ((TL.sortS l).map V.str)))
theorem cr_sortS (hc : X.calm = true) : CallR X (.builtin "sorted") (rSort X) := by
  intro pins s σ H vs us Q I r h
  obtain ⟨a, l, rfl, ha, h64, q⟩ := h
  rw [Vals.ref1 r]
  have R : Held X.prog X.w s.heap a l := (I.hok a _ ha).1
  refine sorted_held R (I.ok.hd hc) h64 fun s' p out c k g o hp hg hi => ?_
  have hlen : ((TL.sortS l).map V.str).length ≤ sizeLine := by rw [List.length_map, (sortS_perm l).length_eq, sizeLine_eq]; omega
  have hn : H p = none := I.hok.fresh hp
  have J : Inv X pins σ (upd H p (.lst ((TL.sortS l).map V.str))) { s with heap := s'.heap, gens := s'.gens, drawn := s'.drawn, toks := s'.toks } :=
    I.call (ch := []) (Un.laid k hp hn) (I.hok.laid k hp ⟨hlen, out.toList, c, vals_of_strs hi, hg⟩) (by rw [g]; exact I.bare) (fun _ z => nomatch z)
  have e : s' = { s with heap := s'.heap, gens := s'.gens, drawn := s'.drawn, toks := s'.toks } := by
    cases s'
    cases s
    cases o
    rfl
  rw [e]
  exact ⟨.ref p, _, J, rfl, q p hn⟩
end
end TStr

namespace TL
open PySem L2
/-- a call of one value by what it gives -/
def rC (K : KW) (g : D → Option D) : List V → Hp → VK → Prop := fun xs H Q => ∃ (ω : Wd) (a d : D), (∀ a, ω.wr a ≠ none → H a ≠ none) ∧ Reps K ω H [a] xs ∧ g a = some d ∧ ∀ H' v, Same H H' → Rep K ω H' d v → Q v H'
def rC2 (K : KW) (g : D → D → Option D) : List V → Hp → VK → Prop := fun xs H Q => ∃ (ω : Wd) (a b d : D), (∀ a, ω.wr a ≠ none → H a ≠ none) ∧ Reps K ω H [a, b] xs ∧ g a b = some d ∧ ∀ H' v, Same H H' → Rep K ω H' d v → Q v H'
/-- a method of a value with one argument -/
def rM (K : KW) (g : D → D → Option D) : V → List V → Hp → VK → Prop := fun x xs H Q => ∃ (ω : Wd) (a b d : D), (∀ a, ω.wr a ≠ none → H a ≠ none) ∧ Rep K ω H a x ∧ Reps K ω H [b] xs ∧ g a b = some d ∧ ∀ H' v, Same H H' → Rep K ω H' d v → Q v H'
section
variable {X : Cx} {K : KW} {ω : Wd} {H : Hp}
theorem callr_imp {f : Value} {r r' : List V → Hp → VK → Prop} (h : CallR X f r) (i : ∀ xs H Q, r' xs H Q → r xs H Q) : CallR X f r' := fun pins s σ H xs us Q I rx q => h pins s σ H xs us Q I rx (i xs H Q q)
theorem mtr_imp {id : String} {r r' : V → List V → Hp → VK → Prop} (h : MtR X id r) (i : ∀ x xs H Q, r' x xs H Q → r x xs H Q) : MtR X id r' := fun pins s σ H x xs v us Q I rx rs q => h pins s σ H x xs v us Q I rx rs (i x xs H Q q)
theorem sq_fls {a : Addr} {vs : List V} (q : (H a = some (.lst vs) ∧ ω.wr a = none) ∨ (∃ o, H a = some (.frz o (.lst vs))) ∨ ∃ (o : Obj) (its : Array Value) (n : Nat), K.K.lookup a = some o ∧ o.cls = .type "list" ∧ o.dict = none ∧ o.data = .seq its n ∧ its.size ≤ sizeLine ∧ Vals vs its.toList) : SqL K H a vs := by
  rcases q with ⟨q, _⟩ | ⟨o, q⟩ | q
  · exact .inl (.inl q)
  · exact .inl (.inr ⟨o, q⟩)
  · exact .inr q
theorem reps_ints : ∀ {ds : List D} {ns : List Int} {vs : List V}, intsOf ds = some ns → Reps K ω H ds vs → vs = ns.map V.int
  | [], ns, vs, e, h => by cases e; exact h
  | d :: ds, ns, vs, e, h => by
    obtain ⟨v, r, rfl, h1, h2⟩ := h
    cases d <;> first | (simp [intsOf] at e; done) | skip
    rename_i i
    simp only [intsOf, Option.map_eq_some_iff] at e
    obtain ⟨ms, e1, rfl⟩ := e
    rw [reps_ints e1 h2, show v = .int i from h1]
    rfl
theorem reps_bls : ∀ {ds : List D} {ns : List Bool} {vs : List V}, blsOf ds = some ns → Reps K ω H ds vs → vs = ns.map V.bl
  | [], ns, vs, e, h => by cases e; exact h
  | d :: ds, ns, vs, e, h => by
    obtain ⟨v, r, rfl, h1, h2⟩ := h
    cases d <;> first | (simp [blsOf] at e; done) | skip
    rename_i i
    simp only [blsOf, Option.map_eq_some_iff] at e
    obtain ⟨ms, e1, rfl⟩ := e
    rw [reps_bls e1 h2, show v = .bl i from h1]
    rfl
theorem reps_strs : ∀ {ds : List D} {ns : List Str} {vs : List V}, strsOf ds = some ns → Reps K ω H ds vs → vs = ns.map V.str
  | [], ns, vs, e, h => by cases e; exact h
  | d :: ds, ns, vs, e, h => by
    obtain ⟨v, r, rfl, h1, h2⟩ := h
    cases d <;> first | (simp [strsOf] at e; done) | skip
    rename_i i
    simp only [strsOf, Option.map_eq_some_iff] at e
    obtain ⟨ms, e1, rfl⟩ := e
    rw [reps_strs e1 h2, show v = .str i from h1.1]
    rfl
theorem reps_strs_le : ∀ {ds : List D} {ns : List Str} {vs : List V}, strsOf ds = some ns → Reps K ω H ds vs → ∀ x ∈ ns, x.length ≤ sizeLine
  | [], ns, vs, e, h => by cases e; simp
  | d :: ds, ns, vs, e, h => by
    obtain ⟨v, r, rfl, h1, h2⟩ := h
    cases d <;> first | (simp [strsOf] at e; done) | skip
    rename_i i
    simp only [strsOf, Option.map_eq_some_iff] at e
    obtain ⟨ms, e1, rfl⟩ := e
    intro x hx
    rcases List.mem_cons.mp hx with rfl | hx
    · exact h1.2
    · exact reps_strs_le e1 h2 x hx
theorem reps_of_strs : ∀ {ns : List Str}, (∀ x ∈ ns, x.length ≤ sizeLine) → Reps K ω H (ns.map D.str) (ns.map V.str)
  | [], _ => rfl
  | x :: ns, h => ⟨.str x, _, rfl, ⟨rfl, h x List.mem_cons_self⟩, reps_of_strs fun y hy => h y (List.mem_cons_of_mem _ hy)⟩

theorem cr_len : CallR X (.builtin "len") (rC X.kw (o1 .len)) := by
  refine callr_imp (call_len_seq.or call_len_str) ?_
  rintro xs H Q ⟨ω, a, d, tr, ra0, e, q⟩
  obtain ⟨v, rfl, ra⟩ := ra0.one
  clear ra0
  cases a with
  | tup ds =>
    cases e
    obtain ⟨_, a1, vs, rfl, s1, r1⟩ := ra
    refine .inl ⟨a1, vs, rfl, .inr s1, ?_⟩
    rw [r1.length]
    exact q H _ same_refl rfl
  | lst ds =>
    cases e
    obtain ⟨_, a1, vs, rfl, s1, w1, r1⟩ := ra
    refine .inl ⟨a1, vs, rfl, .inl (SqL.of s1), ?_⟩
    rw [r1.length]
    exact q H _ same_refl rfl
  | fls ds =>
    cases e
    obtain ⟨_, a1, vs, rfl, s1, r1⟩ := ra
    refine .inl ⟨a1, vs, rfl, .inl (sq_fls (K := X.kw) s1), ?_⟩
    rw [r1.length]
    exact q H _ same_refl rfl
  | str x =>
    cases e
    obtain ⟨rfl, l1⟩ := ra
    exact .inr ⟨x, rfl, l1, q H _ same_refl rfl⟩
  | _ => cases e
theorem cr_tuple : CallR X (.type "tuple") (rC X.kw (o1 .tuple)) := by
  refine callr_imp call_tuple_of ?_
  rintro xs H Q ⟨ω, a, d, tr, ra0, e, q⟩
  obtain ⟨v, rfl, ra⟩ := ra0.one
  clear ra0
  cases a with
  | tup ds =>
    cases e
    obtain ⟨l1, a1, vs, rfl, s1, r1⟩ := ra
    exact ⟨a1, vs, rfl, .inr ⟨s1, q H _ same_refl ⟨l1, a1, vs, rfl, s1, r1⟩⟩⟩
  | lst ds =>
    cases e
    obtain ⟨l1, a1, vs, rfl, s1, w1, r1⟩ := ra
    exact ⟨a1, vs, rfl, .inl ⟨SqL.of s1, fun p hp => q _ _ (same_new hp _) (rep_new_tup hp r1 l1)⟩⟩
  | _ => cases e
theorem cr_list : CallR X (.type "list") (rC X.kw (o1 .list)) := by
  refine callr_imp call_list_of ?_
  rintro xs H Q ⟨ω, a, d, tr, ra0, e, q⟩
  obtain ⟨v, rfl, ra⟩ := ra0.one
  clear ra0
  cases a with
  | tup ds =>
    cases e
    obtain ⟨l1, a1, vs, rfl, s1, r1⟩ := ra
    exact ⟨a1, vs, rfl, .inr s1, fun p hp => q _ _ (same_new hp _) (rep_new_lst tr hp r1 l1)⟩
  | lst ds =>
    cases e
    obtain ⟨l1, a1, vs, rfl, s1, w1, r1⟩ := ra
    exact ⟨a1, vs, rfl, .inl (SqL.of s1), fun p hp => q _ _ (same_new hp _) (rep_new_lst tr hp r1 l1)⟩
  | _ => cases e
theorem cr_dsum (hc : X.calm = true) : CallR X (.builtin "sum") (rC X.kw (o1 .sum)) := by
  refine callr_imp (cr_sum hc) ?_
  rintro xs H Q ⟨ω, a, d, tr, ra0, e, q⟩
  obtain ⟨v, rfl, ra⟩ := ra0.one
  clear ra0
  cases a with
  | lst ds =>
    simp only [o1, Option.map_eq_some_iff] at e
    obtain ⟨ns, e1, rfl⟩ := e
    obtain ⟨l1, a1, vs, rfl, s1, w1, r1⟩ := ra
    have z := reps_ints e1 r1
    subst z
    exact ⟨a1, ns, rfl, SqL.of s1, q H _ same_refl rfl⟩
  | _ => cases e
theorem cr_dall (hc : X.calm = true) : CallR X (.builtin "all") (rC X.kw (o1 .all)) := by
  refine callr_imp (L2.cr_all hc) ?_
  rintro xs H Q ⟨ω, a, d, tr, ra0, e, q⟩
  obtain ⟨v, rfl, ra⟩ := ra0.one
  clear ra0
  cases a with
  | lst ds =>
    simp only [o1, Option.map_eq_some_iff] at e
    obtain ⟨ns, e1, rfl⟩ := e
    obtain ⟨l1, a1, vs, rfl, s1, w1, r1⟩ := ra
    have z := reps_bls e1 r1
    subst z
    exact ⟨a1, ns, rfl, SqL.of s1, q H _ same_refl rfl⟩
  | _ => cases e
theorem maxL_mem : ∀ {ns : List Int}, ns ≠ [] → maxL ns ∈ ns ∧ ∀ y ∈ ns, y ≤ maxL ns
  | [], h => absurd rfl h
  | [x], _ => by simp [maxL]
  | x :: y :: r, _ => by
    obtain ⟨h1, h2⟩ := maxL_mem (ns := y :: r) (by simp)
    show (if maxL (y :: r) > x then maxL (y :: r) else x) ∈ _ ∧ _
    show (if maxL (y :: r) > x then maxL (y :: r) else x) ∈ _ ∧ ∀ z ∈ x :: y :: r, z ≤ (if maxL (y :: r) > x then maxL (y :: r) else x)
    split
    · refine ⟨List.mem_cons_of_mem _ h1, fun z hz => ?_⟩
      rcases List.mem_cons.mp hz with rfl | hz
      · omega
      · exact h2 z hz
    · refine ⟨List.mem_cons_self, fun z hz => ?_⟩
      rcases List.mem_cons.mp hz with rfl | hz
      · exact Int.le_refl _
      · have := h2 z hz
        omega
theorem minL_mem : ∀ {ns : List Int}, ns ≠ [] → minL ns ∈ ns ∧ ∀ y ∈ ns, minL ns ≤ y
  | [], h => absurd rfl h
  | [x], _ => by simp [minL]
  | x :: y :: r, _ => by
    obtain ⟨h1, h2⟩ := minL_mem (ns := y :: r) (by simp)
    show (if minL (y :: r) < x then minL (y :: r) else x) ∈ _ ∧ ∀ z ∈ x :: y :: r, (if minL (y :: r) < x then minL (y :: r) else x) ≤ z
    split
    · refine ⟨List.mem_cons_of_mem _ h1, fun z hz => ?_⟩
      rcases List.mem_cons.mp hz with rfl | hz
      · omega
      · exact h2 z hz
    · refine ⟨List.mem_cons_self, fun z hz => ?_⟩
      rcases List.mem_cons.mp hz with rfl | hz
      · exact Int.le_refl _
      · have := h2 z hz
        omega
theorem cr_dmax (hc : X.calm = true) : CallR X (.builtin "max") (rC X.kw (o1 .max)) := by
  refine callr_imp (L2.cr_max hc) ?_
  rintro xs H Q ⟨ω, a, d, tr, ra0, e, q⟩
  obtain ⟨v, rfl, ra⟩ := ra0.one
  clear ra0
  cases a with
  | lst ds =>
    simp only [o1, Option.bind_eq_some_iff] at e
    obtain ⟨ns, e1, e⟩ := e
    split at e
    · cases e
    · rename_i hn
      cases e
      obtain ⟨l1, a1, vs, rfl, s1, w1, r1⟩ := ra
      have z := reps_ints e1 r1
      subst z
      refine ⟨a1, ns, rfl, SqL.of s1, List.length_pos_iff.mpr hn, fun m hm hy => ?_⟩
      obtain ⟨h1, h2⟩ := maxL_mem hn
      have : m = maxL ns := Int.le_antisymm (h2 m hm) (hy _ h1)
      rw [this]
      exact q H _ same_refl rfl
  | _ => cases e
theorem cr_dmin (hc : X.calm = true) : CallR X (.builtin "min") (rC X.kw (o1 .min)) := by
  refine callr_imp (L2.cr_min hc) ?_
  rintro xs H Q ⟨ω, a, d, tr, ra0, e, q⟩
  obtain ⟨v, rfl, ra⟩ := ra0.one
  clear ra0
  cases a with
  | lst ds =>
    simp only [o1, Option.bind_eq_some_iff] at e
    obtain ⟨ns, e1, e⟩ := e
    split at e
    · cases e
    · rename_i hn
      cases e
      obtain ⟨l1, a1, vs, rfl, s1, w1, r1⟩ := ra
      have z := reps_ints e1 r1
      subst z
      refine ⟨a1, ns, rfl, SqL.of s1, List.length_pos_iff.mpr hn, fun m hm hy => ?_⟩
      obtain ⟨h1, h2⟩ := minL_mem hn
      have : m = minL ns := Int.le_antisymm (hy _ h1) (h2 m hm)
      rw [this]
      exact q H _ same_refl rfl
  | _ => cases e
theorem cr_dint : CallR X (.type "int") (rC X.kw (o1 .int)) := by
  refine callr_imp (call_int1.or call_int_txt) ?_
  rintro xs H Q ⟨ω, a, d, tr, ra0, e, q⟩
  obtain ⟨v, rfl, ra⟩ := ra0.one
  clear ra0
  cases a with
  | int i => cases e; cases ra; exact .inl (.inl ⟨i, rfl, q H _ same_refl rfl⟩)
  | bl b => cases e; cases ra; exact .inl (.inr ⟨b, rfl, q H _ same_refl rfl⟩)
  | str x =>
    simp only [o1] at e
    split at e
    · rename_i cc hx
      split at e
      · rename_i hc
        cases e
        have ex : x = ⟨#[48 + (cc - 48)]⟩ := by
          obtain ⟨⟨l⟩⟩ := x
          have : l = [cc] := hx
          rw [this, show 48 + (cc - 48) = cc by omega]
        have z := intText_fig ⟨cc - 48, by omega⟩
        dsimp only at z
        rw [← ex] at z
        exact .inr ⟨x, _, by rw [show v = .str x from ra.1], z, (by rw [ex]; show (1 : Nat) ≤ 640; decide), q H _ same_refl rfl⟩
      · cases e
    · cases e
  | _ => cases e
theorem cr_dstr : CallR X (.type "str") (rC X.kw (o1 .str)) := by
  refine callr_imp (call_str_int.or call_str_txt) ?_
  rintro xs H Q ⟨ω, a, d, tr, ra0, e, q⟩
  obtain ⟨v, rfl, ra⟩ := ra0.one
  clear ra0
  cases a with
  | str x =>
    cases e
    obtain rfl : v = .str x := ra.1
    exact .inr ⟨x, rfl, q H _ same_refl ra⟩
  | int i =>
    simp only [o1] at e
    split at e
    · rename_i hc
      cases e
      cases ra
      exact .inl ⟨i, rfl, hc.1, q H _ same_refl ⟨rfl, hc.2⟩⟩
    · cases e
  | _ => cases e
theorem cr_dmax2 (hc : X.calm = true) : CallR X (.builtin "max") (rC2 X.kw (o2 .max)) := by
  refine callr_imp (call_max2 hc) ?_
  rintro xs H Q ⟨ω, a, b, d, tr, r, e, q⟩
  obtain ⟨v, w, rfl, ra, rb⟩ := r.two
  unfold o2 at e
  split at e <;> try cases e
  all_goals try contradiction
  all_goals
    cases ra; cases rb
    exact ⟨_, _, rfl, q H _ same_refl rfl⟩
theorem cr_dmin2 (hc : X.calm = true) : CallR X (.builtin "min") (rC2 X.kw (o2 .min)) := by
  refine callr_imp (call_min2 hc) ?_
  rintro xs H Q ⟨ω, a, b, d, tr, r, e, q⟩
  obtain ⟨v, w, rfl, ra, rb⟩ := r.two
  unfold o2 at e
  split at e <;> try cases e
  all_goals try contradiction
  all_goals
    cases ra; cases rb
    exact ⟨_, _, rfl, q H _ same_refl rfl⟩
/-- the type of data -/
def tyD : D → Option String
  | .non => some "NoneType"
  | .bl _ => some "bool"
  | .int _ => some "int"
  | .str _ => some "str"
  | .tup _ => some "tuple"
  | .lst _ => some "list"
  | _ => none
theorem rep_ty {d : D} {v : V} {T : String} (h : Rep K ω H d v) (e : tyD d = some T) : TyX K H v (.type T) := by
  cases d <;> cases e
  · rw [show v = .non from h]; exact .base .non
  · rw [show v = .bl _ from h]; exact .base (.bl _)
  · rw [show v = .int _ from h]; exact .base (.int _)
  · rw [show v = .str _ from h.1]; exact .base (.str _)
  · obtain ⟨l1, a1, vs, rfl, s1, r1⟩ := h
    rcases s1 with (s1 | ⟨o, s1⟩) | ⟨o, its, n, s1, s2, _⟩
    · exact .base (.tup s1)
    · exact .fTuple s1
    · exact .kTuple s1 s2
  · obtain ⟨l1, a1, vs, rfl, s1, w1, r1⟩ := h
    exact .base (.lst s1)
def isO : String → Option O1
  | "str" => some .isStr
  | "int" => some .isInt
  | "bool" => some .isBool
  | "tuple" => some .isTuple
  | _ => none
theorem isO_ty {T : String} {o : O1} {a d : D} (h : isO T = some o) (e : o1 o a = some d) : ∃ T' b, tyD a = some T' ∧ kitB T' T = some b ∧ d = .bl b := by
  unfold isO at h
  split at h <;> cases h
  all_goals (cases a <;> cases e <;> exact ⟨_, _, rfl, (by decide +kernel), rfl⟩)
/-- isinstance(x, T) -/
theorem cr_isi {T : String} {o : O1} (h : isO T = some o) : CallR X (.builtin "isinstance") (fun xs H Q => ∃ v, xs = [v, .ty T] ∧ rC X.kw (o1 o) [v] H Q) := by
  refine callr_imp call_isi ?_
  rintro xs H Q ⟨v, rfl, ω, a, d, tr, ra0, e, q⟩
  obtain ⟨v', e', ra⟩ := ra0.one
  clear ra0
  cases e'
  obtain ⟨T', b, e1, e2, rfl⟩ := isO_ty h e
  exact ⟨v, .ty T, .type T', .type T, b, rfl, .ty T, rep_ty ra e1, kit_ty e2, q H _ same_refl rfl⟩
theorem mt_dJoin : MtR X "str.join" (rM X.kw (o2 .join)) := by
  refine mtr_imp mt_join ?_
  rintro x xs H Q ⟨ω, a, b, d, tr, ra, rb0, e, q⟩
  obtain ⟨v, rfl, rb⟩ := rb0.one
  clear rb0
  unfold o2 at e
  split at e <;> try cases e
  all_goals try contradiction
  rename_i s ds _
  simp only [Option.bind_eq_some_iff] at e
  obtain ⟨ys, e1, e⟩ := e
  split at e
  · rename_i hc
    cases e
    obtain ⟨rfl, _⟩ := ra
    obtain ⟨l1, a1, vs, rfl, s1, w1, r1⟩ := rb
    have z := reps_strs e1 r1
    subst z
    exact ⟨_, a1, ys, rfl, rfl, .inl (SqL.of s1), hc.1, q H _ same_refl ⟨rfl, hc.2⟩⟩
  · cases e
theorem mt_dSplit : MtR X "str.split" (rM X.kw (o2 .split)) := by
  refine mtr_imp mt_split ?_
  rintro x xs H Q ⟨ω, a, b, d, tr, ra, rb0, e, q⟩
  obtain ⟨v, rfl, rb⟩ := rb0.one
  clear rb0
  unfold o2 at e
  split at e <;> try cases e
  all_goals try contradiction
  split at e
  · rename_i hc
    cases e
    obtain ⟨rfl, _⟩ := ra
    obtain ⟨rfl, _⟩ := rb
    refine ⟨_, _, rfl, rfl, hc.1, hc.2.1, fun p hp => ?_⟩
    refine q _ _ (same_new hp _) (rep_new_lst tr hp (reps_of_strs fun x hx => ?_) (by rw [List.length_map]; exact hc.2.2.1))
    exact of_decide_eq_true (List.all_eq_true.mp hc.2.2.2 x hx)
  · cases e
theorem rep_strs {ns : List Str} (h : ∀ x ∈ ns, x.length ≤ sizeLine) : Reps K ω H (ns.map D.str) (ns.map V.str) := reps_of_strs h
theorem cr_dsorted : CallR X (.builtin "sorted") (rC X.kw (o1 .sorted)) := by
  refine callr_imp L2.cr_sortedS ?_
  rintro xs H Q ⟨ω, a, d, tr, ra0, e, q⟩
  obtain ⟨v, rfl, ra⟩ := ra0.one
  clear ra0
  cases a with
  | lst ds =>
    simp only [o1, Option.bind_eq_some_iff] at e
    obtain ⟨ns, e1, e⟩ := e
    split at e
    · rename_i hl
      cases e
      obtain ⟨l1, a1, vs, rfl, s1, w1, r1⟩ := ra
      have z := reps_strs e1 r1
      have le := reps_strs_le e1 r1
      subst z
      refine ⟨a1, ns, rfl, SqL.of s1, hl, fun ys p hp hs hn => ?_⟩
      have e2 := TStr.sorted_eq hp hs
      subst e2
      refine q _ _ (same_new hn _) (rep_new_lst tr hn (rep_strs fun x hx => le x (hp.mem_iff.mp hx)) ?_)
      rw [List.length_map, hp.length_eq, sizeLine_eq]
      omega
    · cases e
  | _ => cases e
/-- sorted(set(x)) -/
def rSrt (X : Cx) : V → Hp → VK → Prop := fun v H Q => TStr.rSet X [v] H fun u H1 => TStr.rSort X [u] H1 Q
theorem srt_of {d z : D} {v : V} {Q : VK} (tr : ∀ a, ω.wr a ≠ none → H a ≠ none) (r : Rep X.kw ω H d v) (e : o1 .sortedSet d = some z) (q : ∀ H' v', Same H H' → Rep X.kw ω H' z v' → Q v' H') : rSrt X v H Q := by
  have key : ∀ (c : Addr) (xs : List Str), v = .ref c → (SqL X.K H c (xs.map V.str) ∨ SqT X.K H c (xs.map V.str)) → xs.length < 64 → (∀ x ∈ xs, x.length ≤ sizeLine) → z = .lst ((sortS (dedS xs)).map .str) → rSrt X v H Q := by
    rintro c xs rfl hs h64 le rfl
    refine ⟨c, xs, rfl, hs, h64, fun p l hp nd ln mem => ⟨p, l, rfl, upd_same, Nat.lt_of_le_of_lt ln h64, fun p2 hp2 => ?_⟩⟩
    have pm : l.Perm (dedS xs) := by
      refine (TStr.perm_of_sub nd (fun x hx => (TStr.dedS_mem _).mpr ((mem x).mp hx)) ?_).symm
      have : (dedS xs).Nodup := TStr.dedS_nodup _
      exact (TStr.perm_of_sub_le this fun x hx => (mem x).mpr ((TStr.dedS_mem _).mp hx))
    rw [TStr.sortS_of_perm pm]
    have ne : p2 ≠ p := fun e => by rw [e, upd_same] at hp2; cases hp2
    have hn : H p2 = none := by rw [upd_ne ne] at hp2; exact hp2
    have s1 : Same H (upd H p (TStr.SetS X.prog X.w p l)) := same_new hp _
    have s2 : Same (upd H p (TStr.SetS X.prog X.w p l)) (upd (upd H p (TStr.SetS X.prog X.w p l)) p2 (.lst ((sortS (dedS xs)).map V.str))) := same_new hp2 _
    have tr2 : ∀ a, ω.wr a ≠ none → upd H p (TStr.SetS X.prog X.w p l) a ≠ none := fun a ha z => by
      have := tr a ha
      cases y : H a with
      | none => exact this y
      | some o => rw [s1 _ _ y] at z; cases z
    refine q _ _ (fun b u y => s2 b u (s1 b u y)) (rep_new_lst tr2 hp2 (rep_strs fun x hx => le x ?_) ?_)
    · exact (TStr.dedS_mem _).mp ((TStr.sortS_perm _).mem_iff.mp hx)
    · rw [List.length_map, (TStr.sortS_perm _).length_eq, ← pm.length_eq, sizeLine_eq]
      omega
  cases d with
  | lst ds =>
    simp only [o1, Option.bind_eq_some_iff] at e
    obtain ⟨ns, e1, e⟩ := e
    split at e
    · rename_i hl
      cases e
      obtain ⟨l1, a1, vs, rfl, s1, w1, r1⟩ := r
      have z := reps_strs e1 r1
      have le := reps_strs_le e1 r1
      subst z
      exact key a1 ns rfl (.inl (SqL.of s1)) hl le rfl
    · cases e
  | tup ds =>
    simp only [o1, Option.bind_eq_some_iff] at e
    obtain ⟨ns, e1, e⟩ := e
    split at e
    · rename_i hl
      cases e
      obtain ⟨l1, a1, vs, rfl, s1, r1⟩ := r
      have z := reps_strs e1 r1
      have le := reps_strs_le e1 r1
      subst z
      exact key a1 ns rfl (.inr s1) hl le rfl
    · cases e
  | _ => cases e
theorem pys_get : ∀ {ds : List D} {j : Nat}, (pys ds)[j]? = (ds[j]?).map D.py
  | [], j => by simp [pys]
  | d :: ds, 0 => by simp [pys]
  | d :: ds, j + 1 => by simp [pys, pys_get]
theorem mt_dIndex (hu : X.A.units + 65 < cLine) : MtR X "list.index" (rM X.kw (o2 .index)) := by
  refine mtr_imp (L2.mt_indexD hu) ?_
  rintro x xs H Q ⟨ω, a, b, d, tr, ra, rb0, e, q⟩
  obtain ⟨v, rfl, rb⟩ := rb0.one
  clear rb0
  unfold o2 at e
  split at e <;> try cases e
  all_goals try contradiction
  rename_i b _ _ _ ds _
  split at e
  · rename_i hc
    rw [Bool.and_eq_true] at hc
    obtain ⟨j, hj, rfl⟩ := Option.map_eq_some_iff.mp e
    obtain ⟨h1, h2, h3⟩ := List.findIdx?_eq_some_iff_getElem.mp hj
    have ra' := ra
    obtain ⟨l1, a1, vs, rfl, s1, w1, r1⟩ := ra
    refine ⟨a1, v, b.py, pys ds, j, ds[j].py, rfl, rfl, Rep.dp _ _ (.inl hc.2) ra', Rep.dp b v (.inl hc.1) rb, hc.2, hc.1, ?_, h2, fun m z hm hz => ?_, q H _ same_refl rfl⟩
    · rw [pys_get, List.getElem?_eq_getElem h1]
      rfl
    · have hml : m < ds.length := Nat.lt_trans hm h1
      rw [pys_get, List.getElem?_eq_getElem hml] at hz
      cases hz
      exact Bool.eq_false_iff.mpr (h3 m hm)
  · cases e
end
end TL

namespace TL
open PySem L2 PyProof.Rows

mutual
def deq : D → D → Bool
  | .non, .non => true
  | .bl a, .bl b => a == b
  | .int a, .int b => a == b
  | .str a, .str b => decide (a = b)
  | .tup a, .tup b => deqs a b
  | _, _ => false
def deqs : List D → List D → Bool
  | [], [] => true
  | a :: as, b :: bs => deq a b && deqs as bs
  | _, _ => false
end
mutual
theorem deq_eq : ∀ (a b : D), deq a b = true → a = b
  | .non, b, h => by cases b <;> first | rfl | (simp [deq] at h)
  | .bl x, b, h => by cases b <;> first | (simp [deq] at h; done) | (simp only [deq, beq_iff_eq] at h; rw [h])
  | .int x, b, h => by cases b <;> first | (simp [deq] at h; done) | (simp only [deq, beq_iff_eq] at h; rw [h])
  | .str x, b, h => by cases b <;> first | (simp [deq] at h; done) | (simp only [deq, decide_eq_true_eq] at h; rw [h])
  | .tup x, b, h => by cases b <;> first | (simp [deq] at h; done) | (simp only [deq] at h; rw [deqs_eq _ _ h])
  | .lst x, b, h => by simp [deq] at h
  | .fls x, b, h => by simp [deq] at h
  | .dic x, b, h => by simp [deq] at h
  | .ref x, b, h => by simp [deq] at h
  | .clo x y, b, h => by simp [deq] at h
  | .mlst x, b, h => by simp [deq] at h
  | .mset x, b, h => by simp [deq] at h
  | .mdic x, b, h => by simp [deq] at h
  | .ins x y, b, h => by simp [deq] at h
  | .ptr x y, b, h => by simp [deq] at h
  | .err x, b, h => by simp [deq] at h
theorem deqs_eq : ∀ (a b : List D), deqs a b = true → a = b
  | [], b, h => by cases b <;> first | rfl | (simp [deqs] at h)
  | a :: as, b, h => by
    cases b with
    | nil => simp [deqs] at h
    | cons b bs =>
      simp only [deqs, Bool.and_eq_true] at h
      rw [deq_eq _ _ h.1, deqs_eq _ _ h.2]
end

/-- a class: its name, the fields of its things, its methods, its __init__ -/
structure CT where
  name : Str
  flds : List Str
  meths : List (Str × Nat)
  init : Nat
structure GT where
  fns : List Str
  consts : List (Str × D)
  blt : List Str
  cls : List CT
  excs : List Str
  subs : List (Nat × Nat × Bool)
/-- what a def promises: what its code gives -/
def spC (K : KW) (C : Cal) (cls : Nat → Value) (f : Nat) : Sp := fun vs H Q E => ∃ (ω : Wd) (st : Sto) (ds : List D) (dp : Nat), StoOk K ω st H ∧ Reps K ω H ds vs ∧ match C f ds st with
  | .ok d st' => ∀ ω' v H', Ext dp ω H ω' H' → StoOk K ω' st' H' → Rep K ω' H' d v → Q v H'
  | .exc c st' => ∀ ω' H', Ext dp ω H ω' H' → StoOk K ω' st' H' → E (cls c) none H'
  | .fail => False
structure Cok (X : Cx) (G : GT) (k : Nat) (C : Cal) (cls : Nat → Value) (N : List Str) (sc : Scope) (W : WX) : Prop where
  hN : X.N = N
  nd : N.Nodup
  hsc : X.env.scope = sc
  calm : X.calm = true
  room : Room k X.A
  tk : Takes X W
  fns : ∀ (i : Nat) (x : Str), G.fns[i]? = some x → x ≠ "" → ∃ (f : Addr) (fd : FuncData) (ps : List Str), FnOk X.prog X.w X.kw X.mg X.base (L2.CX X.prog X.w) k f fd ps (spC X.kw C cls i) ∧ X.mg x = some (.ref f) ∧ PySem.W.keepIn X.kw (.ref f) = true ∧ Binds X.kw fd ps []
  cst : ∀ (x : Str) (d : D), G.consts.lookup x = some d → ∃ u v, X.mg x = some u ∧ RelV v u ∧ ∀ ω H, Rep X.kw ω H d v
  blt : ∀ x ∈ G.blt, X.mg x = none
  room1 : Room (k + 1) X.A
  clss : ∀ ct ∈ G.cls, ∃ Ca, X.mg ct.name = some (.ref Ca) ∧ PySem.W.nsIn X.K mainGlobals ct.name = some (some (.ref Ca)) ∧ Cls X.K Ca ∧ (∀ f ∈ ct.flds, NoAttr X.K Ca f) ∧
    (∀ m i, (m, i) ∈ ct.meths → ∃ (g : Addr) (fd : FuncData) (ps : List Str), Meth X.K Ca m g ∧ FnOk X.prog X.w X.kw X.mg X.base (L2.CX X.prog X.w) k g fd ps (spC X.kw C cls i) ∧ Binds X.kw fd ps []) ∧
    ∃ (g : Addr) (fd : FuncData) (ps : List Str), Mk X.K Ca g ∧ FnOk X.prog X.w X.kw X.mg X.base (L2.CX X.prog X.w) k g fd ps (spC X.kw C cls ct.init) ∧ Binds X.kw fd ps []

def notStar : Expr → Bool
  | .Starred .. => false
  | _ => true
def attrOk : Expr → Bool
  | .Call (.Name ..) [] [] _ => false
  | _ => true
def notSlice : Expr → Bool
  | .Slice .. => false
  | _ => true
def notSet : Expr → Bool
  | .Set .. => false
  | _ => true
def notComp : Expr → Bool
  | .ListComp .. | .SetComp .. | .DictComp .. => false
  | _ => true
def plainTest : Expr → Bool
  | .UnaryOp .Not _ _ | .BoolOp .. | .IfExp .. | .Compare .. => false
  | _ => true
theorem star_of {e : Expr} (h : notStar e = true) (es : List Expr) (env : PySem.Env) : starEach (e :: es) env = (false, eval e env) :: starEach es env := by
  cases e <;> first | rfl | (simp [notStar] at h)
theorem stars_of {env : PySem.Env} {pos : Pos} : ∀ {es : List Expr}, es.all notStar = true → (backTo pos (starEach es env)).any (·.1) = false
  | [], _ => rfl
  | e :: es, h => by
    rw [List.all_cons, Bool.and_eq_true] at h
    rw [star_of h.1]
    show (false || (backTo pos (starEach es env)).any (·.1)) = false
    rw [stars_of h.2]
    rfl
theorem attr_ok {o : Expr} (h : attrOk o = true) (m : Str) (env : PySem.Env) : attributeBase o m env (eval o env) = eval o env := by
  unfold attributeBase
  split
  · simp [attrOk] at h
  · rfl
theorem slice_ok {b : Expr} (h : notSlice b = true) : PlainIx b := by
  intro o i
  cases b <;> first | rfl | (simp [notSlice] at h)
theorem set_ok {op : CmpOp} {b : Expr} (h : notSet b = true) : behindInMarks op b = false := by
  cases b <;> first | rfl | (simp [notSet] at h)
theorem swap_ok {e : Expr} (h : notComp e = true) (t : Option Expr) (l : Nat) (env : PySem.Env) : swapsWith e t l env = pure false := by
  cases e <;> first | rfl | (simp [notComp] at h)
theorem fold_ok {e : Expr} (h : notSet e = true) (env : PySem.Env) (x : Value) : foldedSetIterable e env x = pure x := by
  cases e <;> first | rfl | (simp [notSet] at h)
theorem test_ok {e : Expr} (h : plainTest e = true) (env : PySem.Env) (whole : Sem Value) : isTrue e env whole = (do let v ← whole; standAt e.pos; holding [v] (truthy v)) := by
  cases e with
  | UnaryOp op a p => cases op <;> first | rfl | (simp [plainTest] at h)
  | _ => first | rfl | (simp [plainTest] at h)

def vis (sc : Scope) (x : Str) : Bool := match sc.names.lookup x with
  | some .local | some .cell | some .free => true
  | _ => false
def glb (sc : Scope) (x : Str) : Bool := match sc.names.lookup x with
  | some .globalImplicit => true
  | _ => false
def nameOk (x : Str) : Bool := !(x == ("__debug__" : Str)) && !(x == ("__classdict__" : Str)) && !decide (x = "__name__")
theorem vis_of {X : Cx} {sc : Scope} {x : Str} (e : X.env.scope = sc) (h : vis sc x = true) : Vis X.env.scope x := by
  rw [e]
  unfold vis at h
  unfold Vis
  split at h
  · rename_i q; exact .inl q
  · rename_i q; exact .inr (.inl q)
  · rename_i q; exact .inr (.inr q)
  · cases h
theorem glb_of {X : Cx} {sc : Scope} {x : Str} (e : X.env.scope = sc) (h : glb sc x = true) : Gl X x := by
  unfold glb at h
  unfold Gl Env.kindOf
  rw [e]
  split at h
  · rename_i q; exact q
  · cases h
structure NameOk (x : Str) : Prop where
  d : (x == ("__debug__" : Str)) = false
  c : (x == ("__classdict__" : Str)) = false
  n : x ≠ "__name__"
theorem nameOk_of {x : Str} (h : nameOk x = true) : NameOk x := by
  unfold nameOk at h
  simp only [Bool.and_eq_true, Bool.not_eq_true', decide_eq_false_iff_not] at h
  exact ⟨h.1.1, h.1.2, h.2⟩
def conOk : D → Const → Bool
  | .non, .none => true
  | .bl b, .bool c => b == c
  | .int i, .int j => i == j
  | .str x, .str y => decide (x = y) && decide (x.length ≤ sizeLine)
  | _, _ => false
/-- a dict display's keys: texts -/
def dicKeys : List Str → List (Option Expr) → Bool
  | [], [] => true
  | k :: ks, some (.Constant (.str x) _ _) :: es => decide (x = k) && decide (k.length ≤ sizeLine) && dicKeys ks es
  | _, _ => false
def binOf : O2 → Option Operator
  | .add => some .Add | .sub => some .Sub | .mul => some .Mult | .div => some .FloorDiv | .mod => some .Mod
  | _ => none
def cmpOf : O2 → Option CmpOp
  | .eq => some .Eq | .ne => some .NotEq | .lt => some .Lt | .le => some .LtE | .gt => some .Gt | .ge => some .GtE | .isIn => some .In | .notIn => some .NotIn | .isB => some .Is | .isNotB => some .IsNot
  | _ => none
def o1Call : O1 → Option Str
  | .len => some "len" | .tuple => some "tuple" | .list => some "list" | .sum => some "sum" | .all => some "all" | .int => some "int" | .str => some "str" | .sorted => some "sorted" | .max => some "max" | .min => some "min"
  | _ => none
def o2Call : O2 → Option Str
  | .max => some "max" | .min => some "min"
  | _ => none
def o2Meth : O2 → Option Str
  | .join => some "join" | .split => some "split"
  | _ => none
def o2LMeth : O2 → Option Str
  | .index => some "index"
  | _ => none
def isiOf : O1 → Option (String × Str)
  | .isStr => some ("str", "str") | .isInt => some ("int", "int") | .isBool => some ("bool", "bool") | .isTuple => some ("tuple", "tuple")
  | _ => none
def ikNames : IK → Option Str
  | .rng => some "range" | .enumT => some "enumerate" | .enumL => some "enumerate"
  | _ => none
/-- a name that may be stored to: a local one; in a def's own frame also one that others see -/
def lcl (df : Bool) (sc : Scope) (x : Str) : Bool := match sc.names.lookup x with
  | some .local => true
  | some .cell => df
  | _ => false
def tgOk (df : Bool) (N : List Str) (sc : Scope) (own : List Nat) : T → Expr → Bool
  | .nm i, .Name x _ => decide (N[i]? = some x) && decide (i ∈ own) && lcl df sc x
  | .tp is, .Tuple es _ _ => tgs is es
  | _, _ => false
where tgs : List Nat → List Expr → Bool
  | [], [] => true
  | i :: is, .Name x _ :: es => decide (N[i]? = some x) && decide (i ∈ own) && lcl df sc x && tgs is es
  | _, _ => false
def fre (G : GT) (sc : Scope) (x : Str) : Bool := glb sc x && decide (x ∈ G.blt) && nameOk x
/-- what a for walks: the expressions to be looked at -/
def itArgs (G : GT) (sc : Scope) : IK → T → Expr → Option (List Expr)
  | .rng, _, .Call (.Name y _) es [] _ => if decide (y = "range") && fre G sc y && (decide (es.length = 1) || decide (es.length = 2)) then some es else none
  | .enumT, .tp _, .Call (.Name y _) es [] _ => if decide (y = "enumerate") && fre G sc y && decide (es.length = 1) then some es else none
  | .enumL, .tp _, .Call (.Name y _) es [] _ => if decide (y = "enumerate") && fre G sc y && decide (es.length = 1) then some es else none
  | .tup, _, it => some [it]
  | .lst, _, it => some [it]
  | .fls, _, it => some [it]
  | .str, _, it => some [it]
  | _, _, _ => none
mutual
def chkE (N : List Str) (G : GT) : E → Scope → Expr → Bool
  | .var i, sc, e => match e with
    | .Name x _ => decide (N[i]? = some x) && vis sc x && nameOk x
    | _ => false
  | .con d, sc, e => match e with
    | .Constant c _ _ => conOk d c
    | .Name x _ => glb sc x && nameOk x && (match G.consts.lookup x with
      | some d' => deq d' d
      | none => false)
    | .UnaryOp .USub (.Constant (.int j) _ _) _ => (match d with | .int i => decide (i = -j) | _ => false)
    | _ => false
  | .tup ms, sc, e => match e with
    | .Tuple es _ _ => decide (es.length ≤ 1000) && chkEs N G ms sc es
    | _ => false
  | .lst ms, sc, e => match e with
    | .List es _ => decide (es.length ≤ 1000) && chkEs N G ms sc es
    | _ => false
  | .dic ks ms, sc, e => match e with
    | .Dict keys values _ => dicKeys ks keys && chkEs N G ms sc values && !ks.isEmpty && decide (ks.length ≤ 15) && decide (ks.length = ms.length) && decide ks.Nodup
    | _ => false
  | .o1 o m, sc, e => match e with
    | .Call (.Name x _) [a] [] _ => (match o1Call o with | some y => decide (x = y) | none => false) && fre G sc x && chkE N G m sc a && notStar a
    | .Call (.Name x _) [a, .Name y _] [] _ => decide (x = "isinstance") && fre G sc x && (match isiOf o with | some p => decide (y = p.2) | none => false) && fre G sc y && chkE N G m sc a && notStar a
    | .Compare a [.Is] [.Constant .none _ _] _ => (match o with | .isNone => true | _ => false) && chkE N G m sc a
    | .Compare a [.IsNot] [.Constant .none _ _] _ => (match o with | .notNone => true | _ => false) && chkE N G m sc a
    | .Subscript a (.Slice none none (some (.UnaryOp .USub (.Constant (.int j) _ _) _)) _) _ => (match o with | .rev => decide (j = 1) | _ => false) && chkE N G m sc a
    | _ => false
  | .o2 o m n, sc, e => match e with
    | .BinOp a op b _ => decide (binOf o = some op) && chkE N G m sc a && chkE N G n sc b
    | .Compare a [op] [b] _ => decide (cmpOf o = some op) && notSet b && chkE N G m sc a && chkE N G n sc b
    | .Subscript a b _ => (match o with | .ix => true | _ => false) && notSlice b && chkE N G m sc a && chkE N G n sc b
    | .Call (.Name x _) [a, b] [] _ => (match o2Call o with | some y => decide (x = y) | none => false) && fre G sc x && chkE N G m sc a && notStar a && chkE N G n sc b && notStar b
    | _ => false
  | .sm o m n, sc, e => match e with
    | .Call (.Attribute a x apos) [b] [] pos => (match o2Meth o with | some y => decide (x = y) | none => false) && attrOk a && (apos.endLine == pos.line) && chkE N G m sc a && chkE N G n sc b && notStar b
    | _ => false
  | .chain o o' m n k, sc, e => match e with
    | .Compare a [op, op'] [b, c] _ => decide (cmpOf o = some op) && decide (cmpOf o' = some op') && notSet b && notSet c && chkE N G m sc a && chkE N G n sc b && chkE N G k sc c
    | _ => false
  | .and ms, sc, e => match e with
    | .BoolOp .And es _ => chkEs N G ms sc es && !es.isEmpty
    | _ => false
  | .or ms, sc, e => match e with
    | .BoolOp .Or es _ => chkEs N G ms sc es && !es.isEmpty
    | _ => false
  | .not m, sc, e => match e with
    | .UnaryOp .Not a _ => chkE N G m sc a
    | _ => false
  | .ife m n k, sc, e => match e with
    | .IfExp c a b _ => chkE N G m sc c && chkE N G n sc a && chkE N G k sc b
    | _ => false
  | .call f ms, sc, e => match e with
    | .Call (.Name x _) es [] _ => decide (G.fns[f]? = some x) && glb sc x && nameOk x && !es.isEmpty && chkEs N G ms sc es && decide (x ≠ "")
    | _ => false
  | .sl m lo hi, sc, e => match e with
    | .Subscript a (.Slice none none none _) _ => lo.isEmpty && hi.isEmpty && chkE N G m sc a
    | .Subscript a (.Slice (some l) none none _) _ => (decide (lo.length = 1)) && hi.isEmpty && chkE N G m sc a && chkEs N G lo sc [l]
    | .Subscript a (.Slice none (some h) none _) _ => lo.isEmpty && (decide (hi.length = 1)) && chkE N G m sc a && chkEs N G hi sc [h]
    | .Subscript a (.Slice (some l) (some h) none _) _ => (decide (lo.length = 1)) && (decide (hi.length = 1)) && chkE N G m sc a && chkEs N G lo sc [l] && chkEs N G hi sc [h]
    | _ => false
  | .dget m n k, sc, e => match e with
    | .Call (.Attribute a x apos) [b, f] [] pos => decide (x = "get") && attrOk a && (apos.endLine == pos.line) && chkE N G m sc a && chkE N G n sc b && notStar b && chkE N G k sc f && notStar f
    | _ => false
  | .lc elt tg ik ie cond own, sc, e => match e with
    | .ListComp x [⟨t, it, ifs, 0⟩] scope _ => blkC N sc scope (own.map fun (i : Nat) => ((N[i]?).getD ("" : Str), i)) && tgOk false N (relS scope sc) own tg t && notSet it && decide (cond.length = ifs.length) && decide (ifs.length ≤ 1) &&
        chkE N G elt (relS scope sc) x && chkEs N G cond (relS scope sc) ifs &&
        (match itArgs G sc ik tg it with
          | some es => chkEs N G ie sc es
          | none => false)
    | _ => false
  | .inOwn neg m i, sc, e => match e with
    | .Compare a [op] [.Name x _] _ => decide (op = if neg then .NotIn else .In) && chkE N G m sc a && decide (N[i]? = some x) && vis sc x && nameOk x
    | _ => false
  | .srt m, sc, e => match e with
    | .Call (.Name x _) [.Call (.Name y _) [a] [] _] [] _ => decide (x = "sorted") && fre G sc x && decide (y = "set") && fre G sc y && chkE N G m sc a && notStar a
    | _ => false
  | .fld c m f, sc, e => match e with
    | .Attribute a f' pos => decide (f' = f) && attrOk a && (G.cls.any fun ct => decide (ct.name = c) && decide (f ∈ ct.flds)) && chkE N G m sc a
    | _ => false
  | .meth i c mn m ms, sc, e => match e with
    | .Call (.Attribute o f' apos) es [] pos => decide (f' = mn) && (apos.endLine == pos.line) && decide (es.length < 29) && (G.cls.any fun ct => decide (ct.name = c) && decide ((mn, i) ∈ ct.meths)) && attrOk o && chkE N G m sc o && chkEs N G ms sc es
    | _ => false
  | .make i c ms, sc, e => match e with
    | .Call (.Name x p) es [] pos => decide (x = c) && glb sc x && nameOk x && !es.isEmpty && (G.cls.any fun ct => decide (ct.name = c) && decide (ct.init = i)) && chkEs N G ms sc es
    | _ => false
  | .minN m, sc, e => match e with
    | .Call (.Name x _) [a] [⟨some nm, .Constant .none _ _, _⟩] _ => decide (x = "min") && fre G sc x && decide (nm = "default") && chkE N G m sc a && notStar a
    | _ => false
  | .lm o m n, sc, e => match e with
    | .Call (.Attribute a x apos) [b] [] pos => (match o2LMeth o with | some y => decide (x = y) | none => false) && attrOk a && (apos.endLine == pos.line) && chkE N G m sc a && chkE N G n sc b && notStar b
    | _ => false
  | .pix m n, sc, e => match e with
    | .Subscript a b _ => notSlice b && chkE N G m sc a && chkE N G n sc b
    | _ => false
  | .pin neg m n, sc, e => match e with
    | .Compare a [op] [b] _ => decide (op = if neg then .NotIn else .In) && notSet b && chkE N G m sc a && chkE N G n sc b
    | _ => false
  | .psort m, sc, e => match e with
    | .Call (.Name x _) [a] [] _ => decide (x = "sorted") && fre G sc x && chkE N G m sc a && notStar a
    | _ => false
  | .pitems m, sc, e => match e with
    | .Call (.Name x _) [.Call (.Attribute a y apos) [] [] cpos] [] _ => decide (x = "sorted") && fre G sc x && decide (y = "items") && attrOk a && (apos.endLine == cpos.line) && chkE N G m sc a
    | _ => false
  | .ptup m, sc, e => match e with
    | .Call (.Name x _) [a] [] _ => decide (x = "tuple") && fre G sc x && chkE N G m sc a && notStar a
    | _ => false
  | .dzip m n, sc, e => match e with
    | .Call (.Name x _) [.Call (.Name y _) [a, b] [] _] [] _ => decide (x = "dict") && fre G sc x && decide (y = "zip") && fre G sc y && chkE N G m sc a && notStar a && chkE N G n sc b && notStar b
    | _ => false
  | .dmk _, _, _ => false
  | .lamc _ _, _, _ => false
  | .act _, _, _ => false
  | .isE _ _ _, _, _ => false
def chkEs (N : List Str) (G : GT) : List E → Scope → List Expr → Bool
  | [], _, es => es.isEmpty
  | m :: ms, sc, es => match es with
    | e :: es => chkE N G m sc e && notStar e && chkEs N G ms sc es
    | [] => false
end
end TL

namespace TL
open PySem L2 PyProof.Rows

/-- a reading by what is done -/
def tEf (K : KW) (dp : Nat) (W : WX) (cls : Nat → Value) (f : Env → Sto → R D) : TE := fun σ H Q => ∃ ω ρ st, Loc K ω dp ρ σ H ∧ StoOk K ω st H ∧
  Post K dp W cls σ ω H (f ρ st) fun d _ ω' H' => ∀ v, Rep K ω' H' d v → Q v H'
def tTf (K : KW) (dp : Nat) (W : WX) (cls : Nat → Value) (f : Env → Sto → R D) : TT := fun σ H Q => ∃ ω ρ st, Loc K ω dp ρ σ H ∧ StoOk K ω st H ∧
  Post K dp W cls σ ω H (f ρ st) fun d _ ω' H' => ∃ b, d = .bl b ∧ Q b H'
def SndE (N : List Str) (G : GT) (k : Nat) (C : Cal) (cls : Nat → Value) (dp : Nat) (m : E) : Prop := ∀ (X : Cx) (sc : Scope) (W : WX) (e : Expr), Cok X G k C cls N sc W → chkE N G m sc e = true → PE X e (tE X.kw C dp W cls m) ∧ PT X e (tT X.kw C dp W cls m)
def SndEs (N : List Str) (G : GT) (k : Nat) (C : Cal) (cls : Nat → Value) (dp : Nat) (ms : List E) : Prop := ∀ (X : Cx) (sc : Scope) (W : WX) (es : List Expr), Cok X G k C cls N sc W → chkEs N G ms sc es = true → PA X es (tEs X.kw C dp W cls ms) ∧ es.all notStar = true

section
variable {X : Cx} {N : List Str} {G : GT} {k : Nat} {C : Cal} {cls : Nat → Value} {dp : Nat} {sc : Scope} {W : WX} {e : Expr} {es : List Expr} {m a b : E} {ms : List E}
theorem pt_of {f : Env → Sto → R D} (h : PE X e (tEf X.kw dp W cls f)) (p : plainTest e = true) : PT X e (tTf X.kw dp W cls f) := by
  refine pt_imp (pt_val h (test_ok p X.env)) ?_
  rintro σ H Q ⟨ω, ρ, st, hl, hs, hp⟩
  refine ⟨ω, ρ, st, hl, hs, hp.mono ?_⟩
  rintro d st' ω' H' x s ⟨b, rfl, q⟩ v r
  exact ⟨b, r, q⟩
theorem both_of (h : PE X e (tE X.kw C dp W cls m)) (p : plainTest e = true) : PE X e (tE X.kw C dp W cls m) ∧ PT X e (tT X.kw C dp W cls m) := ⟨h, pt_of h p⟩
theorem units_of (c : Cok X G k C cls N sc W) : X.A.units + 65 < cLine := by have := c.room.un; omega

theorem snd_var (i : Nat) : SndE N G k C cls dp (.var i) := by
  intro X sc W e c h
  unfold chkE at h
  split at h
  · rename_i x pos
    simp only [Bool.and_eq_true, decide_eq_true_eq] at h
    have nm := nameOk_of h.2
    refine both_of (pe_imp (pe_var (X := X) (i := i) (by rw [c.hN]; exact h.1.1) (vis_of c.hsc h.1.2) nm.d nm.c) ?_) rfl
    rintro σ H Q ⟨ω, ρ, st, hl, hs, hp⟩
    unfold ev at hp
    split at hp
    · rename_i d hd
      split at hp
      · exact hp.elim
      · rename_i ho
        obtain ⟨v, e1, r⟩ := hl.at_ i d hd
        exact ⟨v, e1, hp ω H .refl hs v (r.rep (by simpa using ho))⟩
    · exact hp.elim
  · cases h
theorem snd_con (d : D) : SndE N G k C cls dp (.con d) := by
  intro X sc W e c h
  unfold chkE at h
  have fin : ∀ (v : V), (∀ ω H, Rep X.kw ω H d v) → PE X e (tC v) → PE X e (tE X.kw C dp W cls (.con d)) := fun v r h => pe_imp h (by
    rintro σ H Q ⟨ω, ρ, st, hl, hs, hp⟩
    unfold ev at hp
    exact hp ω H .refl hs v (r ω H))
  split at h
  · rename_i cc j pos
    cases d <;> cases cc <;> first | (simp [conOk] at h; done) | skip
    · exact both_of (fin .non (fun _ _ => rfl) pe_non) rfl
    · simp only [conOk, beq_iff_eq] at h
      subst h
      exact both_of (fin (.bl _) (fun _ _ => rfl) pe_bl) rfl
    · simp only [conOk, beq_iff_eq] at h
      subst h
      exact both_of (fin (.int _) (fun _ _ => rfl) pe_int) rfl
    · simp only [conOk, Bool.and_eq_true, decide_eq_true_eq] at h
      obtain ⟨h1, h2⟩ := h
      subst h1
      exact both_of (fin (.str _) (fun _ _ => ⟨rfl, h2⟩) pe_str) rfl
  · rename_i x pos
    simp only [Bool.and_eq_true] at h
    have nm := nameOk_of h.1.2
    cases q : G.consts.lookup x with
    | none => rw [q] at h; simp at h
    | some d' =>
      rw [q] at h
      have e1 := deq_eq _ _ h.2
      subst e1
      obtain ⟨u, v, hm, r, hr⟩ := c.cst x d' q
      exact both_of (fin v hr (pe_glob (glb_of c.hsc h.1.1) hm r nm.d)) rfl
  · rename_i j jj p1 p2
    cases d <;> first | (cases h; done) | skip
    simp only [decide_eq_true_eq] at h
    subst h
    refine both_of (pe_imp (pe_un un_neg pe_int) ?_) rfl
    rintro σ H Q ⟨ω, ρ, st, hl, hs, hp⟩
    unfold ev at hp
    exact ⟨j, rfl, hp ω H .refl hs _ rfl⟩
  · cases h

theorem snd_es : ∀ {ms : List E}, (∀ m ∈ ms, SndE N G k C cls dp m) → SndEs N G k C cls dp ms
  | [], _ => by
    intro X sc W es c h
    unfold chkEs at h
    have e : es = [] := by cases es <;> first | rfl | simp at h
    subst e
    refine ⟨pa_imp pa_nil ?_, rfl⟩
    rintro σ H Q ⟨ω, ρ, st, hl, hs, hp⟩
    unfold evs at hp
    exact hp ω H .refl hs [] rfl
  | m :: ms, hm => by
    intro X sc W es c h
    unfold chkEs at h
    cases es with
    | nil => cases h
    | cons e es =>
      simp only [Bool.and_eq_true] at h
      obtain ⟨h1, h2⟩ := snd_es (fun m h => hm m (List.mem_cons_of_mem _ h)) X sc W es c h.2
      refine ⟨pa_imp (pa_cons (hm m List.mem_cons_self X sc W e c h.1.1).1 h1 (star_of h.1.2 es X.env)) ?_, by rw [List.all_cons, h.1.2, h2]; rfl⟩
      rintro σ H Q ⟨ω, ρ, st, hl, hs, hp⟩
      unfold evs at hp
      refine ⟨ω, ρ, st, hl, hs, (Post.bind hp).mono fun d st1 ω1 H1 x1 s1 q1 v r1 => ⟨ω1, ρ, st1, hl.ext x1, s1, (Post.bind q1).mono fun ds st2 ω2 H2 x2 s2 q2 vs r2 => ?_⟩⟩
      exact q2 ω2 H2 .refl s2 (v :: vs) ⟨v, vs, rfl, r1.ext x2, r2⟩

theorem evs_length {C : Cal} : ∀ {ms : List E} {ρ : Env} {st st' : Sto} {ds : List D}, evs C ms ρ st = .ok ds st' → ds.length = ms.length
  | [], ρ, st, st', ds, h => by
    unfold evs at h
    cases h
    rfl
  | m :: ms, ρ, st, st', ds, h => by
    unfold evs at h
    cases q : ev C m ρ st with
    | ok d st1 =>
      rw [q] at h
      cases q2 : evs C ms ρ st1 with
      | ok ds2 st2 =>
        have h : (R.bind (evs C ms ρ st1) fun ds st => .ok (d :: ds) st) = .ok ds st' := h
        rw [q2] at h
        cases h
        rw [List.length_cons, List.length_cons, evs_length q2]
      | exc c st2 =>
        have h : (R.bind (evs C ms ρ st1) fun ds st => .ok (d :: ds) st) = .ok ds st' := h
        rw [q2] at h; cases h
      | fail =>
        have h : (R.bind (evs C ms ρ st1) fun ds st => .ok (d :: ds) st) = .ok ds st' := h
        rw [q2] at h; cases h
    | exc c st1 => rw [q] at h; cases h
    | fail => rw [q] at h; cases h
theorem chkEs_length : ∀ {ms : List E} {es : List Expr}, chkEs N G ms sc es = true → es.length = ms.length
  | [], es, h => by
    unfold chkEs at h
    cases es <;> first | rfl | simp at h
  | m :: ms, es, h => by
    unfold chkEs at h
    cases es with
    | nil => cases h
    | cons e es =>
      simp only [Bool.and_eq_true] at h
      rw [List.length_cons, List.length_cons, chkEs_length h.2]
/-- the length of what is told, too -/
theorem Post.len {ω : Wd} {H : Hp} {σ : L2.St} {K : KW} {ρ : Env} {st : Sto} {P : List D → Sto → Wd → Hp → Prop} (h : Post K dp W cls σ ω H (evs C ms ρ st) P) :
    Post K dp W cls σ ω H (evs C ms ρ st) fun ds st' ω' H' => ds.length = ms.length ∧ P ds st' ω' H' := by
  cases q : evs C ms ρ st with
  | ok ds st' =>
    rw [q] at h
    exact fun ω' H' x s => ⟨evs_length q, h ω' H' x s⟩
  | exc c st' => rw [q] at h; exact h
  | fail => rw [q] at h; exact h
theorem le_line {n : Nat} (h : n ≤ 1000) : n ≤ sizeLine := by rw [sizeLine_eq]; omega
theorem snd_tup (hm : ∀ m ∈ ms, SndE N G k C cls dp m) : SndE N G k C cls dp (.tup ms) := by
  intro X sc W e c h
  unfold chkE at h
  split at h
  · simp only [Bool.and_eq_true, decide_eq_true_eq] at h
    obtain ⟨h1, h2⟩ := snd_es hm X sc W _ c h.2
    have hl := chkEs_length h.2
    refine both_of (pe_imp (pe_tup h1) ?_) rfl
    rintro σ H Q ⟨ω, ρ, st, hl1, hs, hp⟩
    unfold ev at hp
    refine ⟨ω, ρ, st, hl1, hs, (Post.bind hp).len.mono fun ds st1 ω1 H1 x1 s1 ⟨ln, q1⟩ vs r1 => ⟨?_, fun p hp => ?_⟩⟩
    · rw [r1.length, ln, ← hl]
      exact le_line h.1
    · exact q1 ω1 (upd H1 p (.tup vs)) (.ofGrow s1 (same_new hp _)) (s1.grow (same_new hp _)) _ (rep_new_tup hp r1 (by rw [ln, ← hl]; exact le_line h.1))
  · cases h
theorem snd_lst (hm : ∀ m ∈ ms, SndE N G k C cls dp m) : SndE N G k C cls dp (.lst ms) := by
  intro X sc W e c h
  unfold chkE at h
  split at h
  · simp only [Bool.and_eq_true, decide_eq_true_eq] at h
    obtain ⟨h1, h2⟩ := snd_es hm X sc W _ c h.2
    have hl := chkEs_length h.2
    refine both_of (pe_imp (pe_lst h1) ?_) rfl
    rintro σ H Q ⟨ω, ρ, st, hl1, hs, hp⟩
    unfold ev at hp
    refine ⟨ω, ρ, st, hl1, hs, (Post.bind hp).len.mono fun ds st1 ω1 H1 x1 s1 ⟨ln, q1⟩ vs r1 => ⟨?_, fun p hp => ?_⟩⟩
    · rw [r1.length, ln, ← hl]
      exact le_line h.1
    · exact q1 ω1 (upd H1 p (.lst vs)) (.ofGrow s1 (same_new hp _)) (s1.grow (same_new hp _)) _ (rep_new_lst s1.trk hp r1 (by rw [ln, ← hl]; exact le_line h.1))
  · cases h

/-- an operator's reading -/
theorem rB_of {K : KW} {σ : L2.St} {ω : Wd} {H : Hp} {st : Sto} {g : D → D → Option D} {x y : D} {v w : V} {Q : VK} {P : D → Sto → Wd → Hp → Prop} (s : StoOk K ω st H) (rx : Rep K ω H x v) (ry : Rep K ω H y w)
    (h : Post K dp W cls σ ω H (R.lift st (g x y)) P) (i : ∀ d ω' H', Ext (dp + 1) ω H ω' H' → StoOk K ω' st H' → P d st ω' H' → ∀ v, Rep K ω' H' d v → Q v H') : rB K g v w H Q := by
  obtain ⟨d, e, q⟩ := Post.lift h
  exact ⟨ω, x, y, d, s.trk, rx, ry, e, fun H' v' gr r => i d ω H' (.ofGrow s gr) (s.grow gr) (q ω H' (.ofGrow s gr) (s.grow gr)) v' r⟩
theorem rC_of {K : KW} {σ : L2.St} {ω : Wd} {H : Hp} {st : Sto} {g : D → Option D} {x : D} {v : V} {Q : VK} {P : D → Sto → Wd → Hp → Prop} (s : StoOk K ω st H) (rx : Rep K ω H x v)
    (h : Post K dp W cls σ ω H (R.lift st (g x)) P) (i : ∀ d ω' H', Ext (dp + 1) ω H ω' H' → StoOk K ω' st H' → P d st ω' H' → ∀ v, Rep K ω' H' d v → Q v H') : rC K g [v] H Q := by
  obtain ⟨d, e, q⟩ := Post.lift h
  exact ⟨ω, x, d, s.trk, ⟨v, [], rfl, rx, rfl⟩, e, fun H' v' gr r => i d ω H' (.ofGrow s gr) (s.grow gr) (q ω H' (.ofGrow s gr) (s.grow gr)) v' r⟩

theorem o1_call {o : O1} {x : Str} (c : Cok X G k C cls N sc W) (h : o1Call o = some x) : (∃ id, bootBuiltins x = some (.builtin id) ∧ CallR X (.builtin id) (rC X.kw (o1 o))) ∨ ∃ T, bootBuiltins x = some (.type T) ∧ CallR X (.type T) (rC X.kw (o1 o)) := by
  cases o <;> cases h
  · exact .inl ⟨_, PySem.boot_len, cr_len⟩
  · exact .inr ⟨_, by decide +kernel, cr_tuple⟩
  · exact .inr ⟨_, by decide +kernel, cr_list⟩
  · exact .inl ⟨_, by decide +kernel, cr_dsum c.calm⟩
  · exact .inl ⟨_, by decide +kernel, cr_dall c.calm⟩
  · exact .inr ⟨_, by decide +kernel, cr_dint⟩
  · exact .inr ⟨_, by decide +kernel, cr_dstr⟩
  · exact .inl ⟨_, by decide +kernel, cr_dsorted⟩
  · exact .inl ⟨_, by decide +kernel, cr_dmax c.calm⟩
  · exact .inl ⟨_, by decide +kernel, cr_dmin c.calm⟩
structure Fre (X : Cx) (x : Str) : Prop where
  g : Gl X x
  m : X.mg x = none
  n : NameOk x
theorem fre_of {x : Str} (c : Cok X G k C cls N sc W) (h : fre G sc x = true) : Fre X x := by
  unfold fre at h
  simp only [Bool.and_eq_true, decide_eq_true_eq] at h
  exact ⟨glb_of c.hsc h.1.1, c.blt x h.1.2, nameOk_of h.2⟩
theorem isi_of {o : O1} {p : String × Str} (h : isiOf o = some p) : isO p.1 = some o ∧ bootBuiltins p.2 = some (.type p.1) := by
  cases o <;> cases h <;> exact ⟨rfl, by decide +kernel⟩
theorem boot_isinstance' : bootBuiltins "isinstance" = some (.builtin "isinstance") := by decide +kernel
theorem snd_o1 {o : O1} (hm : SndE N G k C cls dp m) : SndE N G k C cls dp (.o1 o m) := by
  intro X sc W e c h
  unfold chkE at h
  split at h
  · rename_i x p1 a p2
    simp only [Bool.and_eq_true] at h
    obtain ⟨⟨⟨h1, h2⟩, h3⟩, h4⟩ := h
    have F := fre_of c h2
    cases q : o1Call o with
    | none => rw [q] at h1; cases h1
    | some y =>
      rw [q] at h1
      have e1 : x = y := of_decide_eq_true h1
      subst e1
      have A : PA X [a] (tCons (tE X.kw C dp W cls m) tNil) := pa_cons (hm X sc W a c h3).1 pa_nil (star_of h4 [] X.env)
      have fin : ∀ σ H Q, tE X.kw C dp W cls (.o1 o m) σ H Q → tCB (rC X.kw (o1 o)) (tCons (tE X.kw C dp W cls m) tNil) σ H Q := by
        rintro σ H Q ⟨ω, ρ, st, hl, hs, hp⟩
        unfold ev at hp
        refine ⟨ω, ρ, st, hl, hs, (Post.bind hp).mono fun d st1 ω1 H1 x1 s1 q1 v r1 => ?_⟩
        exact rC_of s1 r1 q1 fun d ω' H' x' s' P => P
      rcases o1_call c q with ⟨id, hb, hc⟩ | ⟨T, hb, hc⟩
      · exact both_of (pe_imp (pe_callB hc F.g F.m hb A F.n.n F.n.d (star_of h4 [] X.env) rfl) fin) rfl
      · exact both_of (pe_imp (pe_callTy hc F.g F.m hb A F.n.n F.n.d (star_of h4 [] X.env) rfl) fin) rfl
  · rename_i x p1 a y p2 p3
    simp only [Bool.and_eq_true, decide_eq_true_eq] at h
    obtain ⟨⟨⟨⟨⟨h0, h1⟩, h2⟩, h3⟩, h4⟩, h5⟩ := h
    subst h0
    have F := fre_of c h1
    have F2 := fre_of c h3
    cases q : isiOf o with
    | none => rw [q] at h2; cases h2
    | some p =>
      rw [q] at h2
      have e1 : y = p.2 := of_decide_eq_true h2
      obtain ⟨i1, i2⟩ := isi_of q
      rw [← e1] at i2
      have B : PE X (.Name y p2) (tC (.ty p.1)) := pe_bltn F2.g F2.m i2 rfl F2.n.n F2.n.d
      have A : PA X [a, .Name y p2] (tCons (tE X.kw C dp W cls m) (tCons (tC (.ty p.1)) tNil)) := pa_cons (hm X sc W a c h4).1 (pa_cons B pa_nil rfl) (star_of h5 _ X.env)
      refine both_of (pe_imp (pe_callB (cr_isi i1) F.g F.m boot_isinstance' A F.n.n F.n.d (star_of h5 _ X.env) rfl) ?_) rfl
      rintro σ H Q ⟨ω, ρ, st, hl, hs, hp⟩
      unfold ev at hp
      refine ⟨ω, ρ, st, hl, hs, (Post.bind hp).mono fun d st1 ω1 H1 x1 s1 q1 v r1 => ?_⟩
      exact ⟨v, rfl, rC_of s1 r1 q1 fun d ω' H' x' s' P => P⟩
  · rename_i a j p1 p2
    simp only [Bool.and_eq_true] at h
    cases o <;> first | (simp at h; done) | skip
    have key : ∀ σ H Q, tE X.kw C dp W cls (.o1 .isNone m) σ H Q → tIsN (tE X.kw C dp W cls m) σ H Q := by
      rintro σ H Q ⟨ω, ρ, st, hl, hs, hp⟩
      unfold ev at hp
      refine ⟨ω, ρ, st, hl, hs, (Post.bind hp).mono fun d st1 ω1 H1 x1 s1 q1 v r1 => ?_⟩
      obtain ⟨d2, e2, q2⟩ := Post.lift q1
      have q3 := q2 ω1 H1 .refl s1
      cases d <;> first | (cases e2; done) | (cases e2; first | (cases r1; exact q3 _ rfl) | (obtain ⟨rfl, _⟩ := r1; exact q3 _ rfl) | (obtain ⟨_, a, vs, rfl, _⟩ := r1; exact q3 _ rfl) | (obtain ⟨a, _, rfl⟩ := r1; exact q3 _ rfl) | (obtain ⟨a, rfl, _⟩ := r1; exact q3 _ rfl) | exact r1.elim)
    refine ⟨pe_imp (pe_cmp (pc_isN (hm X sc W a c h.2).1) (set_ok rfl)) key, pt_imp (pt_cmp (pc_isN (hm X sc W a c h.2).1) (set_ok rfl)) ?_⟩
    rintro σ H Q ⟨ω, ρ, st, hl, hs, hp⟩
    refine key σ H _ ⟨ω, ρ, st, hl, hs, hp.mono ?_⟩
    rintro d st' ω' H' x s ⟨b, rfl, q⟩ v r
    exact ⟨b, r, q⟩
  · rename_i a j p1 p2
    simp only [Bool.and_eq_true] at h
    cases o <;> first | (simp at h; done) | skip
    have key : ∀ σ H Q, tE X.kw C dp W cls (.o1 .notNone m) σ H Q → tNotN (tE X.kw C dp W cls m) σ H Q := by
      rintro σ H Q ⟨ω, ρ, st, hl, hs, hp⟩
      unfold ev at hp
      refine ⟨ω, ρ, st, hl, hs, (Post.bind hp).mono fun d st1 ω1 H1 x1 s1 q1 v r1 => ?_⟩
      obtain ⟨d2, e2, q2⟩ := Post.lift q1
      have q3 := q2 ω1 H1 .refl s1
      cases d <;> first | (cases e2; done) | (cases e2; first | (cases r1; exact q3 _ rfl) | (obtain ⟨rfl, _⟩ := r1; exact q3 _ rfl) | (obtain ⟨_, a, vs, rfl, _⟩ := r1; exact q3 _ rfl) | (obtain ⟨a, _, rfl⟩ := r1; exact q3 _ rfl) | (obtain ⟨a, rfl, _⟩ := r1; exact q3 _ rfl) | exact r1.elim)
    refine ⟨pe_imp (pe_cmp (pc_notN (hm X sc W a c h.2).1) (set_ok rfl)) key, pt_imp (pt_cmp (pc_notN (hm X sc W a c h.2).1) (set_ok rfl)) ?_⟩
    rintro σ H Q ⟨ω, ρ, st, hl, hs, hp⟩
    refine key σ H _ ⟨ω, ρ, st, hl, hs, hp.mono ?_⟩
    rintro d st' ω' H' x s ⟨b, rfl, q⟩ v r
    exact ⟨b, r, q⟩
  · rename_i a j jj p1 p2 p3 p4
    simp only [Bool.and_eq_true] at h
    cases o <;> first | (simp at h; done) | skip
    simp only [decide_eq_true_eq] at h
    obtain ⟨rfl, h2⟩ := h
    refine both_of (pe_imp (pe_back (hm X sc W a c h2).1) ?_) rfl
    rintro σ H Q ⟨ω, ρ, st, hl, hs, hp⟩
    unfold ev at hp
    refine ⟨ω, ρ, st, hl, hs, (Post.bind hp).mono fun d st1 ω1 H1 x1 s1 q1 v r1 => ?_⟩
    obtain ⟨d2, e2, q2⟩ := Post.lift q1
    cases d <;> first | (cases e2; done) | skip
    cases e2
    obtain ⟨ln, a2, vs, rfl, sq, rs⟩ := r1
    refine ⟨a2, vs, rfl, sq, fun p hp => ?_⟩
    exact q2 ω1 _ (.ofGrow s1 (same_new hp _)) (s1.grow (same_new hp _)) _ (rep_new_tup hp rs.reverse (by rw [List.length_reverse]; exact ln))
  · cases h
/-- min(xs, default=None), whole numbers -/
theorem minOf_int : ∀ (ys : List Int) (y : Int), (PySem.W.minOf y ys = y ∨ PySem.W.minOf y ys ∈ ys) ∧ PySem.W.minOf y ys ≤ y ∧ ∀ z ∈ ys, PySem.W.minOf y ys ≤ z
  | [], y => ⟨.inl rfl, Int.le_refl _, fun _ h => nomatch h⟩
  | x :: ys, y => by
    have e : PySem.W.minOf y (x :: ys) = PySem.W.minOf (if decide (x < y) = true then x else y) ys := rfl
    obtain ⟨a, b, c⟩ := minOf_int ys (if decide (x < y) = true then x else y)
    rw [e]
    by_cases h : x < y
    · rw [if_pos (decide_eq_true h)] at a b c ⊢
      refine ⟨.inr (a.elim (fun a => by rw [a]; exact List.mem_cons_self ..) fun a => List.mem_cons_of_mem _ a), by omega, fun z hz => ?_⟩
      rcases List.mem_cons.mp hz with rfl | hz
      · exact b
      · exact c z hz
    · rw [if_neg (by simpa using h)] at a b c ⊢
      refine ⟨a.imp id (List.mem_cons_of_mem _), b, fun z hz => ?_⟩
      rcases List.mem_cons.mp hz with rfl | hz
      · omega
      · exact c z hz
def rMinD (K : PySem.W.Frag) : List V → List V → Hp → VK → Prop := fun vs zs H Q => ∃ a ns, vs = [V.ref a] ∧ zs = [V.non] ∧ SqL K H a (ns.map V.int) ∧ (ns = [] → Q .non H) ∧ (∀ m ∈ ns, (∀ y ∈ ns, m ≤ y) → Q (.int m) H)
theorem cr_minD {X : Cx} (hc : X.calm = true) (hu : X.A.units + 65 < cLine) : CallRK X (.builtin "min") [Str.ofString "default"] (rMinD X.K) := by
  intro pins s σ H vs zs us ws Q I r rz h
  obtain ⟨a, ns, rfl, rfl, hs, q0, q⟩ := h
  obtain rfl := Vals.ref1 r
  obtain ⟨w1, rfl, e1⟩ := vals1 rz
  obtain rfl : w1 = Value.none := e1
  obtain ⟨its, rv, hl, _⟩ := I.list hs
  have ha : PySem.W.HoldAll (α := Int) s.heap its.toArray.toList ns := PySem.W.HoldAll.of_ints (vs := its) rv.ints
  refine PySem.W.min_list_datum_default (α := Int) (xs := ns) (I.ok.hd hc) hl.isList ha (by show X.A.units + 1 + 0 < cLine; omega) (fun e h' tk hk => ⟨.non, H, I.kept hk, rfl, q0 e⟩) fun y ys i v h' tk e hi hm hk => ?_
  obtain ⟨t, rfl⟩ := PySem.W.int_of_holds hm
  obtain ⟨m1, m2, m3⟩ := minOf_int ys y
  refine ⟨.int _, H, I.kept hk, ⟨t, rfl⟩, q _ ?_ fun z hz => ?_⟩
  · rw [e]
    rcases m1 with m1 | m1
    · rw [m1]; exact List.mem_cons_self ..
    · exact List.mem_cons_of_mem _ m1
  · rw [e] at hz
    rcases List.mem_cons.mp hz with rfl | hz
    · exact m2
    · exact m3 z hz
theorem boot_sorted' : bootBuiltins "sorted" = some (.builtin "sorted") := by decide +kernel
theorem boot_set' : bootBuiltins "set" = some (.type "set") := by decide +kernel
theorem boot_min5 : bootBuiltins "min" = some (.builtin "min") := PyProof.Rows.boot_min
theorem snd_minN (hm : SndE N G k C cls dp m) : SndE N G k C cls dp (.minN m) := by
  intro X sc W e c h
  unfold chkE at h
  split at h
  · rename_i x p1 a nm j p2 p3 p4
    simp only [Bool.and_eq_true, decide_eq_true_eq] at h
    obtain ⟨⟨⟨⟨rfl, h1⟩, rfl⟩, h3⟩, h4⟩ := h
    have F := fre_of c h1
    have A : PA X [a] (tCons (tE X.kw C dp W cls m) tNil) := pa_cons (hm X sc W a c h3).1 pa_nil (star_of h4 [] X.env)
    have Kw : PK X [⟨some (Str.ofString "default"), .Constant .none j p2, p3⟩] (tCons (tC .non) tNil) := pk_cons pe_non pk_nil
    refine both_of (pe_imp (pe_callBK (cr_minD (X := X) c.calm (units_of c)) F.g F.m boot_min5 A Kw F.n.n F.n.d (by rw [star_of h4 [] X.env]; rfl) (by rw [star_of h4 [] X.env]; rfl)) ?_) rfl
    rintro σ H Q ⟨ω, ρ, st, hl, hs, hp⟩
    unfold ev at hp
    refine ⟨ω, ρ, st, hl, hs, (Post.bind hp).mono fun d st1 ω1 H1 x1 s1 q1 v r1 => ?_⟩
    obtain ⟨z, e, q⟩ := Post.lift q1
    cases d <;> first | (cases e; done) | skip
    rename_i ds
    cases e1 : intsOf ds with
    | none => simp [o1, e1] at e
    | some ns =>
      simp only [o1, e1, Option.map] at e
      obtain ⟨l1, a1, vs, rfl, s1', w1, r1⟩ := r1
      have z' := reps_ints e1 r1
      subst z'
      refine ⟨a1, ns, rfl, rfl, SqL.of s1', fun hn => ?_, fun m hm hy => ?_⟩
      · rw [if_pos hn] at e
        cases e
        exact q ω1 H1 .refl s1 _ rfl
      · have hn : ns ≠ [] := List.ne_nil_of_mem hm
        rw [if_neg hn] at e
        cases e
        obtain ⟨h1, h2⟩ := TL.minL_mem hn
        have : m = minL ns := Int.le_antisymm (hy _ h1) (h2 m hm)
        rw [this]
        exact q ω1 H1 .refl s1 _ rfl
  · cases h
theorem snd_srt (hm : SndE N G k C cls dp m) : SndE N G k C cls dp (.srt m) := by
  intro X sc W e c h
  unfold chkE at h
  split at h
  · rename_i x p1 y p2 a p3 p4
    simp only [Bool.and_eq_true, decide_eq_true_eq] at h
    obtain ⟨⟨⟨⟨⟨rfl, h1⟩, rfl⟩, h2⟩, h3⟩, h4⟩ := h
    have F := fre_of c h1
    have F2 := fre_of c h2
    have A : PA X [a] (tCons (tE X.kw C dp W cls m) tNil) := pa_cons (hm X sc W a c h3).1 pa_nil (star_of h4 [] X.env)
    have B := pe_callTy (TStr.cr_setS (X := X) c.calm) F2.g F2.m boot_set' A F2.n.n F2.n.d (star_of h4 [] X.env) rfl (pos := p3) (p := p2)
    refine both_of (pe_imp (pe_callB (TStr.cr_sortS (X := X) c.calm) F.g F.m boot_sorted' (pa_cons B pa_nil rfl) F.n.n F.n.d rfl rfl) ?_) rfl
    rintro σ H Q ⟨ω, ρ, st, hl, hs, hp⟩
    unfold ev at hp
    refine ⟨ω, ρ, st, hl, hs, (Post.bind hp).mono fun d st1 ω1 H1 x1 s1 q1 v r1 => ?_⟩
    obtain ⟨z, e, q⟩ := Post.lift q1
    exact srt_of (X := X) s1.trk r1 e fun H' v' gr r => q ω1 H' (.ofGrow s1 gr) (s1.grow gr) v' r
  · cases h
end
end TL

namespace TL
open PySem L2 PyProof.Rows

mutual
theorem nk_depth : ∀ d : D, hsb d = true → (nk d).depth = d.py.depth
  | .non, _ => rfl
  | .int _, _ => rfl
  | .str _, _ => rfl
  | .tup ds, h => by
    simp only [hsb] at h
    simp only [nk, NestedKey.depth, D.py, PyData.depth]
    rw [nks_depth ds h]
  | .bl _, h => by cases h
  | .lst _, h => by cases h
  | .fls _, h => by cases h
  | .dic _, h => by cases h
  | .ref _, h => by cases h
  | .clo _ _, h => by cases h
  | .mlst _, h => by cases h
  | .mset _, h => by cases h
  | .mdic _, h => by cases h
  | .ins _ _, h => by cases h
theorem nks_depth : ∀ ds : List D, hsbs ds = true → NestedKey.depthAll (nks ds) = PyData.depthAll (pys ds)
  | [], _ => rfl
  | d :: ds, h => by
    simp only [hsbs, Bool.and_eq_true] at h
    simp only [nks, NestedKey.depthAll, pys, PyData.depthAll]
    rw [nk_depth d h.1, nks_depth ds h.2]
end
mutual
theorem nk_eqv : ∀ a b : D, hsb a = true → hsb b = true → PyData.eqv a.py b.py = NestedKey.beq (nk a) (nk b)
  | .non, b, _, h => by cases b <;> first | (cases h; done) | rfl
  | .int _, b, _, h => by cases b <;> first | (cases h; done) | (simp only [D.py, nk, PyData.eqv, NestedKey.beq]; apply Bool.eq_iff_iff.mpr; simp) | (simp [D.py, nk, PyData.eqv, NestedKey.beq])
  | .str _, b, _, h => by cases b <;> first | (cases h; done) | (simp only [D.py, nk, PyData.eqv, NestedKey.beq]; apply Bool.eq_iff_iff.mpr; simp) | (simp [D.py, nk, PyData.eqv, NestedKey.beq])
  | .tup as, b, h1, h => by
    cases b <;> first | (cases h; done) | (simp [D.py, nk, PyData.eqv, NestedKey.beq]; done) | skip
    rename_i bs
    simp only [hsb] at h1 h
    simp only [D.py, nk, PyData.eqv, NestedKey.beq]
    exact nks_eqv as bs h1 h
  | .bl _, _, h, _ => by cases h
  | .lst _, _, h, _ => by cases h
  | .fls _, _, h, _ => by cases h
  | .dic _, _, h, _ => by cases h
  | .ref _, _, h, _ => by cases h
  | .clo _ _, _, h, _ => by cases h
  | .mlst _, _, h, _ => by cases h
  | .mset _, _, h, _ => by cases h
  | .mdic _, _, h, _ => by cases h
  | .ins _ _, _, h, _ => by cases h
theorem nks_eqv : ∀ as bs : List D, hsbs as = true → hsbs bs = true → PyData.eqvAll (pys as) (pys bs) = NestedKey.beqAll (nks as) (nks bs)
  | [], [], _, _ => rfl
  | [], _ :: _, _, _ => rfl
  | _ :: _, [], _, _ => rfl
  | a :: as, b :: bs, h1, h2 => by
    simp only [hsbs, Bool.and_eq_true] at h1 h2
    simp only [pys, nks, PyData.eqvAll, NestedKey.beqAll]
    rw [nk_eqv a b h1.1 h2.1, nks_eqv as bs h1.2 h2.2]
end
theorem isKey_tup {d : D} (h : isKey d = true) : ∃ ds, d = .tup ds := by
  unfold isKey at h
  cases d <;> first | exact ⟨_, rfl⟩ | (simp at h)
theorem isKey_hsb {d : D} (h : isKey d = true) : hsb d = true ∧ (nk d).depth ≤ 8 := by
  unfold isKey at h
  simp only [Bool.and_eq_true, decide_eq_true_eq] at h
  exact ⟨h.1.2, by rw [nk_depth d h.1.2]; exact h.2⟩
section
variable {X : Cx} {pins : List (Addr × Obj)} {σ : L2.St} {H : Hp} {s : Shared} {ω : Wd}
mutual
theorem nested_of (I : Inv X pins σ H s) : ∀ (d : D) (v : V) (u : Value), hsb d = true → Rep X.kw ω H d v → RelV v u → NestedIs s.heap (nk d) u
  | .non, v, u, _, r, ru => by rw [show v = .non from r] at ru; cases (show u = Value.none from ru); exact .none
  | .int i, v, u, _, r, ru => by
    rw [show v = .int i from r] at ru
    obtain ⟨t, rfl⟩ := (show ∃ t, u = Value.int i t from ru)
    exact .int _ _
  | .str x, v, u, _, r, ru => by
    rw [show v = .str x from r.1] at ru
    obtain ⟨t, rfl⟩ := (show ∃ t, u = Value.str x t from ru)
    exact .text _ _
  | .tup ds, v, u, h, r, ru => by
    obtain ⟨_, a, vs, rfl, q, rs⟩ := r
    cases (show u = Value.ref a from ru)
    obtain ⟨its, rv, ⟨o, e1, e2, n, e3⟩, _⟩ := I.tuple q
    exact .tup e1 e2 e3 (nesteds_of I ds vs _ h rs (by simpa using rv))
  | .bl _, _, _, h, _, _ => by cases h
  | .lst _, _, _, h, _, _ => by cases h
  | .fls _, _, _, h, _, _ => by cases h
  | .dic _, _, _, h, _, _ => by cases h
  | .ref _, _, _, h, _, _ => by cases h
  | .clo _ _, _, _, h, _, _ => by cases h
  | .mlst _, _, _, h, _, _ => by cases h
  | .mset _, _, _, h, _, _ => by cases h
  | .mdic _, _, _, h, _, _ => by cases h
  | .ins _ _, _, _, h, _, _ => by cases h
theorem nesteds_of (I : Inv X pins σ H s) : ∀ (ds : List D) (vs : List V) (us : List Value), hsbs ds = true → Reps X.kw ω H ds vs → Vals vs us → NestedAll s.heap (nks ds) us
  | [], vs, us, _, r, ru => by
    rw [show vs = [] from r] at ru
    cases ru
    exact .nil
  | d :: ds, vs, us, h, r, ru => by
    obtain ⟨v, r', rfl, r1, r2⟩ := r
    simp only [hsbs, Bool.and_eq_true] at h
    cases ru with
    | cons p q => exact .cons (nested_of I d v _ h.1 r1 p) (nesteds_of I ds r' _ h.2 r2 q)
end
theorem key_is (I : Inv X pins σ H s) {d : D} {b : Addr} (h : isKey d = true) (r : Rep X.kw ω H d (.ref b)) : (nestedKind X.prog X.w).is s.heap (nk d) b :=
  ⟨nested_of I d (.ref b) (.ref b) (isKey_hsb h).1 r rfl, (isKey_hsb h).2⟩
/-- the dict, as the library tells it -/
def full (xs : List (NestedKey × Addr)) : List (NestedKey × Addr × Value) := xs.map fun x => (x.1, x.2, .bool true)
theorem full_entry {xs : List (NestedKey × Addr)} : (full xs).map (entryOfKey (nestedKind X.prog X.w)) = xs.map (fun x => (⟨x.1.hash X.w, .ref x.2, .bool true⟩ : DictEntry)) := by
  unfold full
  rw [List.map_map]
  rfl
theorem full_keys {xs : List (NestedKey × Addr)} : (full xs).map (·.1) = xs.map (·.1) := by
  unfold full
  rw [List.map_map]
  rfl
theorem keysR_is (I : Inv X pins σ H s) : ∀ {ds : List D} {xs : List (NestedKey × Addr)}, KeysR X.kw ω H ds xs → ∀ x ∈ full xs, (nestedKind X.prog X.w).is s.heap x.1 x.2.1
  | [], xs, h, x, hx => by
    rw [show xs = [] from h] at hx
    cases hx
  | d :: ds, xs, h, x, hx => by
    obtain ⟨b, r, rfl, i, h1, h2⟩ := h
    rcases List.mem_cons.mp (show x ∈ (nk d, b, Value.bool true) :: full r from hx) with rfl | hx
    · exact key_is I i h1
    · exact keysR_is I h2 x hx
theorem mset_dict (I : Inv X pins σ H s) {a : Addr} {ds : List D} {xs : List (NestedKey × Addr)} (e : H a = some (msetO X.w a xs)) (h : KeysR X.kw ω H ds xs) : (a == sysModules) = false ∧ s.heap.DictOfH (nestedKind X.prog X.w) a (full xs) := by
  obtain ⟨⟨hm, o, es, ep, h1, h2, h3, h4, h5⟩, _⟩ := (show ObjOk X.prog X.w H s.heap a (msetO X.w a xs) from I.hok a _ e)
  exact ⟨hm, o, es, ep, h1, h2, h3, by rw [full_entry]; exact h4, keysR_is I h, by rw [full_keys]; exact h5⟩
theorem keysR_len : ∀ {ds : List D} {xs : List (NestedKey × Addr)}, KeysR X.kw ω H ds xs → xs.length = ds.length
  | [], xs, h => by rw [show xs = [] from h]; rfl
  | d :: ds, xs, h => by
    obtain ⟨b, r, rfl, i, h1, h2⟩ := h
    rw [List.length_cons, List.length_cons, keysR_len h2]
theorem atKey_any {x : D} (hx : isKey x = true) : ∀ {ds : List D} {xs : List (NestedKey × Addr)}, KeysR X.kw ω H ds xs → (atKey (full xs) (nk x)).isSome = ds.any fun y => y.eqv x
  | [], xs, h => by rw [show xs = [] from h]; rfl
  | d :: ds, xs, h => by
    obtain ⟨b, r, rfl, i, h1, h2⟩ := h
    have ih := atKey_any hx h2
    have e : d.eqv x = NestedKey.beq (nk d) (nk x) := nk_eqv d x (isKey_hsb i).1 (isKey_hsb hx).1
    rw [List.any_cons, e, ← ih, ← NestedKey.decide_eq]
    show (atKey ((nk d, b, Value.bool true) :: full r) (nk x)).isSome = _
    unfold atKey
    rw [List.find?_cons]
    by_cases q : nk d = nk x
    · simp [q]
    · simp [q]
theorem mset_ok {P : Program} {w : World} {H' : Hp} {h' : Heap} {a : Addr} {xs : List (NestedKey × Addr)} (hm : (a == sysModules) = false) (d : h'.DictOfH (nestedKind P w) a (full xs)) : ObjOk P w H' h' a (msetO w a xs) := by
  obtain ⟨o, es, ep, h1, h2, h3, h4, _, h5⟩ := d
  refine ⟨⟨hm, o, es, ep, h1, h2, h3, ?_, ?_⟩, ⟨o, h1⟩, ?_⟩
  · rw [h4]
    unfold full
    rw [List.map_map]
    rfl
  · have : (full xs).map (·.1) = xs.map (·.1) := by
      unfold full
      rw [List.map_map]
      rfl
    rw [← this]
    exact h5
  · rintro h1 h2 ⟨z, o, es, ep, q1, q2⟩ k
    exact ⟨z, o, es, ep, k _ q1, q2⟩
/-- x in d -/
def rMset (K : KW) (neg : Bool) : R2 := fun x y H Q => ∃ (ω : Wd) (d : D) (ds : List D) (a b : Addr) (xs : List (NestedKey × Addr)), x = .ref b ∧ y = .ref a ∧ Rep K ω H d (.ref b) ∧ isKey d = true ∧ H a = some (msetO K.w a xs) ∧ KeysR K ω H ds xs ∧
  Q (.bl (if neg then !(ds.any fun y => y.eqv d) else ds.any fun y => y.eqv d)) H
theorem room_mset {A : Around} (hu : A.units + 65 < cLine) : (nestedKind X.prog X.w).room A.in1 := by
  show A.units + 1 + 8 < cLine
  omega
theorem op_inMset (hu : X.A.units + 65 < cLine) : OpR X (compareOp .In) (rMset X.kw false) := by
  intro pins s σ H x y v u Q I rx ry h
  obtain ⟨ω, d, ds, a, b, xs, rfl, rfl, rd, ik, ha, kr, q⟩ := h
  cases rx
  cases ry
  obtain ⟨hm, dd⟩ := mset_dict I ha kr
  refine wpAny_in_heap (room_mset hu) (key_is I ik rd) hm dd ?_
  rw [atKey_any ik kr]
  exact ⟨.bl _, H, I.tok _, rfl, q⟩
theorem op_notInMset (hu : X.A.units + 65 < cLine) : OpR X (compareOp .NotIn) (rMset X.kw true) := by
  intro pins s σ H x y v u Q I rx ry h
  obtain ⟨ω, d, ds, a, b, xs, rfl, rfl, rd, ik, ha, kr, q⟩ := h
  cases rx
  cases ry
  obtain ⟨hm, dd⟩ := mset_dict I ha kr
  refine wpAny_notIn_heap (room_mset hu) (key_is I ik rd) hm dd ?_
  rw [atKey_any ik kr]
  exact ⟨.bl _, H, I.tok _, rfl, q⟩
/-- d[x] = True -/
def tSetM (K : KW) : TSet := fun o i v H Q => ∃ (ω : Wd) (d : D) (ds : List D) (a b : Addr) (xs : List (NestedKey × Addr)), o = .ref a ∧ i = .ref b ∧ v = .bl true ∧ Rep K ω H d (.ref b) ∧ isKey d = true ∧ H a = some (msetO K.w a xs) ∧ KeysR K ω H ds xs ∧ ds.length < sizeLine ∧
  Q (upd H a (msetO K.w a (if (ds.any fun y => y.eqv d) = true then xs else xs ++ [(nk d, b)])))
theorem put_same {xs : List (NestedKey × Addr)} {k : NestedKey} : (full xs).map (putAt k (.bool true)) = full xs := by
  unfold full
  rw [List.map_map]
  refine List.map_congr_left fun x _ => ?_
  show putAt k (Value.bool true) (x.1, x.2, Value.bool true) = _
  unfold putAt
  split <;> rfl
theorem pset_mset (hu : X.A.units + 65 < cLine) : PSet X (tSetM X.kw) := by
  intro pins s σ H o i v ov iv u Q I ro ri rv h
  obtain ⟨ω, d, ds, a, b, xs, rfl, rfl, rfl, rd, ik, ha, kr, hl, q⟩ := h
  cases ro
  cases ri
  cases rv
  obtain ⟨hm, dd⟩ := mset_dict I ha kr
  have hz : (full xs).length ≤ sizeLine := by
    unfold full
    rw [List.length_map, keysR_len kr]
    exact Nat.le_of_lt hl
  have e : storedH (full xs) (nk d) b (.bool true) = full (if (ds.any fun y => y.eqv d) = true then xs else xs ++ [(nk d, b)]) := by
    unfold storedH
    rw [atKey_any ik kr]
    split
    · exact put_same
    · unfold full
      rw [List.map_append]
      rfl
  refine wpAny_setItem_heap (hsz := hz) (room_mset hu) (key_is I ik rd) dd fun h' dd' hs => ⟨_, ?_, q⟩
  rw [e] at dd'
  have he : ∃ q, h'.get? a = some q := let ⟨q, _, _, hq, _⟩ := dd'; ⟨q, hq⟩
  exact d_write I (by rw [ha]; exact True.intro) hs he (mset_ok hm dd')
theorem mset_empty {P : Program} {w : World} {H : Hp} (h : Heap) (hb : sysModules < h.objs.size) : ObjOk P w H (h.push { cls := .type "dict", data := .dict #[] }) h.objs.size (msetO w h.objs.size []) :=
  mset_ok (by
    rw [beq_eq_false_iff_ne]
    intro e
    rw [e] at hb
    exact Nat.lt_irrefl _ hb) (.new h)
/-- {k: True} -/
def tDispM (K : KW) (tk : TE) : TE := fun σ H Q => ∀ p, H p = none → tk σ (upd H p (msetO K.w p [])) fun x H1 => ∃ (ω : Wd) (d : D) (b : Addr), x = .ref b ∧ Rep K ω H1 d (.ref b) ∧ isKey d = true ∧ H1 p = some (msetO K.w p []) ∧ Q (.ref p) (upd H1 p (msetO K.w p [(nk d, b)]))
theorem pe_dispM {pos p2 : Pos} {j : Nat} {kx : Expr} {tk : TE} (hu : X.A.units + 65 < cLine) (hk : PE X kx tk) : PE X (.Dict [some kx] [.Constant (.bool true) j p2] pos) (tDispM X.kw tk) := by
  refine ⟨fun pins s σ H Q I q => ?_⟩
  have hn := I.hok.fresh (Nat.le_refl s.heap.objs.size)
  have I1 := I.laid (a := s.heap.objs.size) (o := msetO X.w s.heap.objs.size []) (h' := s.heap.push { cls := .type "dict", data := .dict #[] }) (t' := s.toks) (fun _ _ q => Heap.get?_push_of_some _ q) (Nat.le_refl _) (mset_empty s.heap I.big)
  have hshape := zip_pairTrees [some kx] [.Constant (.bool true) j p2] X.env pos rfl rfl
  rw [arm_eval_Dict, hshape, dictDisplay_pairs (pairTrees [some kx] [.Constant (.bool true) j p2] X.env pos) (by simp [pairTrees]) (by simp [pairTrees])]
  refine wpAny_bind (wpAny_standAt (wpAny_bind (wpAny_subDictH (knd := nestedKind X.prog X.w) (Q := fun d s' => wpAny (model X.prog X.w) X.A (pure (Value.ref d)) (EP X pins σ Q) X.xe s') (by show X.A.units + 8 < cLine; omega) (by simp [pairTrees]) ?_)))
  refine pairTrees_cons_walk (thn (hk.run pins _ σ _ _ I1 (q _ hn)) fun v s1 ⟨x, H1, I2, rx, q1⟩ => Constant_bool (pairTrees_nil_walk ?_))
  obtain ⟨ω, d, b, rfl, rd, ik, hp, q2⟩ := q1
  cases rx
  obtain ⟨hm, dd⟩ := mset_dict (ω := ω) (ds := []) I2 hp rfl
  refine ⟨[(nk d, b, .bool true)], ⟨rfl, rfl, key_is I2 ik rd, trivial⟩, dd, fun h' tk dd' hs => wpAny_pure ⟨.ref s.heap.objs.size, _, ?_, rfl, q2⟩⟩
  have he : ∃ q, h'.get? s.heap.objs.size = some q := let ⟨q, _, _, hq, _⟩ := dd'; ⟨q, hq⟩
  exact d_write I2 (by rw [hp]; exact True.intro) hs he (mset_ok hm dd')
end
end TL

namespace TL
open PySem L2 PyProof.Rows
section
variable {X : Cx} {N : List Str} {G : GT} {k : Nat} {C : Cal} {cls : Nat → Value} {dp : Nat} {sc : Scope} {W : WX} {e : Expr} {es : List Expr} {m n l a b : E} {ms : List E}
theorem op_bin {o : O2} {op : Operator} (h : binOf o = some op) : OpR X (binaryOp op) (rB X.kw (o2 o)) := by
  cases o <;> cases h
  · exact op_dAdd
  · exact op_dSub
  · exact op_dMul
  · exact op_dDiv
  · exact op_dMod
theorem op_cmp {o : O2} {op : CmpOp} (c : Cok X G k C cls N sc W) (h : cmpOf o = some op) : OpR X (compareOp op) (rB X.kw (o2 o)) := by
  have u := units_of c
  cases o <;> cases h
  · exact op_dEq (by omega)
  · exact op_dNe (by omega)
  · exact op_dLt
  · exact op_dLe
  · exact op_dGt
  · exact op_dGe
  · exact op_dIn u
  · exact op_dNotIn u
  · exact op_dIsB
  · exact op_dIsNotB
theorem op_ix (hu : X.A.units + 65 < cLine) : IxR X (rB X.kw (o2 .ix)) := op_dIx hu
/-- two expressions, an operation of their values -/
theorem tOp_of {o : O2} {σ : L2.St} {H : Hp} {Q : VK} (h : tE X.kw C dp W cls (.o2 o m n) σ H Q) : tOp (rB X.kw (o2 o)) (tE X.kw C dp W cls m) (tE X.kw C dp W cls n) σ H Q := by
  obtain ⟨ω, ρ, st, hl, hs, hp⟩ := h
  unfold ev at hp
  refine ⟨ω, ρ, st, hl, hs, (Post.bind hp).mono fun x st1 ω1 H1 x1 s1 q1 v r1 => ⟨ω1, ρ, st1, hl.ext x1, s1, (Post.bind q1).mono fun y st2 ω2 H2 x2 s2 q2 w r2 => ?_⟩⟩
  exact rB_of s2 (r1.ext x2) r2 q2 fun d ω' H' x' s' P => P
theorem tTest_of {t : TE} {σ : L2.St} {H : Hp} {Q : Bool → Hp → Prop} (h : tT X.kw C dp W cls m σ H Q) (i : ∀ σ H Q, tE X.kw C dp W cls m σ H Q → t σ H Q) : t σ H fun x H' => ∃ k, x = .bl k ∧ Q k H' := by
  refine i σ H _ ?_
  obtain ⟨ω, ρ, st, hl, hs, hp⟩ := h
  refine ⟨ω, ρ, st, hl, hs, hp.mono ?_⟩
  rintro d st' ω' H' x s ⟨b, rfl, q⟩ v r
  exact ⟨b, r, q⟩
theorem boot_max' : bootBuiltins "max" = some (.builtin "max") := PyProof.Rows.boot_max
theorem boot_min' : bootBuiltins "min" = some (.builtin "min") := PyProof.Rows.boot_min
theorem snd_o2 {o : O2} (hm : SndE N G k C cls dp m) (hn : SndE N G k C cls dp n) : SndE N G k C cls dp (.o2 o m n) := by
  intro X sc W e c h
  unfold chkE at h
  split at h
  · simp only [Bool.and_eq_true, decide_eq_true_eq] at h
    exact both_of (pe_imp (pe_op (op_bin h.1.1) (hm X sc W _ c h.1.2).1 (hn X sc W _ c h.2).1) fun σ H Q q => tOp_of q) rfl
  · simp only [Bool.and_eq_true, decide_eq_true_eq] at h
    have A := (hm X sc W _ c h.1.2).1
    have B := (hn X sc W _ c h.2).1
    exact ⟨pe_imp (pe_cmpR (op_cmp c h.1.1.1) A B (set_ok h.1.1.2)) fun σ H Q q => tOp_of q, pt_imp (pt_cmpR (op_cmp c h.1.1.1) A B (set_ok h.1.1.2)) fun σ H Q q => tTest_of q fun σ H Q => tOp_of⟩
  · simp only [Bool.and_eq_true, decide_eq_true_eq] at h
    obtain ⟨⟨⟨h1, h2⟩, h3⟩, h4⟩ := h
    cases o <;> first | (simp at h1; done) | skip
    exact both_of (pe_imp (pe_ix (op_ix (units_of c)) (hm X sc W _ c h3).1 (hn X sc W _ c h4).1 (slice_ok h2)) fun σ H Q q => tOp_of q) rfl
  · rename_i x p1 a b p2
    simp only [Bool.and_eq_true, decide_eq_true_eq] at h
    obtain ⟨⟨⟨⟨⟨h1, h2⟩, h3⟩, h4⟩, h5⟩, h6⟩ := h
    have F := fre_of c h2
    have P : PA X [a, b] (tCons (tE X.kw C dp W cls m) (tCons (tE X.kw C dp W cls n) tNil)) := pa_cons (hm X sc W _ c h3).1 (pa_cons (hn X sc W _ c h5).1 pa_nil (star_of h6 [] X.env)) (star_of h4 _ X.env)
    have sb : (backTo p2 (starEach [b] X.env)).any (·.1) = false := stars_of (by rw [List.all_cons, h6]; rfl)
    have fin : ∀ σ H Q, tE X.kw C dp W cls (.o2 o m n) σ H Q → tCB (rC2 X.kw (o2 o)) (tCons (tE X.kw C dp W cls m) (tCons (tE X.kw C dp W cls n) tNil)) σ H Q := by
      rintro σ H Q ⟨ω, ρ, st, hl, hs, hp⟩
      unfold ev at hp
      refine ⟨ω, ρ, st, hl, hs, (Post.bind hp).mono fun x st1 ω1 H1 x1 s1 q1 v r1 => ⟨ω1, ρ, st1, hl.ext x1, s1, (Post.bind q1).mono fun y st2 ω2 H2 x2 s2 q2 w r2 => ?_⟩⟩
      obtain ⟨d, e, q⟩ := Post.lift q2
      exact ⟨ω2, x, y, d, s2.trk, ⟨v, _, rfl, r1.ext x2, w, _, rfl, r2, rfl⟩, e, fun H' v' gr r => q ω2 H' (.ofGrow s2 gr) (s2.grow gr) v' r⟩
    cases o <;> first | (simp [o2Call] at h1; done) | skip
    · simp only [o2Call, decide_eq_true_eq] at h1
      subst h1
      exact both_of (pe_imp (pe_callB (cr_dmax2 c.calm) F.g F.m boot_max' P F.n.n F.n.d (star_of h4 _ X.env) sb) fin) rfl
    · simp only [o2Call, decide_eq_true_eq] at h1
      subst h1
      exact both_of (pe_imp (pe_callB (cr_dmin2 c.calm) F.g F.m boot_min' P F.n.n F.n.d (star_of h4 _ X.env) sb) fin) rfl
  · cases h
theorem snd_sm {o : O2} (hm : SndE N G k C cls dp m) (hn : SndE N G k C cls dp n) : SndE N G k C cls dp (.sm o m n) := by
  intro X sc W e c h
  unfold chkE at h
  split at h
  · rename_i a x apos b pos
    simp only [Bool.and_eq_true] at h
    obtain ⟨⟨⟨⟨⟨h1, h2⟩, h3⟩, h4⟩, h5⟩, h6⟩ := h
    have P : PA X [b] (tCons (tE X.kw C dp W cls n) tNil) := pa_cons (hn X sc W _ c h5).1 pa_nil (star_of h6 [] X.env)
    have few : ((backTo pos (starEach [b] X.env)).all (fun x => !x.1) && (backToKw pos (keywordEach [] X.env)).all (fun x => x.1.isSome)
      && decide (([b] : List Expr).length + ([] : List Keyword).length + (if ([] : List Keyword).isEmpty then 0 else 1) < 30)) = true := by
      rw [star_of h6 [] X.env]; rfl
    have fin : ∀ σ H Q, tE X.kw C dp W cls (.sm o m n) σ H Q → tBM X.kw "str" (rM X.kw (o2 o)) (tE X.kw C dp W cls m) (tCons (tE X.kw C dp W cls n) tNil) σ H Q := by
      rintro σ H Q ⟨ω, ρ, st, hl, hs, hp⟩
      unfold ev at hp
      refine ⟨ω, ρ, st, hl, hs, (Post.bind hp).mono fun x st1 ω1 H1 x1 s1 q1 v r1 => ?_⟩
      cases x <;> first | exact q1.elim | skip
      rename_i z
      have ev' : v = .str z := r1.1
      refine ⟨by rw [ev']; exact rfl, ω1, ρ, st1, hl.ext x1, s1, (Post.bind q1).mono fun y st2 ω2 H2 x2 s2 q2 w r2 => ?_⟩
      obtain ⟨d, e, q⟩ := Post.lift q2
      exact ⟨ω2, _, y, d, s2.trk, r1.ext x2, ⟨w, _, rfl, r2, rfl⟩, e, fun H' v' gr r => q ω2 H' (.ofGrow s2 gr) (s2.grow gr) v' r⟩
    cases o <;> first | (simp [o2Meth] at h1; done) | skip
    · simp only [o2Meth, decide_eq_true_eq] at h1
      subst h1
      exact both_of (pe_imp (pe_bm PySem.F.plainAttrs_str PySem.F.slot_str_join PySem.F.type_str_join mt_dJoin (hm X sc W _ c h4).1 P (attr_ok h2 _ _) few h3 (star_of h6 [] X.env) rfl) fin) rfl
    · simp only [o2Meth, decide_eq_true_eq] at h1
      subst h1
      exact both_of (pe_imp (pe_bm PySem.F.plainAttrs_str PySem.F.slot_str_split PySem.F.type_str_split mt_dSplit (hm X sc W _ c h4).1 P (attr_ok h2 _ _) few h3 (star_of h6 [] X.env) rfl) fin) rfl
  · cases h
theorem snd_lm {o : O2} (hm : SndE N G k C cls dp m) (hn : SndE N G k C cls dp n) : SndE N G k C cls dp (.lm o m n) := by
  intro X sc W e c h
  unfold chkE at h
  split at h
  · rename_i a x apos b pos
    simp only [Bool.and_eq_true] at h
    obtain ⟨⟨⟨⟨⟨h1, h2⟩, h3⟩, h4⟩, h5⟩, h6⟩ := h
    have P : PA X [b] (tCons (tE X.kw C dp W cls n) tNil) := pa_cons (hn X sc W _ c h5).1 pa_nil (star_of h6 [] X.env)
    have few : ((backTo pos (starEach [b] X.env)).all (fun x => !x.1) && (backToKw pos (keywordEach [] X.env)).all (fun x => x.1.isSome)
      && decide (([b] : List Expr).length + ([] : List Keyword).length + (if ([] : List Keyword).isEmpty then 0 else 1) < 30)) = true := by
      rw [star_of h6 [] X.env]; rfl
    have fin : ∀ σ H Q, tE X.kw C dp W cls (.lm o m n) σ H Q → tBM X.kw "list" (rM X.kw (o2 o)) (tE X.kw C dp W cls m) (tCons (tE X.kw C dp W cls n) tNil) σ H Q := by
      rintro σ H Q ⟨ω, ρ, st, hl, hs, hp⟩
      unfold ev at hp
      refine ⟨ω, ρ, st, hl, hs, (Post.bind hp).mono fun x st1 ω1 H1 x1 s1 q1 v r1 => ?_⟩
      cases x <;> first | exact q1.elim | skip
      rename_i z
      have r1' := r1
      obtain ⟨_, ad, vs, rfl, sq, wr, rs⟩ := r1'
      refine ⟨.inl ⟨rfl, _, SqL.of sq⟩, ω1, ρ, st1, hl.ext x1, s1, (Post.bind q1).mono fun y st2 ω2 H2 x2 s2 q2 w r2 => ?_⟩
      obtain ⟨d, e, q⟩ := Post.lift q2
      exact ⟨ω2, _, y, d, s2.trk, r1.ext x2, ⟨w, _, rfl, r2, rfl⟩, e, fun H' v' gr r => q ω2 H' (.ofGrow s2 gr) (s2.grow gr) v' r⟩
    have u := units_of c
    cases o <;> first | (simp [o2LMeth] at h1; done) | skip
    · simp only [o2LMeth, decide_eq_true_eq] at h1
      subst h1
      exact both_of (pe_imp (pe_bm PySem.F.plainAttrs_list PySem.F.slot_list_index PySem.F.type_list_index (mt_dIndex u) (hm X sc W _ c h4).1 P (attr_ok h2 _ _) few h3 (star_of h6 [] X.env) rfl) fin) rfl
  · cases h
theorem snd_chain {o o' : O2} (hm : SndE N G k C cls dp m) (hn : SndE N G k C cls dp n) (hl : SndE N G k C cls dp l) : SndE N G k C cls dp (.chain o o' m n l) := by
  intro X sc W e c h
  unfold chkE at h
  split at h
  · rename_i a op op' b c' pos
    simp only [Bool.and_eq_true, decide_eq_true_eq] at h
    obtain ⟨⟨⟨⟨⟨⟨h1, h2⟩, h3⟩, h4⟩, h5⟩, h6⟩, h7⟩ := h
    have A := (hm X sc W _ c h5).1
    have B := (hn X sc W _ c h6).1
    have D := (hl X sc W _ c h7).1
    have lm : lastMarks [op, op'] [b, c'] = false := set_ok h4
    have key : ∀ σ H Q, tE X.kw C dp W cls (.chain o o' m n l) σ H Q → tChain (rB X.kw (o2 o)) (rB X.kw (o2 o')) (tE X.kw C dp W cls m) (tE X.kw C dp W cls n) (tE X.kw C dp W cls l) σ H Q := by
      rintro σ H Q ⟨ω, ρ, st, hl, hs, hp⟩
      unfold ev at hp
      refine ⟨ω, ρ, st, hl, hs, (Post.bind hp).mono fun x st1 ω1 H1 x1 s1 q1 v r1 => ⟨ω1, ρ, st1, hl.ext x1, s1, (Post.bind q1).mono fun y st2 ω2 H2 x2 s2 q2 w r2 => ?_⟩⟩
      unfold R.bool at q2
      refine rB_of s2 (r1.ext x2) r2 (Post.bind q2) ?_
      intro d ω3 H3 x3 s3 q3 z rz
      cases d <;> first | exact q3.elim | skip
      rename_i kk
      refine ⟨kk, rz, ?_⟩
      cases kk with
      | true =>
        rw [if_pos rfl]
        refine ⟨ω3, ρ, st2, (hl.ext x1).ext (x2.trans x3), s3, (Post.bind q3).mono fun u st4 ω4 H4 x4 s4 q4 t r4 => ?_⟩
        exact rB_of s4 (r2.ext (x3.trans x4)) r4 q4 fun d ω' H' x' s' P => P
      | false =>
        rw [if_neg Bool.false_ne_true]
        exact q3 ω3 H3 .refl s3 _ rfl
    exact ⟨pe_imp (pe_chain (op_cmp c h1) (op_cmp c h2) A B D lm) key, pt_imp (pt_chain (op_cmp c h1) (op_cmp c h2) A B D lm) fun σ H Q q => tTest_of q key⟩
  · cases h

theorem Post.bool {σ : L2.St} {ω : Wd} {H : Hp} {K : KW} {r : R D} {f : Bool → Sto → R D} {P : D → Sto → Wd → Hp → Prop} (h : Post K dp W cls σ ω H (r.bool f) P) :
    Post K dp W cls σ ω H r fun d st1 ω1 H1 => ∃ b, d = .bl b ∧ Post K dp W cls σ ω1 H1 (f b st1) P := by
  unfold R.bool at h
  refine (Post.bind h).mono ?_
  intro d st1 ω1 H1 x s q
  cases d <;> first | exact q.elim | skip
  exact ⟨_, rfl, q⟩
theorem pw_of {f : Env → Sto → R D} {pos : Pos} {op : BoolOp} (h : PT X e (tTf X.kw dp W cls f)) (hw : ∀ {t : TT}, PT X e t → PW X (.BoolOp op [e] pos) t) : PW X (.BoolOp op [e] pos) (tTf X.kw dp W cls f) := hw h
theorem snd_and (hm : ∀ m ∈ ms, SndE N G k C cls dp m) : ∀ (es : List Expr) (pos : Pos), Cok X G k C cls N sc W → chkEs N G ms sc es = true → es ≠ [] →
    PE X (.BoolOp .And es pos) (tEf X.kw dp W cls fun ρ st => evAnd C ms ρ st) ∧ PW X (.BoolOp .And es pos) (tTf X.kw dp W cls fun ρ st => evAnd C ms ρ st) := by
  induction ms with
  | nil =>
    intro es pos c h n
    unfold chkEs at h
    exact absurd (List.isEmpty_iff.mp h) n
  | cons m ms ih =>
    intro es pos c h n
    unfold chkEs at h
    cases es with
    | nil => cases h
    | cons e es =>
      simp only [Bool.and_eq_true] at h
      obtain ⟨A, B⟩ := hm m List.mem_cons_self X sc W e c h.1.1
      cases ms with
      | nil =>
        have h2 := h.2
        unfold chkEs at h2
        have e1 := List.isEmpty_iff.mp h2
        subst e1
        refine ⟨pe_imp (pe_one A) ?_, ?_⟩
        · rintro σ H Q ⟨ω, ρ, st, hl, hs, hp⟩
          unfold evAnd at hp
          exact ⟨ω, ρ, st, hl, hs, hp⟩
        · refine ⟨fun whole pins s σ H Q I q => (pw_and1 B).run whole pins s σ H Q I ?_⟩
          obtain ⟨ω, ρ, st, hl, hs, hp⟩ := q
          unfold evAnd at hp
          exact ⟨ω, ρ, st, hl, hs, hp⟩
      | cons m2 ms =>
        cases es with
        | nil =>
          have h2 := h.2
          unfold chkEs at h2
          cases h2
        | cons e2 es =>
          obtain ⟨A2, B2⟩ := ih (fun m h => hm m (List.mem_cons_of_mem _ h)) (e2 :: es) pos c h.2 (by simp)
          refine ⟨pe_imp (pe_and A A2) ?_, ?_⟩
          · rintro σ H Q ⟨ω, ρ, st, hl, hs, hp⟩
            unfold evAnd at hp
            refine ⟨ω, ρ, st, hl, hs, (Post.bool hp).mono ?_⟩
            rintro d st1 ω1 H1 x1 s1 ⟨b, rfl, q1⟩ v r
            refine ⟨b, r, ?_⟩
            cases b with
            | true => exact ⟨ω1, ρ, st1, hl.ext x1, s1, q1⟩
            | false => exact q1 ω1 H1 .refl s1 _ rfl
          · refine ⟨fun whole pins s σ H Q I q => (pw_and B B2).run whole pins s σ H Q I ?_⟩
            obtain ⟨ω, ρ, st, hl, hs, hp⟩ := q
            unfold evAnd at hp
            refine ⟨ω, ρ, st, hl, hs, (Post.bool hp).mono ?_⟩
            rintro d st1 ω1 H1 x1 s1 ⟨b, rfl, q1⟩
            refine ⟨b, rfl, ?_⟩
            cases b with
            | true => exact ⟨ω1, ρ, st1, hl.ext x1, s1, q1⟩
            | false =>
              obtain ⟨b', e', q'⟩ := q1 ω1 H1 .refl s1
              cases e'
              exact q'
theorem snd_or (hm : ∀ m ∈ ms, SndE N G k C cls dp m) : ∀ (es : List Expr) (pos : Pos), Cok X G k C cls N sc W → chkEs N G ms sc es = true → es ≠ [] →
    PE X (.BoolOp .Or es pos) (tEf X.kw dp W cls fun ρ st => evOr C ms ρ st) ∧ PW X (.BoolOp .Or es pos) (tTf X.kw dp W cls fun ρ st => evOr C ms ρ st) := by
  induction ms with
  | nil =>
    intro es pos c h n
    unfold chkEs at h
    exact absurd (List.isEmpty_iff.mp h) n
  | cons m ms ih =>
    intro es pos c h n
    unfold chkEs at h
    cases es with
    | nil => cases h
    | cons e es =>
      simp only [Bool.and_eq_true] at h
      obtain ⟨A, B⟩ := hm m List.mem_cons_self X sc W e c h.1.1
      cases ms with
      | nil =>
        have h2 := h.2
        unfold chkEs at h2
        have e1 := List.isEmpty_iff.mp h2
        subst e1
        refine ⟨pe_imp (pe_one A) ?_, ?_⟩
        · rintro σ H Q ⟨ω, ρ, st, hl, hs, hp⟩
          unfold evOr at hp
          exact ⟨ω, ρ, st, hl, hs, hp⟩
        · refine ⟨fun whole pins s σ H Q I q => (pw_or1 B).run whole pins s σ H Q I ?_⟩
          obtain ⟨ω, ρ, st, hl, hs, hp⟩ := q
          unfold evOr at hp
          exact ⟨ω, ρ, st, hl, hs, hp⟩
      | cons m2 ms =>
        cases es with
        | nil =>
          have h2 := h.2
          unfold chkEs at h2
          cases h2
        | cons e2 es =>
          obtain ⟨A2, B2⟩ := ih (fun m h => hm m (List.mem_cons_of_mem _ h)) (e2 :: es) pos c h.2 (by simp)
          refine ⟨pe_imp (pe_or A A2) ?_, ?_⟩
          · rintro σ H Q ⟨ω, ρ, st, hl, hs, hp⟩
            unfold evOr at hp
            refine ⟨ω, ρ, st, hl, hs, (Post.bool hp).mono ?_⟩
            rintro d st1 ω1 H1 x1 s1 ⟨b, rfl, q1⟩ v r
            refine ⟨b, r, ?_⟩
            cases b with
            | false => exact ⟨ω1, ρ, st1, hl.ext x1, s1, q1⟩
            | true => exact q1 ω1 H1 .refl s1 _ rfl
          · refine ⟨fun whole pins s σ H Q I q => (pw_or B B2).run whole pins s σ H Q I ?_⟩
            obtain ⟨ω, ρ, st, hl, hs, hp⟩ := q
            unfold evOr at hp
            refine ⟨ω, ρ, st, hl, hs, (Post.bool hp).mono ?_⟩
            rintro d st1 ω1 H1 x1 s1 ⟨b, rfl, q1⟩
            refine ⟨b, rfl, ?_⟩
            cases b with
            | false => exact ⟨ω1, ρ, st1, hl.ext x1, s1, q1⟩
            | true =>
              obtain ⟨b', e', q'⟩ := q1 ω1 H1 .refl s1
              cases e'
              exact q'
theorem snd_andE (hm : ∀ m ∈ ms, SndE N G k C cls dp m) : SndE N G k C cls dp (.and ms) := by
  intro X sc W e c h
  unfold chkE at h
  split at h
  · simp only [Bool.and_eq_true] at h
    obtain ⟨A, B⟩ := snd_and hm _ _ c h.1 (fun z => by rw [z] at h; simp at h)
    refine ⟨pe_imp A ?_, pt_imp B.pt ?_⟩
    · rintro σ H Q ⟨ω, ρ, st, hl, hs, hp⟩
      unfold ev at hp
      exact ⟨ω, ρ, st, hl, hs, hp⟩
    · rintro σ H Q ⟨ω, ρ, st, hl, hs, hp⟩
      unfold ev at hp
      exact ⟨ω, ρ, st, hl, hs, hp⟩
  · cases h
theorem snd_orE (hm : ∀ m ∈ ms, SndE N G k C cls dp m) : SndE N G k C cls dp (.or ms) := by
  intro X sc W e c h
  unfold chkE at h
  split at h
  · simp only [Bool.and_eq_true] at h
    obtain ⟨A, B⟩ := snd_or hm _ _ c h.1 (fun z => by rw [z] at h; simp at h)
    refine ⟨pe_imp A ?_, pt_imp B.pt ?_⟩
    · rintro σ H Q ⟨ω, ρ, st, hl, hs, hp⟩
      unfold ev at hp
      exact ⟨ω, ρ, st, hl, hs, hp⟩
    · rintro σ H Q ⟨ω, ρ, st, hl, hs, hp⟩
      unfold ev at hp
      exact ⟨ω, ρ, st, hl, hs, hp⟩
  · cases h
theorem snd_not (hm : SndE N G k C cls dp m) : SndE N G k C cls dp (.not m) := by
  intro X sc W e c h
  unfold chkE at h
  split at h
  · obtain ⟨A, B⟩ := hm X sc W _ c h
    refine ⟨pe_imp (pe_not A) ?_, pt_imp (pt_not B) ?_⟩
    · rintro σ H Q ⟨ω, ρ, st, hl, hs, hp⟩
      unfold ev at hp
      refine ⟨ω, ρ, st, hl, hs, (Post.bool hp).mono ?_⟩
      rintro d st1 ω1 H1 x1 s1 ⟨b, rfl, q1⟩ v r
      exact ⟨b, r, q1 ω1 H1 .refl s1 _ rfl⟩
    · rintro σ H Q ⟨ω, ρ, st, hl, hs, hp⟩
      unfold ev at hp
      refine ⟨ω, ρ, st, hl, hs, (Post.bool hp).mono ?_⟩
      rintro d st1 ω1 H1 x1 s1 ⟨b, rfl, q1⟩
      obtain ⟨b', e', q'⟩ := q1 ω1 H1 .refl s1
      cases e'
      exact ⟨b, rfl, q'⟩
  · cases h
theorem isTrue_ife {f : Expr} {pos : Pos} {tc ta tb : TT} {a b : Expr} (hc : PT X f tc) (ha : PT X a ta) (hb : PT X b tb) : PT X (.IfExp f a b pos) (fun σ H Q => tc σ H fun d H1 => if d = true then ta σ H1 Q else tb σ H1 Q) := by
  refine ⟨fun pins s σ H Q I h => ?_⟩
  show wpAny _ _ (do if ← isTrue f X.env (eval f X.env) then isTrue a X.env (eval a X.env) else isTrue b X.env (eval b X.env)) _ _ _
  refine wpAny_bind (thn (hc.run pins s σ H _ I h) fun d s1 ⟨H1, I1, q1⟩ => ?_)
  cases d with
  | true =>
    rw [if_pos rfl]
    exact ha.run pins s1 σ H1 Q I1 q1
  | false =>
    rw [if_neg Bool.false_ne_true]
    exact hb.run pins s1 σ H1 Q I1 q1
theorem snd_ife (hm : SndE N G k C cls dp m) (hn : SndE N G k C cls dp n) (hl : SndE N G k C cls dp l) : SndE N G k C cls dp (.ife m n l) := by
  intro X sc W e c h
  unfold chkE at h
  split at h
  · simp only [Bool.and_eq_true] at h
    obtain ⟨A, B⟩ := hm X sc W _ c h.1.1
    obtain ⟨A1, B1⟩ := hn X sc W _ c h.1.2
    obtain ⟨A2, B2⟩ := hl X sc W _ c h.2
    refine ⟨pe_imp (pe_ifExp B A1 A2) ?_, pt_imp (isTrue_ife B B1 B2) ?_⟩
    · rintro σ H Q ⟨ω, ρ, st, hl, hs, hp⟩
      unfold ev at hp
      refine ⟨ω, ρ, st, hl, hs, (Post.bool hp).mono ?_⟩
      rintro d st1 ω1 H1 x1 s1 ⟨b, rfl, q1⟩
      refine ⟨b, rfl, ?_⟩
      cases b with
      | true => exact ⟨ω1, ρ, st1, hl.ext x1, s1, q1⟩
      | false => exact ⟨ω1, ρ, st1, hl.ext x1, s1, q1⟩
    · rintro σ H Q ⟨ω, ρ, st, hl, hs, hp⟩
      unfold ev at hp
      refine ⟨ω, ρ, st, hl, hs, (Post.bool hp).mono ?_⟩
      rintro d st1 ω1 H1 x1 s1 ⟨b, rfl, q1⟩
      refine ⟨b, rfl, ?_⟩
      cases b with
      | true => exact ⟨ω1, ρ, st1, hl.ext x1, s1, q1⟩
      | false => exact ⟨ω1, ρ, st1, hl.ext x1, s1, q1⟩
  · cases h

theorem snd_call {f : Nat} (hm : ∀ m ∈ ms, SndE N G k C cls dp m) : SndE N G k C cls dp (.call f ms) := by
  intro X sc W e c h
  unfold chkE at h
  split at h
  · rename_i x p es pos
    simp only [Bool.and_eq_true, decide_eq_true_eq] at h
    obtain ⟨⟨⟨⟨⟨h1, h2⟩, h3⟩, h4⟩, h5⟩, h6⟩ := h
    obtain ⟨A, B⟩ := snd_es hm X sc W es c h5
    obtain ⟨fa, fd, ps, F, hmg, kp, hb⟩ := c.fns f x h1 h6
    have nm := nameOk_of h3
    cases es with
    | nil => simp at h4
    | cons e es =>
      rw [List.all_cons, Bool.and_eq_true] at B
      refine both_of (pe_imp (pe_callS F c.room (glb_of c.hsc h2) hmg kp hb (fun σ => passAt c.tk σ) A nm.d (star_of B.1 es X.env) (stars_of B.2)) ?_) rfl
      rintro σ H Q ⟨ω, ρ, st, hl, hs, hp⟩
      unfold ev at hp
      refine ⟨ω, ρ, st, hl, hs, (Post.bind hp).mono fun ds st1 ω1 H1 x1 s1 q1 vs r1 => ?_⟩
      refine ⟨ω1, st1, ds, dp + 1, s1, r1, ?_⟩
      revert q1
      cases C f ds st1 with
      | ok d st2 => exact fun q1 ω2 v H2 x2 s2 r2 => q1 ω2 H2 x2 s2 v r2
      | exc cc st2 => exact fun q1 ω2 H2 x2 s2 => q1 ω2 H2 x2 s2
      | fail => exact fun q1 => q1
  · cases h
end
end TL

namespace TL
open PySem L2 PyProof.Rows
section
variable {X : Cx} {N : List Str} {G : GT} {k : Nat} {C : Cal} {cls : Nat → Value} {dp : Nat} {sc : Scope} {W : WX} {e : Expr} {es : List Expr} {m n l a b : E} {ms : List E}
theorem cut_reps {K : KW} {ω : Wd} {H : Hp} {ds : List D} {vs : List V} (r : Reps K ω H ds vs) (lo hi : Option Int) : Reps K ω H (cutD ds lo hi) (cutV vs lo hi) := by
  unfold cutD cutV
  rw [r.length]
  exact Reps.take _ (Reps.drop _ r)
theorem cutD_le {α : Type} (xs : List α) (lo hi : Option Int) : (cutD xs lo hi).length ≤ xs.length := by
  unfold cutD
  rw [List.length_take, List.length_drop]
  omega
theorem cutD_whole {α : Type} {xs : List α} {lo hi : Option Int} (h : HT.sIx xs.length 0 lo = 0 ∧ HT.sIx xs.length xs.length hi = xs.length) : cutD xs lo hi = xs := by
  unfold cutD
  rw [h.1, h.2]
  simp
theorem sl_dCut : SlR X (fun x lo hi H Q => ∃ (ω : Wd) (a d : D), (∀ a, ω.wr a ≠ none → H a ≠ none) ∧ Rep X.kw ω H a x ∧ dCut a lo hi = some d ∧ ∀ H' v, Same H H' → Rep X.kw ω H' d v → Q v H') := by
  have h := (sl_tupA (X := X)).or ((sl_list (X := X)).or (sl_str (X := X)))
  intro pins s σ H x v vl vu lo hi sl Q I rx hs pl pu q0
  refine h pins s σ H x v vl vu lo hi sl Q I rx hs pl pu ?_
  obtain ⟨ω, a, d, tr, ra, e, q⟩ := q0
  unfold dCut at e
  split at e
  · cases e
    obtain ⟨l1, a1, vs, rfl, s1, r1⟩ := ra
    refine .inl ⟨a1, vs, rfl, s1, fun w => ?_, fun w p hp => ?_⟩
    · rw [r1.length] at w
      rw [cutD_whole w] at q
      exact q H _ same_refl ⟨l1, a1, vs, rfl, s1, r1⟩
    · exact q _ _ (same_new hp _) (rep_new_tup hp (cut_reps r1 _ _) (Nat.le_trans (cutD_le _ _ _) l1))
  · cases e
    obtain ⟨l1, a1, vs, rfl, s1, w1, r1⟩ := ra
    refine .inr (.inl ⟨a1, vs, rfl, SqL.of s1, fun p hp => ?_⟩)
    exact q _ _ (same_new hp _) (rep_new_lst tr hp (cut_reps r1 _ _) (Nat.le_trans (cutD_le _ _ _) l1))
  · cases e
    obtain ⟨rfl, l1⟩ := ra
    refine .inr (.inr ⟨_, rfl, l1, q H _ same_refl ⟨?_, ?_⟩⟩)
    · unfold cutS cutD
      rw [Array.length_toList]
      rfl
    · show (List.toArray (cutD _ lo hi)).size ≤ sizeLine
      rw [List.size_toArray]
      refine Nat.le_trans (cutD_le _ _ _) ?_
      rw [Array.length_toList]
      exact l1
  · cases e
/-- a part of a slice -/
def tPartE (K : KW) (C : Cal) (dp : Nat) (W : WX) (cls : Nat → Value) (ms : List E) : TO := fun σ H Q => ∃ ω ρ st, Loc K ω dp ρ σ H ∧ StoOk K ω st H ∧
  Post K dp W cls σ ω H ((evs C ms ρ st).bind fun l st => R.lift st (optI l)) fun o _ ω' H' => Q o H'
theorem po_imp {o : Option Expr} {t t' : TO} (h : PO X o t) (i : ∀ σ H Q, t' σ H Q → t σ H Q) : PO X o t' := ⟨fun pins s σ H Q I q => h.run pins s σ H Q I (i σ H Q q)⟩
theorem po_nil' : PO X none (tPartE X.kw C dp W cls []) := po_imp po_none (by
  rintro σ H Q ⟨ω, ρ, st, hl, hs, hp⟩
  unfold evs at hp
  exact hp ω H .refl hs)
theorem po_one' (h : PE X e (tE X.kw C dp W cls m)) : PO X (some e) (tPartE X.kw C dp W cls [m]) := po_imp (po_some h) (by
  rintro σ H Q ⟨ω, ρ, st, hl, hs, hp⟩
  unfold evs at hp
  refine ⟨ω, ρ, st, hl, hs, (Post.bind (Post.bind hp)).mono fun d st1 ω1 H1 x1 s1 q1 v r1 => ?_⟩
  unfold evs at q1
  have q1 : ∀ ω' H', Ext (dp + 1) ω1 H1 ω' H' → StoOk X.kw ω' st1 H' → Post X.kw dp W cls σ ω' H' (R.lift st1 (optI [d])) _ := q1
  obtain ⟨o, eo, q2⟩ := Post.lift (q1 ω1 H1 .refl s1)
  unfold optI at eo
  split at eo
  · rename_i z; cases z
  · rename_i z; cases z; cases eo
    exact ⟨_, r1, q2 ω1 H1 .refl s1⟩
  · cases eo)
theorem bind_assoc' {α β γ : Type} (r : R α) (f : α → Sto → R β) (g : β → Sto → R γ) : (r.bind f).bind g = r.bind fun a st => (f a st).bind g := by cases r <;> rfl
theorem snd_sl_core {lo hi : List E} {p2 pos : Pos} {el eh : Option Expr} {x : Expr} (A : PE X x (tE X.kw C dp W cls m)) (L : PO X el (tPartE X.kw C dp W cls lo)) (U : PO X eh (tPartE X.kw C dp W cls hi)) :
    PE X (.Subscript x (.Slice el eh none p2) pos) (tE X.kw C dp W cls (.sl m lo hi)) := by
  refine pe_imp (pe_slice sl_dCut A L U) ?_
  rintro σ H Q ⟨ω, ρ, st, hl, hs, hp⟩
  unfold ev at hp
  refine ⟨ω, ρ, st, hl, hs, (Post.bind hp).mono fun d st1 ω1 H1 x1 s1 q1 v r1 => ⟨ω1, ρ, st1, hl.ext x1, s1, ?_⟩⟩
  rw [← bind_assoc'] at q1
  refine (Post.bind q1).mono fun l st2 ω2 H2 x2 s2 q2 => ⟨ω2, ρ, st2, (hl.ext x1).ext x2, s2, ?_⟩
  rw [← bind_assoc'] at q2
  refine (Post.bind q2).mono fun u st3 ω3 H3 x3 s3 q3 => ?_
  obtain ⟨z, ez, q⟩ := Post.lift q3
  exact ⟨ω3, d, z, s3.trk, r1.ext (x2.trans x3), ez, fun H' v' gr r => q ω3 H' (.ofGrow s3 gr) (s3.grow gr) v' r⟩
theorem snd_sl {lo hi : List E} (hm : SndE N G k C cls dp m) (hlo : ∀ m ∈ lo, SndE N G k C cls dp m) (hhi : ∀ m ∈ hi, SndE N G k C cls dp m) : SndE N G k C cls dp (.sl m lo hi) := by
  intro X sc W e c h
  unfold chkE at h
  have one : ∀ {ms : List E} {x : Expr}, (∀ m ∈ ms, SndE N G k C cls dp m) → ms.length = 1 → chkEs N G ms sc [x] = true → PO X (some x) (tPartE X.kw C dp W cls ms) := by
    intro ms x hms l1 hc
    match ms, l1 with
    | [m], _ =>
      unfold chkEs at hc
      simp only [Bool.and_eq_true] at hc
      exact po_one' (hms m List.mem_cons_self X sc W x c hc.1.1).1
  have nil : ∀ {ms : List E}, ms.isEmpty = true → PO X none (tPartE X.kw C dp W cls ms) := by
    intro ms h0
    rw [List.isEmpty_iff.mp h0]
    exact po_nil'
  split at h
  · simp only [Bool.and_eq_true] at h
    exact both_of (snd_sl_core (hm X sc W _ c h.2).1 (nil h.1.1) (nil h.1.2)) rfl
  · simp only [Bool.and_eq_true, decide_eq_true_eq] at h
    exact both_of (snd_sl_core (hm X sc W _ c h.1.2).1 (one hlo h.1.1.1 h.2) (nil h.1.1.2)) rfl
  · simp only [Bool.and_eq_true, decide_eq_true_eq] at h
    exact both_of (snd_sl_core (hm X sc W _ c h.1.2).1 (nil h.1.1.1) (one hhi h.1.1.2 h.2)) rfl
  · simp only [Bool.and_eq_true, decide_eq_true_eq] at h
    exact both_of (snd_sl_core (hm X sc W _ c h.1.1.2).1 (one hlo h.1.1.1.1 h.1.2) (one hhi h.1.1.1.2 h.2)) rfl
  · cases h

structure Feeds (K : KW) (J : It) (ds : List D) (ω : Wd) (H : Hp) : Prop where
  len : ds.length ≤ sizeLine
  go : ∀ ω' H', Kept ω H ω' H' → ∀ i, i < ds.length → J.go i H'
  yld : ∀ ω' H', Kept ω H ω' H' → ∀ (i : Nat) (x : V) (H2 : Hp) (d : D), ds[i]? = some d → J.yld i H' x H2 → Same H' H2 ∧ Rep K ω' H2 d x
  stop : ∀ ω' H', Kept ω H ω' H' → J.stop ds.length H'
def tI (K : KW) (C : Cal) (dp : Nat) (W : WX) (cls : Nat → Value) (ik : IK) (ie : List E) : TI := fun σ H R => ∃ ω ρ st, Loc K ω dp ρ σ H ∧ StoOk K ω st H ∧
  Post K dp W cls σ ω H (evs C ie ρ st) fun ds _ ω' H' => ∃ xs, items ik ds = some xs ∧ ∀ J, Feeds K J xs ω' H' → R J H'
theorem pi_imp {tg it : Expr} {t t' : TI} (h : PI X tg it t) (i : ∀ σ H Q, t' σ H Q → t σ H Q) : PI X tg it t' := ⟨fun pins s σ H Q I q => h.run pins s σ H Q I (i σ H Q q)⟩
theorem feeds_tup {K : KW} {ω : Wd} {H : Hp} {a : Addr} {vs : List V} {ds : List D} (s : SqT K H a vs) (r : Reps K ω H ds vs) (l : ds.length ≤ sizeLine) : Feeds K (Itt K a) ds ω H where
  len := l
  go := fun ω' H' x i hi => by
    obtain ⟨v, e, _⟩ := r.get (List.getElem?_eq_getElem hi)
    exact ⟨vs, v, x.sqT s, e⟩
  yld := fun ω' H' x i v H2 d e y => by
    obtain ⟨rfl, y⟩ := y
    obtain ⟨v', e', r'⟩ := r.get e
    have := y vs (x.sqT s)
    rw [e'] at this
    cases this
    exact ⟨same_refl, Rep.kept x d _ r'⟩
  stop := fun ω' H' x => ⟨vs, x.sqT s, Nat.le_of_eq r.length⟩
theorem feeds_lst {K : KW} {ω : Wd} {H : Hp} {a : Addr} {vs : List V} {ds : List D} (s : ∀ ω' H', Kept ω H ω' H' → SqL K H' a vs) (r : Reps K ω H ds vs) (l : ds.length ≤ sizeLine) : Feeds K (Itl K a) ds ω H where
  len := l
  go := fun ω' H' x i hi => by
    obtain ⟨v, e, _⟩ := r.get (List.getElem?_eq_getElem hi)
    exact ⟨vs, v, s ω' H' x, e⟩
  yld := fun ω' H' x i v H2 d e y => by
    obtain ⟨rfl, y⟩ := y
    obtain ⟨v', e', r'⟩ := r.get e
    have := y vs (s ω' H2 x)
    rw [e'] at this
    cases this
    exact ⟨same_refl, Rep.kept x d _ r'⟩
  stop := fun ω' H' x => ⟨vs, s ω' H' x, Nat.le_of_eq r.length⟩
theorem feeds_str {K : KW} {ω : Wd} {H : Hp} {z : Str} (l : z.length ≤ sizeLine) : Feeds K (Its z) (z.cps.toList.map sign) ω H where
  len := by rw [List.length_map, Array.length_toList]; exact l
  go := fun ω' H' x i hi => by
    rw [List.length_map, Array.length_toList] at hi
    exact hi
  yld := fun ω' H' x i v H2 d e y => by
    obtain ⟨rfl, c, e1, rfl⟩ := y
    rw [List.getElem?_map, Array.getElem?_toList, e1] at e
    cases e
    exact ⟨same_refl, rfl, by show 1 ≤ sizeLine; rw [sizeLine_eq]; decide⟩
  stop := fun ω' H' x => by
    rw [List.length_map, Array.length_toList]
    exact Nat.le_refl _
theorem feeds_rng {K : KW} {ω : Wd} {H : Hp} {lo : Int} {n : Nat} (l : n ≤ sizeLine) : Feeds K (Itr lo n) ((List.range n).map fun (i : Nat) => D.int (lo + (i : Int))) ω H where
  len := by rw [List.length_map, List.length_range]; exact l
  go := fun ω' H' x i hi => by
    rw [List.length_map, List.length_range] at hi
    exact hi
  yld := fun ω' H' x i v H2 d e y => by
    obtain ⟨rfl, rfl⟩ := y
    rw [List.getElem?_map] at e
    cases q : (List.range n)[i]? with
    | none => rw [q] at e; cases e
    | some j =>
      rw [q] at e
      cases e
      have : j = i := by
        obtain ⟨h1, h2⟩ := List.getElem?_eq_some_iff.mp q
        rw [List.getElem_range] at h2
        exact h2.symm
      subst this
      exact ⟨same_refl, rfl⟩
  stop := fun ω' H' x => by
    rw [List.length_map, List.length_range]
    exact Nat.le_refl _
theorem feeds_enumL {K : KW} {ω : Wd} {H : Hp} {a : Addr} {vs : List V} {ds : List D} (s : ∀ ω' H', Kept ω H ω' H' → SqL K H' a vs) (r : Reps K ω H ds vs) (l : ds.length ≤ sizeLine) :
    Feeds K (Ite K a) (ds.zipIdx.map fun p => D.tup [.int (p.2 : Nat), p.1]) ω H where
  len := by rw [List.length_map, List.length_zipIdx]; exact l
  go := fun ω' H' x i hi => by
    rw [List.length_map, List.length_zipIdx] at hi
    obtain ⟨v, e, _⟩ := r.get (List.getElem?_eq_getElem hi)
    exact ⟨vs, v, s ω' H' x, e⟩
  yld := fun ω' H' x i v H2 d e y => by
    obtain ⟨T, z, rfl, hT, rfl, y⟩ := y
    rw [List.getElem?_map, List.getElem?_zipIdx] at e
    cases q : ds[i]? with
    | none => rw [q] at e; cases e
    | some d' =>
      rw [q] at e
      cases e
      obtain ⟨v', e', r'⟩ := r.get q
      have := y vs (s ω' H' x)
      rw [e'] at this
      cases this
      refine ⟨same_new hT _, rep_new_tup hT ⟨_, _, rfl, by show V.int _ = V.int _; rw [Nat.zero_add], _, _, rfl, Rep.kept x _ _ r', rfl⟩ (by show 2 ≤ sizeLine; rw [sizeLine_eq]; decide)⟩
  stop := fun ω' H' x => ⟨vs, s ω' H' x, by rw [List.length_map, List.length_zipIdx]; exact Nat.le_of_eq r.length⟩
end
end TL

namespace TL
open PySem L2 PyProof.Rows
section
variable {X : Cx} {N : List Str} {G : GT} {k : Nat} {C : Cal} {cls : Nat → Value} {dp : Nat} {sc : Scope} {W : WX} {e : Expr} {es : List Expr} {m n l a b : E} {ms : List E}
theorem feeds_enumT {K : KW} {ω : Wd} {H : Hp} {a : Addr} {vs : List V} {ds : List D} (s : SqT K H a vs) (r : Reps K ω H ds vs) (l : ds.length ≤ sizeLine) :
    Feeds K (IteT K a) (ds.zipIdx.map fun p => D.tup [.int (p.2 : Nat), p.1]) ω H where
  len := by rw [List.length_map, List.length_zipIdx]; exact l
  go := fun ω' H' x i hi => by
    rw [List.length_map, List.length_zipIdx] at hi
    obtain ⟨v, e, _⟩ := r.get (List.getElem?_eq_getElem hi)
    exact ⟨vs, v, x.sqT s, e⟩
  yld := fun ω' H' x i v H2 d e y => by
    obtain ⟨T, z, rfl, hT, rfl, y⟩ := y
    rw [List.getElem?_map, List.getElem?_zipIdx] at e
    cases q : ds[i]? with
    | none => rw [q] at e; cases e
    | some d' =>
      rw [q] at e
      cases e
      obtain ⟨v', e', r'⟩ := r.get q
      have := y vs (x.sqT s)
      rw [e'] at this
      cases this
      refine ⟨same_new hT _, rep_new_tup hT ⟨_, _, rfl, by show V.int _ = V.int _; rw [Nat.zero_add], _, _, rfl, Rep.kept x _ _ r', rfl⟩ (by show 2 ≤ sizeLine; rw [sizeLine_eq]; decide)⟩
  stop := fun ω' H' x => ⟨vs, x.sqT s, by rw [List.length_map, List.length_zipIdx]; exact Nat.le_of_eq r.length⟩
theorem ie_one {it : Expr} {ie : List E} (h : chkEs N G ie sc [it] = true) : ∃ m, ie = [m] ∧ chkE N G m sc it = true := by
  have l := chkEs_length h
  match ie, l with
  | [m], _ =>
    unfold chkEs at h
    simp only [Bool.and_eq_true] at h
    exact ⟨m, rfl, h.1.1⟩
/-- one expression, walked -/
theorem post_one {σ : L2.St} {ω : Wd} {H : Hp} {K : KW} {ρ : Env} {st : Sto} {P : List D → Sto → Wd → Hp → Prop} (h : Post K dp W cls σ ω H (evs C [m] ρ st) P) :
    Post K dp W cls σ ω H (ev C m ρ st) fun d st' ω' H' => P [d] st' ω' H' := by
  unfold evs at h
  refine (Post.bind h).mono fun d st1 ω1 H1 x1 s1 q1 => ?_
  unfold evs at q1
  have q1 : ∀ ω' H', Ext (dp + 1) ω1 H1 ω' H' → StoOk K ω' st1 H' → P [d] st1 ω' H' := q1
  exact q1 ω1 H1 .refl s1
theorem snd_it {ik : IK} {tg : T} {t it : Expr} {ie : List E} {own : List Nat} (hm : ∀ m ∈ ie, SndE N G k C cls dp m) (c : Cok X G k C cls N sc W) (h : itArgs G sc ik tg it = some es) (h2 : chkEs N G ie sc es = true)
    (h3 : ∀ is, tg = .tp is → ∃ es kk p, t = .Tuple es kk p) : PI X t it (tI X.kw C dp W cls ik ie) := by
  unfold itArgs at h
  have seqs : ∀ {t' : TI}, (∀ m, ie = [m] → PE X it (tE X.kw C dp W cls m) → PI X t it t') → es = [it] → PI X t it t' := by
    intro t' f e1
    subst e1
    obtain ⟨m, rfl, hc⟩ := ie_one h2
    exact f m rfl (hm m List.mem_cons_self X sc W it c hc).1
  split at h
  · rename_i y p es' pos
    split at h
    · rename_i hc
      cases h
      simp only [Bool.and_eq_true, Bool.or_eq_true, decide_eq_true_eq] at hc
      obtain ⟨⟨rfl, hf⟩, hl⟩ := hc
      have F := fre_of c hf
      obtain ⟨A, B⟩ := snd_es hm X sc W es c h2
      rcases hl with hl | hl
      · match es, hl with
        | [a], _ =>
          rw [List.all_cons, Bool.and_eq_true] at B
          refine pi_imp (pi_range1 F.g F.m A (star_of B.1 [] X.env)) ?_
          rintro σ H R ⟨ω, ρ, st, hl, hs, hp⟩
          refine ⟨ω, ρ, st, hl, hs, hp.len.mono ?_⟩
          rintro ds st' ω' H' x s ⟨ln, xs, e1, q⟩ vs r
          have l2 := chkEs_length h2
          unfold items at e1
          split at e1 <;> try cases e1
          all_goals try contradiction
          · split at e1
            · rename_i hb
              cases e1
              obtain ⟨v, rfl, rv⟩ := r.one
              cases rv
              refine ⟨_, rfl, hb.1, ?_, q _ (feeds_rng ?_)⟩
              · have := hb.2
                rw [sizeLine_eq] at this
                omega
              · have := hb.2
                omega
            · cases e1
          · exact absurd (ln.trans l2.symm) (by simp)
      · match es, hl with
        | [a, b], _ =>
          rw [List.all_cons, List.all_cons, Bool.and_eq_true, Bool.and_eq_true] at B
          refine pi_imp (pi_range2 F.g F.m A (by rw [star_of B.1, star_of B.2.1]; rfl) (star_of B.2.1 [] X.env)) ?_
          rintro σ H R ⟨ω, ρ, st, hl, hs, hp⟩
          refine ⟨ω, ρ, st, hl, hs, hp.len.mono ?_⟩
          rintro ds st' ω' H' x s ⟨ln, xs, e1, q⟩ vs r
          have l2 := chkEs_length h2
          unfold items at e1
          split at e1 <;> try cases e1
          all_goals try contradiction
          · exact absurd (ln.trans l2.symm) (by simp)
          · split at e1
            · rename_i hb
              cases e1
              obtain ⟨v, w, rfl, rv, rw'⟩ := r.two
              cases rv; cases rw'
              refine ⟨_, _, rfl, ⟨hb.1, hb.2.1, hb.2.2.1, hb.2.2.2.1⟩, q _ (feeds_rng ?_)⟩
              have := hb.2.2.2.2
              omega
            · cases e1
    · cases h
  · rename_i is y p es' pos
    split at h
    · rename_i hc
      cases h
      simp only [Bool.and_eq_true, decide_eq_true_eq] at hc
      obtain ⟨⟨rfl, hf⟩, hl⟩ := hc
      have F := fre_of c hf
      obtain ⟨A, B⟩ := snd_es hm X sc W es c h2
      obtain ⟨elts, kk, tp, rfl⟩ := h3 is rfl
      match es, hl with
      | [a], _ =>
        rw [List.all_cons, Bool.and_eq_true] at B
        refine pi_imp (pi_enumT F.g F.m A (star_of B.1 [] X.env)) ?_
        rintro σ H R ⟨ω, ρ, st, hl, hs, hp⟩
        refine ⟨ω, ρ, st, hl, hs, hp.mono ?_⟩
        rintro ds st' ω' H' x s ⟨xs, e1, q⟩ vs r
        unfold items at e1
        split at e1 <;> try cases e1
        all_goals try contradiction
        obtain ⟨v, rfl, l1, a1, ws, rfl, s1, r1⟩ := r.one
        exact ⟨a1, ws, rfl, s1, q _ (feeds_enumT s1 r1 l1)⟩
    · cases h
  · rename_i is y p es' pos
    split at h
    · rename_i hc
      cases h
      simp only [Bool.and_eq_true, decide_eq_true_eq] at hc
      obtain ⟨⟨rfl, hf⟩, hl⟩ := hc
      have F := fre_of c hf
      obtain ⟨A, B⟩ := snd_es hm X sc W es c h2
      obtain ⟨elts, kk, tp, rfl⟩ := h3 is rfl
      match es, hl with
      | [a], _ =>
        rw [List.all_cons, Bool.and_eq_true] at B
        refine pi_imp (pi_enum F.g F.m A (star_of B.1 [] X.env)) ?_
        rintro σ H R ⟨ω, ρ, st, hl, hs, hp⟩
        refine ⟨ω, ρ, st, hl, hs, hp.mono ?_⟩
        rintro ds st' ω' H' x s ⟨xs, e1, q⟩ vs r
        unfold items at e1
        split at e1 <;> try cases e1
        all_goals try contradiction
        obtain ⟨v, rfl, l1, a1, ws, rfl, s1, w1, r1⟩ := r.one
        exact ⟨a1, ws, rfl, SqL.of s1, q _ (feeds_enumL (fun ω2 H2 x => SqL.of (x.lst _ _ s1 w1).1) r1 l1)⟩
    · cases h
  · cases h
    refine seqs (fun m em A => ?_) rfl
    subst em
    refine pi_imp (pi_tup A) ?_
    rintro σ H R ⟨ω, ρ, st, hl, hs, hp⟩
    refine ⟨ω, ρ, st, hl, hs, (post_one hp).mono ?_⟩
    rintro d st' ω' H' x s ⟨xs, e1, q⟩ v r
    cases d <;> first | (simp [items] at e1; done) | skip
    simp only [items, Option.some.injEq] at e1
    subst e1
    obtain ⟨l1, a1, ws, rfl, s1, r1⟩ := r
    exact ⟨a1, rfl, ⟨ws, s1⟩, q _ (feeds_tup s1 r1 l1)⟩
  · cases h
    refine seqs (fun m em A => ?_) rfl
    subst em
    refine pi_imp (pi_list A) ?_
    rintro σ H R ⟨ω, ρ, st, hl, hs, hp⟩
    refine ⟨ω, ρ, st, hl, hs, (post_one hp).mono ?_⟩
    rintro d st' ω' H' x s ⟨xs, e1, q⟩ v r
    cases d <;> first | (simp [items] at e1; done) | skip
    simp only [items, Option.some.injEq] at e1
    subst e1
    obtain ⟨l1, a1, ws, rfl, s1, w1, r1⟩ := r
    exact ⟨a1, rfl, ⟨ws, SqL.of s1⟩, q _ (feeds_lst (fun ω2 H2 x => SqL.of (x.lst _ _ s1 w1).1) r1 l1)⟩
  · cases h
    refine seqs (fun m em A => ?_) rfl
    subst em
    refine pi_imp (pi_list A) ?_
    rintro σ H R ⟨ω, ρ, st, hl, hs, hp⟩
    refine ⟨ω, ρ, st, hl, hs, (post_one hp).mono ?_⟩
    rintro d st' ω' H' x s ⟨xs, e1, q⟩ v r
    cases d <;> first | (simp [items] at e1; done) | skip
    simp only [items, Option.some.injEq] at e1
    subst e1
    obtain ⟨l1, a1, ws, rfl, s1, r1⟩ := r
    refine ⟨a1, rfl, ⟨ws, sq_fls s1⟩, q _ (feeds_lst (fun ω2 H2 x => sq_fls (ω := ω2) ?_) r1 l1)⟩
    rcases s1 with ⟨s1, w1⟩ | ⟨o, s1⟩ | s1
    · exact .inl (x.lst _ _ s1 w1)
    · exact .inr (.inl ⟨o, x.frz _ _ _ s1⟩)
    · exact .inr (.inr s1)
  · cases h
    refine seqs (fun m em A => ?_) rfl
    subst em
    refine pi_imp (pi_str A) ?_
    rintro σ H R ⟨ω, ρ, st, hl, hs, hp⟩
    refine ⟨ω, ρ, st, hl, hs, (post_one hp).mono ?_⟩
    rintro d st' ω' H' x s ⟨xs, e1, q⟩ v r
    cases d <;> first | (simp [items] at e1; done) | skip
    simp only [items, Option.some.injEq] at e1
    subst e1
    obtain ⟨rfl, l1⟩ := r
    exact ⟨_, rfl, q _ (feeds_str l1)⟩
  · cases h

def gNames : List Nat → TGs
  | [] => gNil
  | i :: is => gCons (gName i) (gNames is)
def gT (K : KW) : T → TG
  | .nm i => gName i
  | .tp is => gTup K is.length (gNames is)
theorem Loc.set {K : KW} {ω : Wd} {H : Hp} {ρ : Env} {σ : L2.St} {i : Nat} {d : D} {v : V} (h : Loc K ω dp ρ σ H) (r : OwnR K ω H (.slot dp i) d v) : Loc K ω dp (ρ.set i (some d)) (σ.set i (some v)) H :=
  ⟨by rw [List.length_set, List.length_set]; exact h.len, fun j d' e => by
    by_cases hj : j = i
    · subst hj
      by_cases hl : j < ρ.length
      · rw [List.getElem?_set_self hl] at e
        cases e
        exact ⟨v, List.getElem?_set_self (by rw [h.len]; exact hl), r⟩
      · rw [List.getElem?_eq_none (by rw [List.length_set]; omega)] at e
        cases e
    · rw [List.getElem?_set_ne (Ne.symm hj)] at e
      obtain ⟨v', e', r'⟩ := h.at_ j d' e
      exact ⟨v', by rw [List.getElem?_set_ne (Ne.symm hj)]; exact e', r'⟩⟩
theorem Loc.setNone {K : KW} {ω : Wd} {H : Hp} {ρ : Env} {σ : L2.St} {i : Nat} (h : Loc K ω dp ρ σ H) : Loc K ω dp (ρ.set i none) (σ.set i none) H :=
  ⟨by rw [List.length_set, List.length_set]; exact h.len, fun j d' e => by
    by_cases hj : j = i
    · subst hj
      by_cases hl : j < ρ.length
      · rw [List.getElem?_set_self hl] at e
        cases e
      · rw [List.getElem?_eq_none (by rw [List.length_set]; omega)] at e
        cases e
    · rw [List.getElem?_set_ne (Ne.symm hj)] at e
      obtain ⟨v', e', r'⟩ := h.at_ j d' e
      exact ⟨v', by rw [List.getElem?_set_ne (Ne.symm hj)]; exact e', r'⟩⟩
theorem Loc.wipe {K : KW} {ω : Wd} {H : Hp} {ρ : Env} {σ : L2.St} (h : Loc K ω dp ρ σ H) : ∀ vs : List Nat, Loc K ω dp (wipeE ρ vs) (L2.wipe σ vs) H
  | [] => h
  | v :: vs => (Loc.wipe h vs).setNone
theorem wipe_off : ∀ {own : List Nat} {i : Nat} {x : Option V} {σ : L2.St}, i ∉ own → L2.wipe (σ.set i x) own = (L2.wipe σ own).set i x
  | [], i, x, σ, h => rfl
  | o :: own, i, x, σ, h => by
    simp only [List.mem_cons, not_or] at h
    show (L2.wipe (σ.set i x) own).set o none = ((L2.wipe σ own).set o none).set i x
    rw [wipe_off h.2, List.set_comm _ _ h.1]
theorem wipe_set : ∀ {own : List Nat} {i : Nat} {x : Option V} {σ : L2.St}, i ∈ own → L2.wipe (σ.set i x) own = L2.wipe σ own
  | [], i, x, σ, h => by simp at h
  | o :: own, i, x, σ, h => by
    show (L2.wipe (σ.set i x) own).set o none = (L2.wipe σ own).set o none
    by_cases hi : i ∈ own
    · rw [wipe_set hi]
    · have e : i = o := by
        rcases List.mem_cons.mp h with e | h
        · exact e
        · exact absurd h hi
      subst e
      rw [wipe_off hi, List.set_set]
theorem gNames_of {K : KW} {ω : Wd} {H : Hp} {Q : L2.St → Hp → Prop} : ∀ {is : List Nat} {ds : List D} {vs : List V} {ρ : Env} {σ : L2.St}, Loc K ω dp ρ σ H → Reps K ω H ds vs → ds.length = is.length →
    (∀ σ', Loc K ω dp (setAll is ds ρ) σ' H → (∀ own, (∀ i ∈ is, i ∈ own) → L2.wipe σ' own = L2.wipe σ own) → Q σ' H) → gNames is vs σ H Q
  | [], [], vs, ρ, σ, hl, r, _, q => ⟨r, q σ hl fun _ _ => rfl⟩
  | i :: is, d :: ds, vs, ρ, σ, hl, r, e, q => by
    obtain ⟨v, rr, rfl, r1, r2⟩ := r
    refine ⟨v, rr, rfl, ?_⟩
    refine gNames_of (hl.set (OwnR.of r1)) r2 (by simpa using e) fun σ' hl' hw => q σ' hl' fun own ho => ?_
    rw [hw own fun j hj => ho j (List.mem_cons_of_mem _ hj)]
    exact wipe_set (ho i List.mem_cons_self)
  | [], _ :: _, _, _, _, _, _, e, _ => by simp at e
  | _ :: _, [], _, _, _, _, _, e, _ => by simp at e
/-- a target takes a value -/
theorem gT_of {K : KW} {ω : Wd} {H : Hp} {Q : L2.St → Hp → Prop} {tg : T} {d : D} {v : V} {ρ ρ' : Env} {σ : L2.St} (hl : Loc K ω dp ρ σ H) (r : Rep K ω H d v) (hb : bindT tg d ρ = some ρ')
    (q : ∀ σ', Loc K ω dp ρ' σ' H → (∀ own, (∀ i ∈ (match tg with | .nm i => [i] | .tp is => is), i ∈ own) → L2.wipe σ' own = L2.wipe σ own) → Q σ' H) : gT K tg v σ H Q := by
  cases tg with
  | nm i =>
    simp only [bindT] at hb
    split at hb
    · cases hb
    · cases hb
      exact q _ (hl.set (OwnR.of r)) fun own ho => wipe_set (ho i List.mem_cons_self)
  | tp is =>
    cases d <;> first | (simp [bindT] at hb; done) | skip
    simp only [bindT] at hb
    split at hb
    · rename_i he
      cases hb
      obtain ⟨l1, a1, ws, rfl, s1, r1⟩ := r
      exact ⟨a1, ws, rfl, s1, r1.length.trans he, gNames_of hl r1 he q⟩
    · cases hb
end
end TL

namespace TL
open PySem L2 PyProof.Rows
section
variable {X : Cx} {N : List Str} {G : GT} {k : Nat} {C : Cal} {cls : Nat → Value} {dp : Nat} {sc : Scope} {W : WX} {e : Expr} {es : List Expr} {m n l a b : E} {ms : List E}
theorem lcl_of {df : Bool} {x : Str} (hsc : X.env.scope = sc) (hf : df = true → ∀ y, X.fn y = true) (h : lcl df sc x = true) : L2.Loc X.env.scope x ∧ (X.fn x = true ∨ X.env.scope.names.lookup x = some .local) := by
  unfold lcl at h
  rw [hsc]
  split at h
  · rename_i q; exact ⟨.inl q, .inr q⟩
  · rename_i q; exact ⟨.inr q, .inl (hf h x)⟩
  · cases h
theorem tgs_of {df : Bool} {own is : List Nat} {es : List Expr} (hN : X.N = N) (nd : N.Nodup) (hsc : X.env.scope = sc) (hf : df = true → ∀ y, X.fn y = true) (h : tgOk.tgs df N sc own is es = true) : PGs X es (gNames is) ∧ es.length = is.length ∧ (∀ i ∈ is, i ∈ own) ∧ (assignEach es X.env).findIdx? (·.1) = none ∧ (assignEach es X.env).length = is.length := by
  induction is generalizing es with
  | nil =>
    cases es with
    | nil => exact ⟨pgs_nil, rfl, by simp, rfl, rfl⟩
    | cons e es => simp [tgOk.tgs] at h
  | cons i is ih =>
    cases es with
    | nil => simp [tgOk.tgs] at h
    | cons e es =>
      cases e <;> first | (simp [tgOk.tgs] at h; done) | skip
      rename_i x p
      simp only [tgOk.tgs, Bool.and_eq_true, decide_eq_true_eq] at h
      obtain ⟨⟨⟨h1, h2⟩, h3⟩, h4⟩ := h
      obtain ⟨q1, q2⟩ := lcl_of hsc hf h3
      obtain ⟨A, B, D, F, L⟩ := ih h4
      refine ⟨pgs_cons (pg_name (i := i) (by rw [hN]; exact nd) (by rw [hN]; exact h1) q1 q2) A rfl, by rw [List.length_cons, List.length_cons, B], fun j hj => ?_, ?_, ?_⟩
      · rcases List.mem_cons.mp hj with rfl | hj
        · exact h2
        · exact D j hj
      · show List.findIdx? (·.1) ((false, _) :: assignEach es X.env) = none
        rw [List.findIdx?_cons]
        show Option.map _ _ = none
        rw [F]
        rfl
      · show (_ :: assignEach es X.env).length = _
        rw [List.length_cons, List.length_cons, L]
theorem tg_of {df : Bool} {own : List Nat} {tg : T} {t : Expr} (hN : X.N = N) (nd : N.Nodup) (hsc : X.env.scope = sc) (hf : df = true → ∀ y, X.fn y = true) (hc : X.calm = true) (h : tgOk df N sc own tg t = true) : PG X t (gT X.kw tg) := by
  unfold tgOk at h
  split at h
  · rename_i i x p
    simp only [Bool.and_eq_true, decide_eq_true_eq] at h
    obtain ⟨⟨h1, h2⟩, h3⟩ := h
    obtain ⟨q1, q2⟩ := lcl_of hsc hf h3
    exact pg_name (i := i) (by rw [hN]; exact nd) (by rw [hN]; exact h1) q1 q2
  · obtain ⟨A, B, D, F, L⟩ := tgs_of hN nd hsc hf h
    exact pg_tup hc A L F
  · cases h
theorem tg_sub {df : Bool} {own : List Nat} {tg : T} {t : Expr} (h : tgOk df N sc own tg t = true) : ∀ i ∈ (match tg with | .nm i => [i] | .tp is => is), i ∈ own := by
  unfold tgOk at h
  split at h
  · simp only [Bool.and_eq_true, decide_eq_true_eq] at h
    intro j hj
    rw [List.mem_singleton.mp hj]
    exact h.1.2
  · rename_i is es _ _
    have key : ∀ {is : List Nat} {es : List Expr}, tgOk.tgs df N sc own is es = true → ∀ i ∈ is, i ∈ own := by
      intro is
      induction is with
      | nil => simp
      | cons i is ih =>
        intro es h
        cases es with
        | nil => simp [tgOk.tgs] at h
        | cons e es =>
          cases e <;> first | (simp [tgOk.tgs] at h; done) | skip
          simp only [tgOk.tgs, Bool.and_eq_true, decide_eq_true_eq] at h
          intro j hj
          rcases List.mem_cons.mp hj with rfl | hj
          · exact h.1.1.2
          · exact ih h.2 j hj
    exact key h
  · cases h
theorem tg_shape {df : Bool} {own : List Nat} {tg : T} {t : Expr} (h : tgOk df N sc own tg t = true) : ∀ is, tg = .tp is → ∃ es kk p, t = .Tuple es kk p := by
  rintro is rfl
  cases t <;> first | exact ⟨_, _, _, rfl⟩ | (simp [tgOk] at h)
/-- a comprehension's block -/
theorem Cok.blk (c : Cok X G k C cls N sc W) (s : Shared) (H : Hp) (scope : Scope) (Cc : Addr) (cl : List (Str × Addr)) (fp : List Addr) : Cok (X.blk s H scope (compEnvC scope cl Cc X.env) fp) G k C cls N (relS scope sc) (fun _ _ _ _ => False) where
  hN := c.hN
  nd := c.nd
  hsc := by rw [← c.hsc]; rfl
  calm := c.calm
  room := c.room
  tk := fun u s' ⟨_, _, _, _, _, _, _, _, _, _, _, _, _, _, _, _, w⟩ => w
  fns := c.fns
  cst := c.cst
  blt := c.blt
  room1 := c.room1
  clss := c.clss

def Wd.put (ω : Wd) (a : Addr) (t : Root × List Str) : Wd := { ω with wr := fun b => if b = a then some t else ω.wr b }
def Wd.free (ω : Wd) (a : Addr) : Wd := { ω with wr := fun b => if b = a then none else ω.wr b }
variable {K : KW} {ω ω' ω'' : Wd} {H H' H'' : Hp} {D₀ : Addr} {t : Root × List Str} {o : HO} {st : Sto}
theorem Kept.put (tr : ∀ a, ω.wr a ≠ none → H a ≠ none) (h : H D₀ = none) : Kept ω H (ω.put D₀ t) (upd H D₀ o) where
  cell := fun a l p e => by
    have ne : a ≠ D₀ := fun z => tr a (by rw [e]; simp) (by rw [z]; exact h)
    show (if a = D₀ then some t else ω.wr a) = _
    rw [if_neg ne]
    exact e
  mu := List.prefix_refl _
  tup := fun a xs e => by rw [upd_ne (ne_of_none e h)]; exact e
  frz := fun a o u e => by rw [upd_ne (ne_of_none e h)]; exact e
  lst := fun a xs e w => by
    refine ⟨by rw [upd_ne (ne_of_none e h)]; exact e, ?_⟩
    show (if a = D₀ then some t else ω.wr a) = none
    rw [if_neg (ne_of_none e h)]
    exact w
  dic := fun a xs e w => by
    refine ⟨by rw [upd_ne (ne_of_none e h)]; exact e, ?_⟩
    show (if a = D₀ then some t else ω.wr a) = none
    rw [if_neg (ne_of_none e h)]
    exact w
theorem Ext.put {d : Nat} (tr : ∀ a, ω.wr a ≠ none → H a ≠ none) (h : H D₀ = none) : Ext d ω H (ω.put D₀ t) (upd H D₀ o) where
  kept := .put tr h
  fix := fun a k i p e _ => by
    have ne : a ≠ D₀ := fun z => tr a (by rw [e]; simp) (by rw [z]; exact h)
    refine ⟨?_, upd_ne ne⟩
    show (if a = D₀ then some t else ω.wr a) = ω.wr a
    rw [if_neg ne]
theorem Wd.put_cell {a : Addr} {l dd i : Nat} {p q : List Str} (e : (ω.put D₀ (.slot dd i, q)).wr a = some (.cell l, p)) : ω.wr a = some (.cell l, p) := by
  have e : (if a = D₀ then some (Root.slot dd i, q) else ω.wr a) = some (.cell l, p) := e
  by_cases z : a = D₀
  · rw [if_pos z] at e
    cases e
  · rw [if_neg z] at e
    exact e
theorem StoOk.put {dd i : Nat} {q : List Str} (s : StoOk K ω st H) (h : H D₀ = none) : StoOk K (ω.put D₀ (.slot dd i, q)) st (upd H D₀ o) where
  len := s.len
  inj := fun a b l p e e' => s.inj a b l p (Wd.put_cell e) (Wd.put_cell e')
  dom := fun a l p e => s.dom a l p (Wd.put_cell e)
  trk := fun a e => by
    by_cases z : a = D₀
    · rw [z, upd_same]; simp
    · rw [upd_ne z]
      refine s.trk a ?_
      have e' : (if a = D₀ then some (Root.slot dd i, q) else ω.wr a) ≠ none := e
      rw [if_neg z] at e'
      exact e'
  at_ := fun l d e => (s.at_ l d e).kept ⟨.put s.trk h, fun a p e => by
    have ne : a ≠ D₀ := fun z => s.trk a (by rw [e]; simp) (by rw [z]; exact h)
    refine ⟨?_, upd_ne ne⟩
    show (if a = D₀ then some (Root.slot dd i, q) else ω.wr a) = ω.wr a
    rw [if_neg ne]⟩
theorem Wd.put_same : (ω.put D₀ t).wr D₀ = some t := by show (if D₀ = D₀ then _ else _) = _; rw [if_pos rfl]
/-- a list that is owned is changed -/
theorem Kept.write {xs : List V} (w : ω.wr D₀ = some t) (h : H D₀ = some (.lst xs)) : Kept ω H ω (upd H D₀ o) where
  mu := List.prefix_refl _
  cell := fun _ _ _ e => e
  tup := fun a ys e => by
    have ne : a ≠ D₀ := fun z => by rw [z, h] at e; cases e
    rw [upd_ne ne]; exact e
  frz := fun a o u e => by
    have ne : a ≠ D₀ := fun z => by rw [z, h] at e; cases e
    rw [upd_ne ne]; exact e
  lst := fun a ys e w' => by
    have ne : a ≠ D₀ := fun z => by rw [z, w] at w'; cases w'
    rw [upd_ne ne]; exact ⟨e, w'⟩
  dic := fun a ys e w' => by
    have ne : a ≠ D₀ := fun z => by rw [z, w] at w'; cases w'
    rw [upd_ne ne]; exact ⟨e, w'⟩
/-- what is no tuple, is not known to the object, and is somebody's, is changed -/
structure Chg (ω : Wd) (H : Hp) (D₀ : Addr) : Prop where
  tup : ∀ xs, H D₀ ≠ some (.tup xs)
  frz : ∀ o u, H D₀ ≠ some (.frz o u)
  own : ω.wr D₀ ≠ none
theorem Chg.kept (c : Chg ω H D₀) : Kept ω H ω (upd H D₀ o) where
  mu := List.prefix_refl _
  cell := fun _ _ _ e => e
  tup := fun a ys e => by
    have ne : a ≠ D₀ := fun z => by rw [z] at e; exact c.tup _ e
    rw [upd_ne ne]; exact e
  frz := fun a o u e => by
    have ne : a ≠ D₀ := fun z => by rw [z] at e; exact c.frz _ _ e
    rw [upd_ne ne]; exact e
  lst := fun a ys e w' => by
    have ne : a ≠ D₀ := fun z => by rw [z] at w'; exact c.own w'
    rw [upd_ne ne]; exact ⟨e, w'⟩
  dic := fun a ys e w' => by
    have ne : a ≠ D₀ := fun z => by rw [z] at w'; exact c.own w'
    rw [upd_ne ne]; exact ⟨e, w'⟩
theorem StoOk.write {d i : Nat} {p : List Str} (s : StoOk K ω st H) (w : ω.wr D₀ = some (.slot d i, p)) (kp : Kept ω H ω (upd H D₀ o)) : StoOk K ω st (upd H D₀ o) where
  len := s.len
  inj := s.inj
  dom := s.dom
  trk := fun a e => by
    by_cases q : a = D₀
    · rw [q, upd_same]; simp
    · rw [upd_ne q]
      exact s.trk a e
  at_ := fun l d e => (s.at_ l d e).kept ⟨kp, fun a p e => ⟨rfl, upd_ne fun z => by rw [z, w] at e; cases e⟩⟩
/-- .. seen from where it was not there yet -/
theorem Ext.writeNew {d : Nat} (tr : ∀ a, ω.wr a ≠ none → H a ≠ none) (x : Ext d ω H ω' H') (h : H D₀ = none) : Ext d ω H ω' (upd H' D₀ o) where
  kept := {
    mu := x.kept.mu
    cell := x.kept.cell
    tup := fun a xs e => by rw [upd_ne (ne_of_none e h)]; exact x.kept.tup a xs e
    frz := fun a o u e => by rw [upd_ne (ne_of_none e h)]; exact x.kept.frz a o u e
    lst := fun a xs e w => by rw [upd_ne (ne_of_none e h)]; exact x.kept.lst a xs e w
    dic := fun a xs e w => by rw [upd_ne (ne_of_none e h)]; exact x.kept.dic a xs e w }
  fix := fun a k i p e hk => by
    have ne : a ≠ D₀ := fun z => tr a (by rw [e]; simp) (by rw [z]; exact h)
    rw [upd_ne ne]
    exact x.fix a k i p e hk
theorem Kept.free {dd i : Nat} {p : List Str} (w : ω.wr D₀ = some (.slot dd i, p)) : Kept ω H (ω.free D₀) H where
  mu := List.prefix_refl _
  cell := fun a l q e => by
    have ne : a ≠ D₀ := fun z => by rw [z, w] at e; cases e
    show (if a = D₀ then none else ω.wr a) = _
    rw [if_neg ne]
    exact e
  tup := fun a xs e => e
  frz := fun a o u e => e
  lst := fun a xs e w => by
    refine ⟨e, ?_⟩
    show (if a = D₀ then none else ω.wr a) = none
    split
    · rfl
    · exact w
  dic := fun a xs e w => by
    refine ⟨e, ?_⟩
    show (if a = D₀ then none else ω.wr a) = none
    split
    · rfl
    · exact w
theorem Wd.free_cell {a : Addr} {l : Nat} {p : List Str} (e : (ω.free D₀).wr a = some (.cell l, p)) : ω.wr a = some (.cell l, p) := by
  have e : (if a = D₀ then none else ω.wr a) = some (.cell l, p) := e
  by_cases z : a = D₀
  · rw [if_pos z] at e
    cases e
  · rw [if_neg z] at e
    exact e
theorem StoOk.free {d i : Nat} {p : List Str} (s : StoOk K ω st H) (w : ω.wr D₀ = some (.slot d i, p)) : StoOk K (ω.free D₀) st H where
  len := s.len
  inj := fun a b l p e e' => s.inj a b l p (Wd.free_cell e) (Wd.free_cell e')
  dom := fun a l p e => s.dom a l p (Wd.free_cell e)
  trk := fun a e => by
    refine s.trk a fun z => e ?_
    show (if a = D₀ then none else ω.wr a) = none
    split
    · rfl
    · exact z
  at_ := fun l d e => (s.at_ l d e).kept ⟨.free w, fun a p e => ⟨by
    have ne : a ≠ D₀ := fun z => by rw [z, w] at e; cases e
    show (if a = D₀ then none else ω.wr a) = ω.wr a
    rw [if_neg ne], rfl⟩⟩
theorem Ext.freeNew {d dd i : Nat} {q : List Str} (tr : ∀ a, ω.wr a ≠ none → H a ≠ none) (x : Ext d ω H ω' H') (h : H D₀ = none) (w : ω'.wr D₀ = some (.slot dd i, q)) : Ext d ω H (ω'.free D₀) H' where
  kept := x.kept.trans (.free w)
  fix := fun a k i p e hk => by
    have ne : a ≠ D₀ := fun z => tr a (by rw [e]; simp) (by rw [z]; exact h)
    refine ⟨?_, (x.fix a k i p e hk).2⟩
    show (if a = D₀ then none else ω'.wr a) = _
    rw [if_neg ne]
    exact (x.fix a k i p e hk).1

theorem R.bind_ok {α β : Type} {r : R α} {f : α → Sto → R β} {b : β} {st' : Sto} (h : r.bind f = .ok b st') : ∃ a st1, r = .ok a st1 ∧ f a st1 = .ok b st' := by
  cases r with
  | ok a st1 => exact ⟨a, st1, rfl, h⟩
  | exc c st1 => cases h
  | fail => cases h
theorem lcGo_length {bnd : D → Option Env} {cf ef : Env → Sto → R D} : ∀ {xs : List D} {st st' : Sto} {ds : List D}, lcGo bnd cf ef xs st = .ok ds st' → ds.length ≤ xs.length
  | [], st, st', ds, h => by
    unfold lcGo at h
    cases h
    exact Nat.le_refl _
  | x :: xs, st, st', ds, h => by
    unfold lcGo at h
    cases q : bnd x with
    | none => rw [q] at h; cases h
    | some ρ =>
      rw [q] at h
      obtain ⟨b, st1, e1, h⟩ := R.bind_ok h
      cases b <;> first | (cases h; done) | skip
      rename_i kk
      cases kk with
      | true =>
        obtain ⟨d, st2, e2, h⟩ := R.bind_ok h
        split at h
        · cases h
        · obtain ⟨ds2, st3, e3, h⟩ := R.bind_ok h
          cases h
          exact Nat.succ_le_succ (lcGo_length e3)
      | false => exact Nat.le_succ_of_le (lcGo_length h)
/-- what is made of a list, turn by turn -/
theorem lc_run {J : It} {xs : List D} {tg : T} {elt : E} {cond : List E} {own : List Nat} {σ : L2.St} {ρ : Env} {Q : VK} {stF : Sto} {dsF : List D} {W' : WX}
    (tr : ∀ a, ω.wr a ≠ none → H a ≠ none) (hl : Loc K ω dp ρ σ H) (s : StoOk K ω st H) (F : Feeds K J xs ω H) (sub : ∀ i ∈ (match tg with | .nm i => [i] | .tp is => is), i ∈ own)
    (e : lcGo (fun x => bindT tg x (wipeE ρ own)) (fun ρ st => evAnd1 C cond ρ st) (fun ρ st => ev C elt ρ st) xs st = .ok dsF stF)
    (q : ∀ ω' H', Ext (dp + 1) ω H ω' H' → StoOk K ω' stF H' → ∀ v, Rep K ω' H' (.lst dsF) v → Q v H') :
    ∀ D, H D = none → ∃ Wv : Nat → Nat → Hp → Prop, (∃ m, Wv 0 m (upd H D (.lst []))) ∧ ∀ i m H, Wv i m H →
      (J.stop i H ∧ Q (.ref D) H) ∨ (J.go i H ∧ ∃ Nx : Hp → Prop, (∀ H', Nx H' → ∃ m', m' < m ∧ Wv (i + 1) m' H') ∧ ∀ x H', J.yld i H x H' → gT K tg x (L2.wipe σ own) H' fun σ2 H2 => L2.wipe σ2 own = L2.wipe σ own ∧
        tTf K dp W' cls (fun ρ st => evAnd1 C cond ρ st) σ2 H2 fun b H3 =>
        if b = true then tEf K dp W' cls (fun ρ st => ev C elt ρ st) σ2 H3 fun y H4 => ∃ acc, H4 D = some (.lst acc) ∧ acc.length < sizeLine ∧ Nx (upd H4 D (.lst (acc ++ [y]))) else Nx H3) := by
  intro D hD
  refine ⟨fun i mm H2 => mm = xs.length - i ∧ i ≤ xs.length ∧ ∃ (ω2 : Wd) (st2 : Sto) (accD : List TL.D) (accV : List V) (rest : List TL.D), Ext (dp + 1) ω H ω2 H2 ∧ StoOk K ω2 st2 H2 ∧ ω2.wr D = some (.slot dp 0, [("" : Str)]) ∧ H2 D = some (.lst accV) ∧ Reps K ω2 H2 accD accV ∧
      accD.length ≤ i ∧ lcGo (fun x => bindT tg x (wipeE ρ own)) (fun ρ st => evAnd1 C cond ρ st) (fun ρ st => ev C elt ρ st) (xs.drop i) st2 = .ok rest stF ∧ dsF = accD ++ rest,
    ⟨xs.length, by simp, Nat.zero_le _, ω.put D (.slot dp 0, [("" : Str)]), st, [], [], dsF, .put tr hD, s.put hD, Wd.put_same, upd_same, rfl, Nat.le_refl _, e, rfl⟩, ?_⟩
  rintro i mm H2 ⟨rfl, hi, ω2, st2, accD, accV, rest, x2, s2, w2, h2, r2, l2, e2, ed⟩
  by_cases hlt : i < xs.length
  · rw [List.drop_eq_getElem_cons hlt] at e2
    unfold lcGo at e2
    cases qb : bindT tg xs[i] (wipeE ρ own) with
    | none => rw [qb] at e2; cases e2
    | some ρ2 =>
      rw [qb] at e2
      obtain ⟨b, st3, e3, e2⟩ := R.bind_ok e2
      refine .inr ⟨F.go ω2 H2 x2.kept i hlt, fun H3 => ∃ (ω3 : Wd) (st3 : Sto) (accD : List TL.D) (accV : List V) (rest : List TL.D), Ext (dp + 1) ω H ω3 H3 ∧ StoOk K ω3 st3 H3 ∧ ω3.wr D = some (.slot dp 0, [("" : Str)]) ∧ H3 D = some (.lst accV) ∧ Reps K ω3 H3 accD accV ∧
          accD.length ≤ i + 1 ∧ lcGo (fun x => bindT tg x (wipeE ρ own)) (fun ρ st => evAnd1 C cond ρ st) (fun ρ st => ev C elt ρ st) (xs.drop (i + 1)) st3 = .ok rest stF ∧ dsF = accD ++ rest,
        fun H3 h3 => ⟨xs.length - (i + 1), by omega, rfl, hlt, h3⟩, fun x H3 y => ?_⟩
      obtain ⟨gr, rx⟩ := F.yld ω2 H2 x2.kept i x H3 xs[i] (List.getElem?_eq_getElem hlt) y
      have s3 := s2.grow gr
      have x3 : Ext (dp + 1) ω2 H2 ω2 H3 := .ofGrow s2 gr
      have l3 : Loc K ω2 dp (wipeE ρ own) (L2.wipe σ own) H3 := (hl.ext (x2.trans x3)).wipe own
      refine gT_of l3 rx qb fun σ4 l4 hw => ⟨?_, ?_⟩
      · rw [hw own sub]
        clear hw l3 l4
        induction own with
        | nil => rfl
        | cons o own ih =>
          have key : ∀ (own : List Nat) (σ : L2.St), L2.wipe (L2.wipe σ own) own = L2.wipe σ own := by
            intro own
            induction own with
            | nil => intro σ; rfl
            | cons o own ih =>
              intro σ
              show (L2.wipe ((L2.wipe σ own).set o none) own).set o none = (L2.wipe σ own).set o none
              by_cases ho : o ∈ own
              · rw [wipe_set ho, ih]
              · rw [wipe_off ho, ih, List.set_set]
          exact key _ _
      · refine ⟨ω2, ρ2, st2, l4, s3, ?_⟩
        show Post K dp W' cls σ4 ω2 H3 (evAnd1 C cond ρ2 st2) _
        rw [e3]
        intro ω5 H5 x5 s5
        have hD5 := x5.fix D dp 0 [("" : Str)] w2 (Nat.lt_succ_self _)
        have w5 := hD5.1.trans w2
        have h5 : H5 D = some (.lst accV) := hD5.2.trans (gr _ _ h2)
        have r5 : Reps K ω5 H5 accD accV := (r2.grow gr).ext x5
        have x15 : Ext (dp + 1) ω H ω5 H5 := (x2.trans x3).trans x5
        cases b <;> first | (cases e2; done) | skip
        rename_i kk
        refine ⟨kk, rfl, ?_⟩
        cases kk with
        | false =>
          rw [if_neg Bool.false_ne_true]
          exact ⟨ω5, st3, accD, accV, rest, x15, s5, w5, h5, r5, Nat.le_succ_of_le l2, e2, ed⟩
        | true =>
          rw [if_pos rfl]
          obtain ⟨d, st6, e6, e2⟩ := R.bind_ok e2
          split at e2
          · cases e2
          obtain ⟨ds7, st7, e7, e2⟩ := R.bind_ok e2
          cases e2
          refine ⟨ω5, ρ2, st3, l4.ext x5, s5, ?_⟩
          show Post K dp W' cls σ4 ω5 H5 (ev C elt ρ2 st3) _
          rw [e6]
          intro ω6 H6 x6 s6 y ry
          have hD6 := x6.fix D dp 0 [("" : Str)] w5 (Nat.lt_succ_self _)
          have w6 := hD6.1.trans w5
          have h6 : H6 D = some (.lst accV) := hD6.2.trans h5
          have r6 : Reps K ω6 H6 accD accV := r5.ext x6
          refine ⟨accV, h6, ?_, ?_⟩
          · rw [r6.length]
            have := F.len
            omega
          · refine ⟨ω6, st6, accD ++ [d], accV ++ [y], ds7, (x15.trans x6).writeNew tr hD, s6.write w6 (.write w6 h6), w6, upd_same, ?_, ?_, e7, ?_⟩
            · have kw : Kept ω6 H6 ω6 (upd H6 D (.lst (accV ++ [y]))) := .write w6 h6
              exact (Reps.kept kw _ _ r6).append ⟨y, [], rfl, Rep.kept kw _ _ ry, rfl⟩
            · rw [List.length_append, List.length_singleton]
              omega
            · rw [ed, List.append_assoc]
              rfl
  · have e1 : i = xs.length := by omega
    subst e1
    rw [List.drop_length] at e2
    unfold lcGo at e2
    cases e2
    rw [List.append_nil] at ed
    subst ed
    refine .inl ⟨F.stop ω2 H2 x2.kept, ?_⟩
    refine q (ω2.free D) H2 (x2.freeNew tr hD w2) (s2.free w2) (.ref D) ⟨Nat.le_trans l2 F.len, D, accV, rfl, h2, ?_, Reps.kept (.free w2) _ _ r2⟩
    show (if D = D then none else ω2.wr D) = none
    rw [if_pos rfl]

theorem snd_lc_core {elt : E} {tg : T} {ik : IK} {ie cond : List E} {own : List Nat} {x t it : Expr} {ifs : List Expr} {scope : Scope} {pos : Pos} (he : SndE N G k C cls dp elt) (hi : ∀ m ∈ ie, SndE N G k C cls dp m) (hco : ∀ m ∈ cond, SndE N G k C cls dp m)
    (c : Cok X G k C cls N sc W) (h : chkE N G (.lc elt tg ik ie cond own) sc (.ListComp x [⟨t, it, ifs, 0⟩] scope pos) = true) :
    ∃ (ownN : List (Str × Nat)) (wi : TI) (g : TG) (tt : TT) (te : TE), PI X t it wi ∧ BlkOk X.N X.env.scope scope ownN ∧ (∀ (s : Shared) (H : Hp) (C : Addr) (cl : List (Str × Addr)) (fp : List Addr), PG (X.blk s H scope (compEnvC scope cl C X.env) fp) t g) ∧
      (∀ (s : Shared) (H : Hp) (C : Addr) (cl : List (Str × Addr)) (fp : List Addr), PTs (X.blk s H scope (compEnvC scope cl C X.env) fp) ifs tt) ∧
      (∀ (s : Shared) (H : Hp) (C : Addr) (cl : List (Str × Addr)) (fp : List Addr), PE (X.blk s H scope (compEnvC scope cl C X.env) fp) x te) ∧ (∀ x, foldedSetIterable it X.env x = pure x) ∧
      ∀ σ H Q, tE X.kw C dp W cls (.lc elt tg ik ie cond own) σ H Q → tLc wi g tt te (ownN.map (·.2)) σ H Q := by
  unfold chkE at h
  simp only [Bool.and_eq_true, decide_eq_true_eq] at h
  obtain ⟨⟨⟨⟨⟨⟨⟨h1, h2⟩, h3⟩, h4⟩, h5⟩, h6⟩, h7⟩, h8⟩ := h
  cases qi : itArgs G sc ik tg it with
  | none => rw [qi] at h8; cases h8
  | some es =>
    rw [qi] at h8
    have eown : (own.map fun (i : Nat) => ((N[i]?).getD ("" : Str), i)).map (·.2) = own := by
      rw [List.map_map]
      show own.map (fun i => i) = own
      simp
    refine ⟨own.map fun (i : Nat) => ((N[i]?).getD ("" : Str), i), _, gT X.kw tg, tTf X.kw dp (fun _ _ _ _ => False) cls (fun ρ st => evAnd1 C cond ρ st), tEf X.kw dp (fun _ _ _ _ => False) cls (fun ρ st => ev C elt ρ st), snd_it (own := own) hi c qi h8 (tg_shape h2),
      by rw [c.hN, c.hsc]; exact blkOk_by h1, fun s H Cc cl fp => ?_, fun s H Cc cl fp => ?_, fun s H Cc cl fp => (he _ _ _ x (c.blk s H scope Cc cl fp) h6).1, fold_ok h3 X.env, ?_⟩
    · exact tg_of (X := X.blk s H scope (compEnvC scope cl Cc X.env) fp) (c.blk s H scope Cc cl fp).hN c.nd (c.blk s H scope Cc cl fp).hsc (fun z => by cases z) c.calm h2
    · have cb := c.blk s H scope Cc cl fp
      cases ifs with
      | nil =>
        cases cond with
        | cons _ _ => simp at h4
        | nil =>
          refine ⟨fun pins s σ H Q I q => pts_nil.run pins s σ H Q I ?_⟩
          obtain ⟨ω, ρ, st, hl, hs, hp⟩ := q
          unfold evAnd1 at hp
          obtain ⟨b, e, q⟩ := hp ω H .refl hs
          cases e
          exact q
      | cons f fs =>
        cases fs with
        | cons _ _ => simp at h5
        | nil =>
          match cond, h4 with
          | [m], _ =>
            unfold chkEs at h7
            simp only [Bool.and_eq_true] at h7
            obtain ⟨A, B⟩ := hco m List.mem_cons_self _ _ _ f cb h7.1.1
            refine pts_one (pt_imp B ?_)
            rintro σ H Q ⟨ω, ρ, st, hl, hs, hp⟩
            unfold evAnd1 at hp
            exact ⟨ω, ρ, st, hl, hs, hp⟩
    · rintro σ H Q ⟨ω, ρ, st, hl, hs, hp⟩
      unfold ev at hp
      rw [eown]
      refine ⟨ω, ρ, st, hl, hs, (Post.bind hp).mono fun ds st1 ω1 H1 x1 s1 q1 => ?_⟩
      cases qx : items ik ds with
      | none => rw [qx] at q1; exact q1.elim
      | some xs =>
        rw [qx] at q1
        refine ⟨xs, rfl, fun J F => ?_⟩
        cases qr : lcGo (fun x => bindT tg x (wipeE ρ own)) (fun ρ st => evAnd1 C cond ρ st) (fun ρ st => ev C elt ρ st) xs st1 with
        | exc cc st2 => simp only [qr] at q1; exact q1.elim
        | fail => simp only [qr] at q1; exact q1.elim
        | ok dsF stF =>
          simp only [qr] at q1
          exact lc_run s1.trk (hl.ext x1) s1 F (tg_sub h2) qr fun ω' H' x' s' v r => q1 ω' H' x' s' v r
theorem snd_lc {elt : E} {tg : T} {ik : IK} {ie cond : List E} {own : List Nat} (he : SndE N G k C cls dp elt) (hi : ∀ m ∈ ie, SndE N G k C cls dp m) (hco : ∀ m ∈ cond, SndE N G k C cls dp m) : SndE N G k C cls dp (.lc elt tg ik ie cond own) := by
  intro X sc W e c h
  have h' := h
  unfold chkE at h
  split at h
  · obtain ⟨ownN, wi, g, tt, te, A, B, D, E, F, I, J⟩ := snd_lc_core he hi hco c h'
    exact both_of (pe_imp (pe_lc c.calm (by rw [c.hN]; exact c.nd) A B D E F I) J) rfl
  · cases h
end
end TL

namespace TL
open PySem L2 PyProof.Rows
section
variable {X : Cx} {CX : CXT} {k : Nat} {f C : Addr} {fd : FuncData} {ps : List Str} {sp : Sp} {E : L2.St → XK} {x m : Str} {p p2 pos apos : Pos} {e : Expr} {es : List Expr} {ta : TE} {t : TA}
/-- o.m(..), an exception at the slots as they are -/
def tMethS (C : Addr) (m : Str) (sp : Sp) (E : L2.St → XK) (ta : TE) (t : TA) : TE := fun σ H Q => ta σ H fun x H1 => ∃ a dx fs, x = .ref a ∧ H1 a = some (.ins C dx fs) ∧ fs.lookup m = none ∧
  t σ H1 fun vs H2 => sp (x :: vs) H2 Q (E σ)
theorem meth_eq {env : PySem.Env} {o : Expr} {m : Str} {apos pos : Pos} {args : List Expr} (hb : attributeBase o m env (eval o env) = eval o env) (hf : methodCallForm (args.length + ([] : List Keyword).length) (backTo pos (starEach args env)) (backToKw pos (keywordEach [] env)) = true) (hl : (apos.endLine == pos.line) = true) :
    eval (.Call (.Attribute o m apos) args [] pos) env = (do
      let ov ← eval o env
      standAt apos.atName
      let (f, first) ← holding [ov] (getMethod ov m (do return (← importBound o env).getD true))
      callWith pos f first (backTo pos (starEach args env)) (backToKw pos (keywordEach [] env))) := by
  have hp : methodCallPos true o env apos pos = pure pos := by unfold methodCallPos; simp [hl]
  rw [arm_eval_Call, hb]
  unfold methodCall
  rw [hf]
  simp only [hp, calleeOf, if_true]
  rfl
theorem stars_form {env : PySem.Env} {pos : Pos} : ∀ {es : List Expr}, es.all notStar = true → (backTo pos (starEach es env)).all (fun x => !x.1) = true
  | [], _ => rfl
  | e :: es, h => by
    rw [List.all_cons, Bool.and_eq_true] at h
    rw [star_of h.1]
    show (!false && (backTo pos (starEach es env)).all (fun x => !x.1)) = true
    rw [stars_form h.2]
    rfl
theorem form_of {env : PySem.Env} {pos : Pos} {es : List Expr} (h : es.all notStar = true) (l : es.length < 29) : methodCallForm (es.length + ([] : List Keyword).length) (backTo pos (starEach es env)) (backToKw pos (keywordEach [] env)) = true := by
  unfold methodCallForm
  rw [stars_form h]
  have : (backToKw pos (keywordEach [] env)) = [] := rfl
  rw [this]
  simp
  omega
theorem pe_mS {o : Expr} (hat : attributeBase o m X.env (eval o X.env) = eval o X.env) (he : PE X o ta) (c : Cls X.K C) (hm : Meth X.K C m f) (F : FnOk X.prog X.w X.K X.mg X.base CX k f fd ps sp) (hr : Room k X.A) (hb : Binds X.K fd ps []) (hx : ∀ σ, PassesAt CX X σ (E σ)) (ha : PA X (e :: es) t)
    (hst : starEach (e :: es) X.env = (false, eval e X.env) :: starEach es X.env) (hpl : (backTo pos (starEach es X.env)).any (·.1) = false) (hf : methodCallForm ((e :: es).length + ([] : List Keyword).length) (backTo pos (starEach (e :: es) X.env)) (backToKw pos (keywordEach [] X.env)) = true) (hl : (apos.endLine == pos.line) = true) :
    PE X (.Call (.Attribute o m apos) (e :: es) [] pos) (tMethS C m sp E ta t) := by
  refine ⟨fun pins s σ H Q I h => ?_⟩
  refine PySem.W.methodCall_KW (thn (he.run pins s σ H _ I h) fun u s1 ⟨x, H1, I1, rx, a, dx, fs, ex, ea, l, q⟩ => ?_) (meth_eq hat hf hl)
  subst ex
  obtain rfl : u = Value.ref a := rx
  refine getmeth_ok I1 ea c hm l ?_
  refine PySem.W.callWith_K (first := [.ref a]) (h₀ := X.base) I.ok.mod.kin hm.kp (thn (ha.run pos pins s1 σ H1 _ I1 q) fun us s2 ⟨vs, H2, I2, r, q2⟩ => ⟨I2.kIn, ?_⟩) hst hpl
  exact run_fnS (us := .ref a :: us) (vs := .ref a :: vs) F hr hb (hx σ) I2 (.cons rfl r) q2
theorem pe_mS0 {o : Expr} (hat : attributeBase o m X.env (eval o X.env) = eval o X.env) (he : PE X o ta) (c : Cls X.K C) (hm : Meth X.K C m f) (F : FnOk X.prog X.w X.K X.mg X.base CX k f fd ps sp) (hr : Room k X.A) (hb : Binds X.K fd ps []) (hx : ∀ σ, PassesAt CX X σ (E σ)) (hl : (apos.endLine == pos.line) = true) :
    PE X (.Call (.Attribute o m apos) [] [] pos) (tMethS C m sp E ta tNil) := by
  refine ⟨fun pins s σ H Q I h => ?_⟩
  refine PySem.W.methodCall_KW (thn (he.run pins s σ H _ I h) fun u s1 ⟨x, H1, I1, rx, a, dx, fs, ex, ea, l, q⟩ => ?_) (meth_eq hat (form_of (es := []) rfl (by decide)) hl)
  subst ex
  obtain rfl : u = Value.ref a := rx
  refine getmeth_ok I1 ea c hm l ?_
  exact PySem.W.callWith_K0 (first := [.ref a]) I1.kIn hm.kp (run_fnS (us := [.ref a]) (vs := [.ref a]) F hr hb (hx σ) I1 (.cons rfl .nil) q)
/-- C(..) -/
def tMakeS (C : Addr) (sp : Sp) (E : L2.St → XK) (t : TA) : TE := fun σ H Q => t σ H fun vs H1 => ∀ x dx, H1 x = none → H1 dx = none → dx ≠ x →
  sp (.ref x :: vs) (upd (upd H1 dx (.own x)) x (.ins C dx [])) (fun v H2 => v = .non ∧ Q (.ref x) H2) (E σ)
theorem run_makeS {pins : List (Addr × Obj)} {σ : L2.St} {H : Hp} {s : Shared} {Q : VK} {us : List Value} {vs : List V} (M : Mk X.K C f) (F : FnOk X.prog X.w X.K X.mg X.base CX k f fd ps sp) (hr : Room (k + 1) X.A) (hb : Binds X.K fd ps [])
    (hx : PassesAt CX X σ (E σ)) (I : Inv X pins σ H s) (r : Vals vs us)
    (h : ∀ x dx, H x = none → H dx = none → dx ≠ x → sp (.ref x :: vs) (upd (upd H dx (.own x)) x (.ins C dx [])) (fun v H2 => v = .non ∧ Q (.ref x) H2) (E σ)) :
    wpAny (model X.prog X.w) X.A (call (.ref C) us) (EP X pins σ Q) X.xe s := by
  have hq := h (s.heap.objs.size + 1) s.heap.objs.size (I.hok.fresh (Nat.le_succ _)) (I.hok.fresh (Nat.le_refl _)) (Nat.ne_of_lt (Nat.lt_succ_self _))
  have I2 := Inv.made (C := C) I
  have r2 : Vals (V.ref (s.heap.objs.size + 1) :: vs) (Value.ref (s.heap.objs.size + 1) :: us) := .cons rfl r
  have hl : (Value.ref (s.heap.objs.size + 1) :: us).length = ps.length := by
    rw [← r2.length]
    exact F.len _ _ _ _ hq
  have b := hb { s with heap := (s.heap.push PySem.W.emptyDict).push (PySem.W.instObj C s.heap.objs.size) } (Value.ref (s.heap.objs.size + 1) :: us) I2.kIn (by rw [List.append_nil]; exact hl)
  rw [List.append_nil] at b
  refine wpAny_call (make_map (f := f) I.kIn M.makes M.init (beq_iff_eq.mp M.fn) (codeAny_mono (F.run _ X.stack _ _ ⟨Value.ref (s.heap.objs.size + 1) :: us, []⟩ (Value.ref (s.heap.objs.size + 1) :: us) _ _ (E σ) (hr.make C us [])
    (I2.env0.make C us []) b r2 hq) fun r s' hq' => ?_))
  cases r with
  | error e => exact hx pins _ _ e s' I2 hq'
  | ok fl =>
    cases fl with
    | ret u =>
      obtain ⟨v, H', I3, rv, ev, q3⟩ := I2.after hq'
      subst ev
      exact ⟨rv, ⟨V.ref (s.heap.objs.size + 1), H', I3, rfl, q3⟩⟩
    | next => exact False.elim hq'
    | brk => exact False.elim hq'
    | cont => exact False.elim hq'
theorem pe_mkS (M : Mk X.K C f) (F : FnOk X.prog X.w X.K X.mg X.base CX k f fd ps sp) (hr : Room (k + 1) X.A) (hg : Gl X x) (hm : X.mg x = some (.ref C)) (hb : Binds X.K fd ps []) (hx : ∀ σ, PassesAt CX X σ (E σ))
    (ha : PA X (e :: es) t) (hdb : (x == ("__debug__" : Str)) = false) (he : starEach (e :: es) X.env = (false, eval e X.env) :: starEach es X.env) (hpl : (backTo pos (starEach es X.env)).any (·.1) = false) :
    PE X (.Call (.Name x p) (e :: es) [] pos) (tMakeS C sp E t) := by
  refine ⟨fun pins s σ H Q I h => ?_⟩
  refine wpAny_Call_Name_kw (ld_glob I hg hm ?_ hdb)
  refine PySem.W.callWith_K (h₀ := X.base) I.ok.mod.kin M.kp (thn (ha.run pos pins s σ H _ I h) fun us s1 ⟨vs, H1, I1, r, q⟩ => ⟨I1.kIn, ?_⟩) he hpl
  exact run_makeS M F hr hb (hx σ) I1 r q
end
section
variable {X : Cx} {N : List Str} {G : GT} {k : Nat} {C : Cal} {cls : Nat → Value} {dp : Nat} {sc : Scope} {W : WX} {m : E} {ms : List E} {K : KW} {ω : Wd} {H : Hp}
theorem FldsR.lookup {l : Nat} : ∀ {fs : List (Str × D)} {vs : List (Str × V)}, FldsR K ω H l fs vs → ∀ f, match fs.lookup f with
    | none => vs.lookup f = none
    | some d => ∃ v, vs.lookup f = some v ∧ OwnAt K ω H (.cell l) [f] d v
  | [], vs, h, f => by
    rw [show vs = [] from h]
    rfl
  | (g, d) :: fs, vs, h, f => by
    obtain ⟨v, r, rfl, h1, h2⟩ := h
    rw [List.lookup_cons, List.lookup_cons]
    by_cases e : f = g
    · subst e
      rw [beq_self_eq_true]
      exact ⟨v, rfl, h1⟩
    · rw [show (f == g) = false from by simpa using e]
      exact h2.lookup f
theorem own_ptr {l : Nat} {p : List Str} {d : D} {v : V} (o : d.own = true) (h : OwnAt K ω H (.cell l) p d v) : Rep K ω H (.ptr l p) v := by
  cases d <;> first | (cases o; done) | exact h.elim | skip
  · obtain ⟨a, vs, e, _, w, _⟩ := h
    exact ⟨a, e, w⟩
  · obtain ⟨a, vs, e, _, w, _⟩ := h
    exact ⟨a, e, w⟩
theorem cls_of (c : Cok X G k C cls N sc W) {p : CT → Bool} (h : (G.cls.any p) = true) : ∃ ct ∈ G.cls, p ct = true := List.any_eq_true.mp h
theorem snd_fld {c₀ f : Str} (hm : SndE N G k C cls dp m) : SndE N G k C cls dp (.fld c₀ m f) := by
  intro X sc W e c h
  unfold chkE at h
  split at h
  · rename_i a f' pos
    simp only [Bool.and_eq_true, decide_eq_true_eq] at h
    obtain ⟨⟨⟨rfl, h2⟩, h3⟩, h4⟩ := h
    obtain ⟨ct, hct, hc⟩ := cls_of c h3
    simp only [Bool.and_eq_true, decide_eq_true_eq] at hc
    obtain ⟨rfl, hf⟩ := hc
    obtain ⟨Ca, hmg, hns, hcl, hna, _, _⟩ := c.clss ct hct
    refine both_of (pe_imp (pe_fld (hm X sc W a c h4).1 (attr_ok h2 _ _)) ?_) rfl
    rintro σ H Q ⟨ω, ρ, st, hl, hs, hp⟩
    unfold ev at hp
    refine ⟨ω, ρ, st, hl, hs, (Post.bind hp).mono fun x st1 ω1 H1 x1 s1 q1 v r1 => ?_⟩
    obtain ⟨d, e, q⟩ := Post.lift q1
    unfold fldD at e
    split at e
    · rename_i l
      split at e
      · rename_i c' fs hst
        split at e
        · rename_i hc'
          subst hc'
          obtain ⟨a2, C2, dx, vs, m2, H2, w2, n2, nd, fr⟩ := s1.at_ l _ hst
          obtain ⟨a3, m3, rfl⟩ := r1
          rw [m2] at m3
          cases m3
          rw [n2] at hns
          cases hns
          have lk := fr.lookup f'
          cases hlk : fs.lookup f' with
          | none => rw [hlk] at e; cases e
          | some d0 =>
            rw [hlk] at e lk
            obtain ⟨v0, l0, fr0⟩ := lk
            simp only [Option.map] at e
            cases e
            refine ⟨a2, _, dx, vs, v0, rfl, H2, hcl, hna _ hf, l0, q ω1 H1 .refl s1 v0 ?_⟩
            by_cases ho : d0.own = true
            · rw [if_pos ho]
              exact own_ptr ho fr0
            · rw [if_neg ho]
              exact fr0.rep (by simpa using ho)
        · cases e
      · cases e
    · cases e
  · cases h
theorem snd_meth {i : Nat} {c₀ mn : Str} (hm : SndE N G k C cls dp m) (hms : ∀ m ∈ ms, SndE N G k C cls dp m) : SndE N G k C cls dp (.meth i c₀ mn m ms) := by
  intro X sc W e c h
  unfold chkE at h
  split at h
  · rename_i o f' apos es pos
    simp only [Bool.and_eq_true, decide_eq_true_eq] at h
    obtain ⟨⟨⟨⟨⟨⟨rfl, hln⟩, hes⟩, h3⟩, hao⟩, h4⟩, h5⟩ := h
    obtain ⟨ct, hct, hc⟩ := cls_of c h3
    simp only [Bool.and_eq_true, decide_eq_true_eq] at hc
    obtain ⟨rfl, hf⟩ := hc
    obtain ⟨Ca, hmg, hns, hcl, hna, hme, _⟩ := c.clss ct hct
    obtain ⟨g, fd, ps, hM, F, hb⟩ := hme _ _ hf
    obtain ⟨A, B⟩ := snd_es hms X sc W es c h5
    have key : ∀ σ H Q, tE X.kw C dp W cls (.meth i ct.name f' m ms) σ H Q → tMethS Ca f' (spC X.kw C cls i) (WE W) (tE X.kw C dp W cls m) (tEs X.kw C dp W cls ms) σ H Q := by
      rintro σ H Q ⟨ω, ρ, st, hl, hs, hp⟩
      unfold ev at hp
      refine ⟨ω, ρ, st, hl, hs, (Post.bind hp).mono fun x st1 ω1 H1 x1 s1 q1 v r1 => ?_⟩
      split at q1
      · rename_i hh
        unfold hasM at hh
        split at hh
        · rename_i l
          split at hh
          · rename_i c' fs hst
            simp only [Bool.and_eq_true, decide_eq_true_eq] at hh
            obtain ⟨hc', hn⟩ := hh
            subst hc'
            obtain ⟨a2, C2, dx, vs, m2, H2, w2, n2, nd, fr⟩ := s1.at_ l _ hst
            obtain ⟨a3, m3, rfl⟩ := r1
            have r1 : Rep X.kw ω1 H1 (.ref l) (.ref a3) := ⟨a3, m3, rfl⟩
            have m3' := m3
            rw [m2] at m3'
            cases m3'
            rw [n2] at hns
            cases hns
            have lk := fr.lookup f'
            rw [Option.isNone_iff_eq_none.mp hn] at lk
            refine ⟨a2, dx, vs, rfl, H2, lk, ω1, ρ, st1, hl.ext x1, s1, (Post.bind q1).mono fun ds st2 ω2 H3 x2 s2 q2 vs2 r2 => ?_⟩
            refine ⟨ω2, st2, .ref l :: ds, dp + 1, s2, ⟨_, _, rfl, r1.ext x2, r2⟩, ?_⟩
            revert q2
            cases C i (.ref l :: ds) st2 with
            | ok d st3 => exact fun q1 ω2 v H2 x2 s2 r2 => q1 ω2 H2 x2 s2 v r2
            | exc cc st3 => exact fun q1 ω2 H2 x2 s2 => q1 ω2 H2 x2 s2
            | fail => exact fun q1 => q1
          · cases hh
        · cases hh
      · exact q1.elim
    have nilms : es = [] → ms = [] := by
      rintro rfl
      cases ms with
      | nil => rfl
      | cons _ _ => simp [chkEs] at h5
    cases es with
    | nil =>
      have e0 := nilms rfl
      subst e0
      refine both_of (pe_imp (pe_mS0 (attr_ok hao _ _) (hm X sc W _ c h4).1 hcl hM F c.room hb (fun σ => passAt c.tk σ) hln) fun σ H Q q => ?_) rfl
      obtain ⟨ω, ρ, st, hl, hs, hp⟩ := key σ H Q q
      refine ⟨ω, ρ, st, hl, hs, hp.mono fun x st1 ω1 H1 x1 s1 q1 v r1 => ?_⟩
      obtain ⟨a, dx, fs, e1, e2, e3, ω2, ρ2, st2, hl2, hs2, hp2⟩ := q1 v r1
      refine ⟨a, dx, fs, e1, e2, e3, ?_⟩
      have := hp2
      unfold evs at this
      exact this ω2 _ .refl hs2 [] rfl
    | cons e es =>
      have B' := B
      rw [List.all_cons, Bool.and_eq_true] at B
      refine both_of (pe_imp (pe_mS (attr_ok hao _ _) (hm X sc W _ c h4).1 hcl hM F c.room hb (fun σ => passAt c.tk σ) A (star_of B.1 es X.env) (stars_of B.2) (form_of B' hes) hln) key) rfl
  · cases h
/-- a new cell -/
def Wd.cellW (ω : Wd) (x : Addr) : Wd := { mu := ω.mu ++ [x], wr := fun b => if b = x then some (.cell ω.mu.length, []) else ω.wr b }
theorem cell_kept {x dx : Addr} {o o' : HO} (tr : ∀ a, ω.wr a ≠ none → H a ≠ none) (hx : H x = none) (hdx : H dx = none) : Kept ω H (ω.cellW x) (upd (upd H dx o) x o') where
  mu := ⟨[x], rfl⟩
  cell := fun a l p e => by
    have ne : a ≠ x := fun z => tr a (by rw [e]; simp) (by rw [z]; exact hx)
    show (if a = x then some _ else ω.wr a) = _
    rw [if_neg ne]
    exact e
  tup := fun a xs e => by rw [upd_ne (ne_of_none e hx), upd_ne (ne_of_none e hdx)]; exact e
  frz := fun a o u e => by rw [upd_ne (ne_of_none e hx), upd_ne (ne_of_none e hdx)]; exact e
  lst := fun a xs e w => by
    refine ⟨by rw [upd_ne (ne_of_none e hx), upd_ne (ne_of_none e hdx)]; exact e, ?_⟩
    show (if a = x then some _ else ω.wr a) = none
    rw [if_neg (ne_of_none e hx)]
    exact w
  dic := fun a xs e w => by
    refine ⟨by rw [upd_ne (ne_of_none e hx), upd_ne (ne_of_none e hdx)]; exact e, ?_⟩
    show (if a = x then some _ else ω.wr a) = none
    rw [if_neg (ne_of_none e hx)]
    exact w
theorem cell_same {x dx : Addr} {o o' : HO} (tr : ∀ a, ω.wr a ≠ none → H a ≠ none) (hx : H x = none) (hdx : H dx = none) {a : Addr} {t : Root × List Str} (e : ω.wr a = some t) : (ω.cellW x).wr a = ω.wr a ∧ upd (upd H dx o) x o' a = H a := by
  have n1 : a ≠ x := fun z => tr a (by rw [e]; simp) (by rw [z]; exact hx)
  have n2 : a ≠ dx := fun z => tr a (by rw [e]; simp) (by rw [z]; exact hdx)
  refine ⟨?_, by rw [upd_ne n1, upd_ne n2]⟩
  show (if a = x then some _ else ω.wr a) = ω.wr a
  rw [if_neg n1]
theorem cell_ext {d : Nat} {x dx : Addr} {o o' : HO} (tr : ∀ a, ω.wr a ≠ none → H a ≠ none) (hx : H x = none) (hdx : H dx = none) : Ext d ω H (ω.cellW x) (upd (upd H dx o) x o') :=
  ⟨cell_kept tr hx hdx, fun a k i p e _ => cell_same tr hx hdx e⟩
theorem cell_sto {st : Sto} {c : Str} {x dx Ca : Addr} {o : HO} (s : StoOk K ω st H) (hx : H x = none) (hdx : H dx = none) (hc : PySem.W.nsIn K.K mainGlobals c = some (some (.ref Ca))) : StoOk K (ω.cellW x) (st ++ [.ins c []]) (upd (upd H dx o) x (.ins Ca dx [])) where
  inj := fun a b l p e e' => by
    have e : (if a = x then some (Root.cell ω.mu.length, ([] : List Str)) else ω.wr a) = some (.cell l, p) := e
    have e' : (if b = x then some (Root.cell ω.mu.length, ([] : List Str)) else ω.wr b) = some (.cell l, p) := e'
    have no : ∀ c p, ω.wr c ≠ some (.cell ω.mu.length, p) := fun c p z => by
      obtain ⟨d, hd, _⟩ := s.dom _ _ _ z
      rw [s.len, List.getElem?_eq_none (Nat.le_refl _)] at hd
      cases hd
    by_cases z1 : a = x
    · by_cases z2 : b = x
      · rw [z1, z2]
      · rw [if_pos z1] at e
        rw [if_neg z2] at e'
        cases e
        exact absurd e' (no _ _)
    · rw [if_neg z1] at e
      by_cases z2 : b = x
      · rw [if_pos z2] at e'
        cases e'
        exact absurd e (no _ _)
      · rw [if_neg z2] at e'
        exact s.inj a b l p e e'
  dom := fun a l p e => by
    have e : (if a = x then some (Root.cell ω.mu.length, ([] : List Str)) else ω.wr a) = some (.cell l, p) := e
    by_cases z1 : a = x
    · rw [if_pos z1] at e
      cases e
      rw [s.len, List.getElem?_append_right (Nat.le_refl _), Nat.sub_self]
      exact ⟨_, rfl, .inl rfl⟩
    · rw [if_neg z1] at e
      obtain ⟨d, hd, q⟩ := s.dom _ _ _ e
      rw [List.getElem?_append_left (List.getElem?_eq_some_iff.mp hd).1]
      exact ⟨d, hd, q⟩
  len := by show (ω.mu ++ [x]).length = _; rw [List.length_append, List.length_append, s.len]; rfl
  trk := fun a e => by
    by_cases q : a = x
    · rw [q, upd_same]; simp
    · rw [upd_ne q]
      have e' : (if a = x then some _ else ω.wr a) ≠ none := e
      rw [if_neg q] at e'
      by_cases q2 : a = dx
      · rw [q2, upd_same]; simp
      · rw [upd_ne q2]
        exact s.trk a e'
  at_ := fun l d e => by
    by_cases hl : l < st.length
    · rw [List.getElem?_append_left hl] at e
      exact (s.at_ l d e).kept ⟨cell_kept s.trk hx hdx, fun a p e => cell_same s.trk hx hdx e⟩
    · have e0 := (List.getElem?_eq_some_iff.mp e).1
      rw [List.length_append, List.length_singleton] at e0
      have hl' : l = st.length := by omega
      subst hl'
      rw [List.getElem?_append_right (Nat.le_refl _), Nat.sub_self] at e
      cases e
      refine ⟨x, Ca, dx, [], ?_, upd_same, ?_, hc, by simp, rfl⟩
      · show (ω.mu ++ [x])[st.length]? = some x
        rw [← s.len, List.getElem?_append_right (Nat.le_refl _), Nat.sub_self]
        rfl
      · show (if x = x then some (Root.cell ω.mu.length, ([] : List Str)) else ω.wr x) = _
        rw [if_pos rfl, s.len]
theorem snd_make {i : Nat} {c₀ : Str} (hms : ∀ m ∈ ms, SndE N G k C cls dp m) : SndE N G k C cls dp (.make i c₀ ms) := by
  intro X sc W e c h
  unfold chkE at h
  split at h
  · rename_i x p es pos
    simp only [Bool.and_eq_true, decide_eq_true_eq] at h
    obtain ⟨⟨⟨⟨⟨rfl, h2⟩, h3⟩, h4⟩, h5⟩, h6⟩ := h
    obtain ⟨ct, hct, hc⟩ := cls_of c h5
    simp only [Bool.and_eq_true, decide_eq_true_eq] at hc
    obtain ⟨rfl, rfl⟩ := hc
    obtain ⟨Ca, hmg, hns, hcl, hna, _, g, fd, ps, M, F, hb⟩ := c.clss ct hct
    obtain ⟨A, B⟩ := snd_es hms X sc W es c h6
    have nm := nameOk_of h3
    cases es with
    | nil => simp at h4
    | cons e es =>
      rw [List.all_cons, Bool.and_eq_true] at B
      refine both_of (pe_imp (pe_mkS M F c.room1 (glb_of c.hsc h2) hmg hb (fun σ => passAt c.tk σ) A nm.d (star_of B.1 es X.env) (stars_of B.2)) ?_) rfl
      rintro σ H Q ⟨ω, ρ, st, hl, hs, hp⟩
      unfold ev at hp
      refine ⟨ω, ρ, st, hl, hs, (Post.bind hp).mono fun ds st1 ω1 H1 x1 s1 q1 vs r1 => ?_⟩
      intro x dx hx hdx _
      have xx : Ext (dp + 1) ω1 H1 (ω1.cellW x) (upd (upd H1 dx (.own x)) x (.ins Ca dx [])) := cell_ext s1.trk hx hdx
      have ss : StoOk X.kw (ω1.cellW x) (st1 ++ [.ins ct.name []]) (upd (upd H1 dx (.own x)) x (.ins Ca dx [])) := cell_sto s1 hx hdx hns
      have ref0 : (ω1.cellW x).mu[st1.length]? = some x := by
        show (ω1.mu ++ [x])[st1.length]? = some x
        rw [← s1.len, List.getElem?_append_right (Nat.le_refl _), Nat.sub_self]
        rfl
      refine ⟨ω1.cellW x, _, .ref st1.length :: ds, dp + 1, ss, ⟨_, _, rfl, ⟨x, ref0, rfl⟩, r1.ext xx⟩, ?_⟩
      revert q1
      cases C ct.init (.ref st1.length :: ds) (st1 ++ [.ins ct.name []]) with
      | ok d st2 =>
        cases d with
        | non =>
          intro q1 ω2 v H2 x2 s2 r2
          refine ⟨r2, q1 ω2 H2 (xx.trans x2) s2 (.ref x) ⟨x, ?_, rfl⟩⟩
          obtain ⟨t, ht⟩ := x2.kept.mu
          rw [← ht, List.getElem?_append_left (List.getElem?_eq_some_iff.mp ref0).1]
          exact ref0
        | _ => exact fun q1 => q1.elim
      | exc cc st2 => exact fun q1 ω2 H2 x2 s2 => q1 ω2 H2 (xx.trans x2) s2
      | fail => exact fun q1 => q1
  · cases h
end
end TL

namespace TL
open PySem L2 PyProof.Rows
section
variable {K : KW} {ω ω' : Wd} {H H' : Hp} {t : Root} {st st' : Sto}
theorem EntsR.lookup {p : List Str} {k : Str} : ∀ {kvs : List (Str × D)} {kws : List (Key × V)}, EntsR K ω H t p kvs kws → match kvs.lookup k with
    | none => valV kws (.inr k) = none
    | some d => ∃ v, valV kws (.inr k) = some v ∧ OwnAt K ω H t (p ++ [k]) d v
  | [], kws, r => by
    cases r
    exact valV_nil
  | (k', d) :: kvs, kws, r => by
    obtain ⟨v, r', rfl, l1, h1, h2⟩ := r
    rw [List.lookup_cons]
    by_cases e : k = k'
    · subst e
      rw [beq_self_eq_true]
      exact ⟨v, valV_pos rfl, h1⟩
    · rw [show (k == k') = false from by simpa using e]
      have e2 : valV ((Sum.inr k', v) :: r') (Sum.inr k) = valV r' (.inr k) := valV_neg (p := ((Sum.inr k' : Key), v)) (fun z => e (Sum.inr.inj z).symm)
      rw [e2]
      exact EntsR.lookup h2
theorem EntsR.length {p : List Str} : ∀ {kvs : List (Str × D)} {kws : List (Key × V)}, EntsR K ω H t p kvs kws → kws.length = kvs.length
  | [], kws, r => by cases r; rfl
  | (k', d) :: kvs, kws, r => by
    obtain ⟨v, r', rfl, l1, h1, h2⟩ := r
    rw [List.length_cons, List.length_cons, EntsR.length h2]
theorem EntsR.keys {p : List Str} : ∀ {kvs : List (Str × D)} {kws : List (Key × V)}, EntsR K ω H t p kvs kws → kws.map (·.1) = (kvs.map (·.1)).map Sum.inr ∧ ∀ k ∈ kvs.map (·.1), k.length ≤ sizeLine
  | [], kws, r => by cases r; exact ⟨rfl, by simp⟩
  | (k', d) :: kvs, kws, r => by
    obtain ⟨v, r', rfl, l1, h1, h2⟩ := r
    obtain ⟨a, b⟩ := EntsR.keys h2
    refine ⟨by rw [List.map_cons, List.map_cons, List.map_cons, a], fun k hk => ?_⟩
    rw [List.map_cons] at hk
    rcases List.mem_cons.mp hk with rfl | hk
    · exact l1
    · exact b k hk
theorem OwnAt.ref {p : List Str} {d : D} {v : V} (o : d.own = true) (h : OwnAt K ω H t p d v) : ∃ a, v = .ref a ∧ ω.wr a = some (t, p) := by
  cases d <;> first | (cases o; done) | exact h.elim | skip
  · obtain ⟨a, vs, e, _, w, _⟩ := h
    exact ⟨a, e, w⟩
  · obtain ⟨a, vs, e, _, w, _⟩ := h
    exact ⟨a, e, w⟩
theorem OwnAt.sub : ∀ (q : List Str) {p : List Str} {d d' : D} {v : V}, OwnAt K ω H t p d v → sub d q = some d' → ∃ v', OwnAt K ω H t (p ++ q) d' v'
  | [], p, d, d', v, h, e => by
    have e : some d = some d' := by cases d <;> exact e
    cases e
    exact ⟨v, by rw [List.append_nil]; exact h⟩
  | k :: q, p, d, d', v, h, e => by
    cases d <;> first | (cases e; done) | skip
    rename_i kvs
    obtain ⟨a, kws, rfl, ha, w, nd, r⟩ := h
    have r := r.lookup (k := k)
    unfold TL.sub at e
    cases q1 : kvs.lookup k with
    | none => rw [q1] at e; cases e
    | some dk =>
      rw [q1] at e r
      obtain ⟨vk, _, hk⟩ := r
      obtain ⟨v', h'⟩ := OwnAt.sub q hk e
      rw [List.append_assoc] at h'
      exact ⟨v', h'⟩
theorem modK_keys (k : Str) (g : D → D) : ∀ kvs : List (Str × D), (modK k g kvs).map (·.1) = kvs.map (·.1)
  | [] => rfl
  | (j, d) :: r => by
    unfold modK
    split
    · rfl
    · rw [List.map_cons, List.map_cons, modK_keys k g r]
theorem path_ne {p q : List Str} {k : Str} : p ≠ p ++ k :: q := fun e => by
  have := congrArg List.length e
  rw [List.length_append, List.length_cons] at this
  omega
theorem EntsR.repl {a : Addr} {ob : HO} {g : D → D} {k : Str} {q p : List Str} (kp : Kept ω H ω (upd H a ob)) (w : ω.wr a = some (t, p ++ k :: q)) {dk : D} (ih : ∀ v, OwnAt K ω H t (p ++ [k]) dk v → OwnAt K ω (upd H a ob) t (p ++ [k]) (g dk) v) :
    ∀ {kvs : List (Str × D)} {kws : List (Key × V)}, (kvs.map (·.1)).Nodup → kvs.lookup k = some dk → EntsR K ω H t p kvs kws → EntsR K ω (upd H a ob) t p (modK k g kvs) kws
  | [], _, _, q1, _ => nomatch q1
  | (j, dj) :: kvs, kws, nd, q1, r => by
    obtain ⟨v, r', rfl, l1, h1, h2⟩ := r
    rw [List.map_cons, List.nodup_cons] at nd
    rw [List.lookup_cons] at q1
    unfold modK
    by_cases hj : j = k
    · subst hj
      rw [beq_self_eq_true] at q1
      cases q1
      rw [if_pos rfl]
      refine ⟨v, r', rfl, l1, ih v h1, EntsR.frame kp _ _ _ (fun b i s hi wb => ⟨rfl, upd_ne fun z => ?_⟩) h2⟩
      rw [z, w] at wb
      have := List.append_cancel_left (Prod.ext_iff.mp (Option.some.inj wb)).2
      have e := (List.cons.inj this).1
      rw [e] at nd
      exact nd.1 hi
    · rw [if_neg hj]
      rw [show (k == j) = false from by simpa using fun z => hj z.symm] at q1
      refine ⟨v, r', rfl, l1, OwnAt.frame kp _ _ _ (fun b s wb => ⟨rfl, upd_ne fun z => ?_⟩) h1, EntsR.repl kp w ih nd.2 q1 h2⟩
      rw [z, w] at wb
      have := (Prod.ext_iff.mp (Option.some.inj wb)).2
      rw [List.append_assoc] at this
      have := List.append_cancel_left this
      exact hj (List.cons.inj this).1.symm
/-- a place's content is another: all above it -/
theorem OwnAt.repl {a : Addr} {ob : HO} {x : D} (kp : Kept ω H ω (upd H a ob)) : ∀ (q : List Str) {p : List Str} {d d₀ : D} {v : V}, OwnAt K ω H t p d v → TL.sub d q = some d₀ → d₀.own = true → ω.wr a = some (t, p ++ q) → (∀ b, ω.wr b = some (t, p ++ q) → b = a) →
    OwnAt K ω (upd H a ob) t (p ++ q) x (.ref a) → OwnAt K ω (upd H a ob) t p (TL.repl d q x) v
  | [], p, d, d₀, v, h, e, o, w, inj, n => by
    have e : some d = some d₀ := by cases d <;> exact e
    cases e
    rw [List.append_nil] at w inj n
    obtain ⟨a', rfl, w'⟩ := h.ref o
    rw [inj a' w']
    have e2 : TL.repl d [] x = x := by cases d <;> rfl
    rw [e2]
    exact n
  | k :: q, p, d, d₀, v, h, e, o, w, inj, n => by
    cases d <;> first | (cases e; done) | skip
    rename_i kvs
    obtain ⟨a0, kws, rfl, h0, w0, nd, r⟩ := h
    unfold TL.sub at e
    cases q1 : kvs.lookup k with
    | none => rw [q1] at e; cases e
    | some dk =>
      rw [q1] at e
      have ne : a0 ≠ a := fun z => by
        rw [z, w] at w0
        exact path_ne (Prod.ext_iff.mp (Option.some.inj w0)).2.symm
      have e3 : p ++ [k] ++ q = p ++ k :: q := by rw [List.append_assoc]; rfl
      refine ⟨a0, kws, rfl, (upd_ne ne).trans h0, w0, by rw [modK_keys]; exact nd, ?_⟩
      exact EntsR.repl (g := fun d => TL.repl d q x) kp w (fun v (hv : OwnAt K ω H t (p ++ [k]) dk v) => OwnAt.repl (x := x) kp q hv e o (by rw [e3]; exact w) (by rw [e3]; exact inj) (by rw [e3]; exact n)) nd q1 r
theorem FldsR.repl {l : Nat} {a : Addr} {ob : HO} {g : D → D} {f : Str} {q : List Str} (kp : Kept ω H ω (upd H a ob)) (w : ω.wr a = some (.cell l, f :: q)) {df : D} (ih : ∀ v, OwnAt K ω H (.cell l) [f] df v → OwnAt K ω (upd H a ob) (.cell l) [f] (g df) v) :
    ∀ {fs : List (Str × D)} {vs : List (Str × V)}, (fs.map (·.1)).Nodup → fs.lookup f = some df → FldsR K ω H l fs vs → FldsR K ω (upd H a ob) l (modK f g fs) vs
  | [], _, _, q1, _ => nomatch q1
  | (j, dj) :: fs, vs, nd, q1, r => by
    obtain ⟨v, r', rfl, h1, h2⟩ := r
    rw [List.map_cons, List.nodup_cons] at nd
    rw [List.lookup_cons] at q1
    unfold modK
    by_cases hj : j = f
    · subst hj
      rw [beq_self_eq_true] at q1
      cases q1
      rw [if_pos rfl]
      refine ⟨v, r', rfl, ih v h1, h2.frame kp fun b i s hi wb => ⟨rfl, upd_ne fun z => ?_⟩⟩
      rw [z, w] at wb
      have e := (List.cons.inj (Prod.ext_iff.mp (Option.some.inj wb)).2).1
      rw [e] at nd
      exact nd.1 hi
    · rw [if_neg hj]
      rw [show (f == j) = false from by simpa using fun z => hj z.symm] at q1
      refine ⟨v, r', rfl, OwnAt.frame kp _ _ _ (fun b s wb => ⟨rfl, upd_ne fun z => ?_⟩) h1, FldsR.repl kp w ih nd.2 q1 h2⟩
      rw [z, w] at wb
      exact hj (List.cons.inj (Prod.ext_iff.mp (Option.some.inj wb)).2).1.symm
/-- where a place is -/
theorem look_at (s : StoOk K ω st H) {x d : D} {v : V} (r : Rep K ω H x v) (e : look st x = some d) (o : d.own = true) : ∃ l p a, v = .ref a ∧ ω.wr a = some (.cell l, p) ∧ OwnAt K ω H (.cell l) p d v ∧ (x = .ref l ∧ p = [] ∨ x = .ptr l p) := by
  unfold look at e
  split at e
  · rename_i l
    split at e
    · rename_i kvs hst
      cases e
      obtain ⟨a, m1, h1⟩ := s.at_ l _ hst
      obtain ⟨a2, m2, rfl⟩ := r
      rw [m1] at m2
      cases m2
      obtain ⟨a', e', w⟩ := h1.ref rfl
      cases e'
      exact ⟨l, [], a, rfl, w, h1, .inl ⟨rfl, rfl⟩⟩
    · cases e
  · rename_i l f p
    obtain ⟨a, rfl, w⟩ := r
    refine ⟨l, f :: p, a, rfl, w, ?_, .inr rfl⟩
    split at e
    · rename_i c fs hst
      obtain ⟨a2, C2, dx, vs, m2, H2, w2, n2, nd, fr⟩ := s.at_ l _ hst
      have fr := fr.lookup f
      cases q : fs.lookup f with
      | none => rw [q] at e; cases e
      | some df =>
        rw [q] at e fr
        obtain ⟨vf, _, hf⟩ := fr
        obtain ⟨v', h'⟩ := OwnAt.sub p hf e
        obtain ⟨a', rfl, w'⟩ := h'.ref o
        rw [s.inj a' a l (f :: p) w' w] at h'
        exact h'
    · rename_i kvs hst
      obtain ⟨a2, m1, h1⟩ := s.at_ l _ hst
      obtain ⟨v', h'⟩ := OwnAt.sub (f :: p) h1 e
      obtain ⟨a', rfl, w'⟩ := h'.ref o
      rw [s.inj a' a l (f :: p) w' w] at h'
      exact h'
    · cases e
  · cases e
/-- a place is changed -/
theorem stow_ok (s : StoOk K ω st H) {x d d' : D} {a : Addr} {l : Nat} {p : List Str} {ob : HO} (e : look st x = some d) (o : d.own = true) (w : ω.wr a = some (.cell l, p)) (hx : x = .ref l ∧ p = [] ∨ x = .ptr l p) (ch : Chg ω H a)
    (e2 : stow st x d' = some st') (n : OwnAt K ω (upd H a ob) (.cell l) p d' (.ref a)) : StoOk K ω st' (upd H a ob) := by
  have kp : Kept ω H ω (upd H a ob) := ch.kept
  rcases hx with ⟨rfl, rfl⟩ | rfl
  · cases e2
  cases p with
  | nil => cases e2
  | cons f p =>
    have inj : ∀ b, ω.wr b = some (.cell l, f :: p) → b = a := fun b wb => s.inj b a l _ wb w
    -- what the cell is behind
    have key : ∃ c c', st[l]? = some c ∧ st' = st.set l c' ∧ keysOf c' = keysOf c ∧ CellR K ω (upd H a ob) l c' := by
      unfold stow at e2
      unfold look at e
      dsimp only at e e2
      cases hst : st[l]? with
      | none => rw [hst] at e2; cases e2
      | some c =>
        rw [hst] at e2 e
        have sc := s.at_ l c hst
        cases c <;> first | (cases e2; done) | skip
        · rename_i kvs
          cases e2
          obtain ⟨a2, m1, h1⟩ := sc
          refine ⟨_, _, rfl, rfl, by unfold TL.repl keysOf; exact modK_keys _ _ _, a2, m1, ?_⟩
          exact OwnAt.repl kp (f :: p) h1 e o w inj n
        · rename_i c fs
          cases e2
          obtain ⟨a2, C2, dx, vs, m2, H2, w2, n2, nd, fr⟩ := sc
          dsimp only at e
          cases q : fs.lookup f with
          | none => rw [q] at e; cases e
          | some df =>
            rw [q] at e
            dsimp only at e
            have ne : a2 ≠ a := fun z => by
              rw [z, w] at w2
              cases w2
            refine ⟨_, _, rfl, rfl, modK_keys _ _ _, a2, C2, dx, vs, m2, (upd_ne ne).trans H2, w2, n2, by rw [modK_keys]; exact nd, ?_⟩
            exact FldsR.repl (g := fun d => TL.repl d p d') kp w (fun v hv => OwnAt.repl (x := d') (p := [f]) kp p hv e o w inj n) nd q fr
    obtain ⟨c, c', hst, rfl, hk, hc⟩ := key
    have hl : l < st.length := (List.getElem?_eq_some_iff.mp hst).1
    refine ⟨by rw [List.length_set]; exact s.len, fun b hb => ?_, fun l' d1 e1 => ?_, s.inj, fun b l' p' wb => ?_⟩
    · by_cases q : b = a
      · rw [q, upd_same]; simp
      · rw [upd_ne q]; exact s.trk b hb
    · by_cases ql : l' = l
      · subst ql
        rw [List.getElem?_set_self hl] at e1
        cases e1
        exact hc
      · rw [List.getElem?_set_ne (fun z => ql z.symm)] at e1
        refine (s.at_ l' d1 e1).kept ⟨kp, fun b p' wb => ⟨rfl, upd_ne fun z => ?_⟩⟩
        rw [z, w] at wb
        cases wb
        exact ql rfl
    · obtain ⟨d1, e1, q1⟩ := s.dom b l' p' wb
      by_cases ql : l' = l
      · subst ql
        rw [hst] at e1
        cases e1
        refine ⟨c', List.getElem?_set_self hl, ?_⟩
        rw [hk]
        exact q1
      · exact ⟨d1, by rw [List.getElem?_set_ne (fun z => ql z.symm)]; exact e1, q1⟩
end
end TL

namespace TItm
open PySem PySem.W PySem.Calls PyProof.Rows PyProof.V PySem.Spec DT
section
variable {prog : Program} {w : World} {A : Around} {E : Value → Shared → Prop} {s : Shared}
/-- the text of a pair -/
def keyS (h : Heap) (v : Value) : Str := txOf (seqAt0 h (refOf (some v)))
/-- v is a pair: a text y, anything -/
def PairS (h : Heap) (v : Value) (y : Str) : Prop := ∃ (a : Addr) (t : Tok) (u : Value), v = .ref a ∧ IsTup h a #[.str y t, u]
theorem PairS.tx {h : Heap} {v : Value} {y : Str} (x : PairS h v y) : keyS h v = y := by
  obtain ⟨a, t, u, rfl, h1⟩ := x
  show txOf (seqAt0 h a) = y
  rw [seqAt0_of h1]
  rfl
theorem firstsS {h : Heap} : ∀ vs : List Value, (∀ v ∈ vs, ∃ y, PairS h v y) → ∃ fs : List Value, KatTups h vs fs ∧ fs.length = vs.length ∧ ∀ f ∈ fs, ∃ (y : Str) (t : Tok), f = Value.str y t
  | [], _ => ⟨[], KatTups.nil, rfl, fun f hf => by simp at hf⟩
  | v :: vs, x => by
    obtain ⟨fs, k, hl, hi⟩ := firstsS vs fun u hu => x u (List.mem_cons_of_mem _ hu)
    obtain ⟨y, a, t, u, rfl, ⟨o, ho, hc, n, hd⟩⟩ := x v (List.mem_cons_self ..)
    refine ⟨.str y t :: fs, KatTups.cons ho hc hd rfl k, by rw [List.length_cons, List.length_cons, hl], fun f hf => ?_⟩
    rcases List.mem_cons.mp hf with rfl | hf
    · exact ⟨y, t, rfl⟩
    · exact hi f hf
theorem kind_s {vs : List Value} {ρ : Str → Int} (h2 : 2 ≤ vs.length) (x : ∀ v ∈ vs, ∃ y, PairS s.heap v y) (nd : ∀ p ∈ vs.zip vs, ∀ q ∈ vs.zip vs, keyS s.heap p.1 = keyS s.heap q.1 → p.1 = q.1)
    (hρ : ∀ v ∈ vs, ∀ u ∈ vs, decide ((keyS s.heap v).cps.toList < (keyS s.heap u).cps.toList) = decide (ρ (keyS s.heap v) < ρ (keyS s.heap u))) (Q : SortKind → Shared → Prop)
    (h : ∀ κ, TS.Cmp prog w A s κ (pairsOf vs) (fun v => ρ (keyS s.heap v)) → Q κ s) : wpAny (model prog w) A (keyKind' vs.toArray) Q E s := by
  obtain ⟨fs, k, hl, hi⟩ := firstsS vs x
  refine kat_kind (T := Value.type "str") k (by omega) (fun f hf => ?_) rfl (h _ ?_)
  · obtain ⟨y, t, rfl⟩ := hi f hf
    exact .now
  · have hb : (Value.type "str" != Value.type "tuple") = true := by first | rfl | decide | simp
    rw [hb]
    intro p q hp hq Q' E' hQ
    rw [pairsOf_toList] at hp hq
    have mp := (mem_zip_self hp).2
    have mq := (mem_zip_self hq).2
    obtain ⟨y, py⟩ := x _ mp
    obtain ⟨z, pz⟩ := x _ mq
    have hr := hρ _ mp _ mq
    have hQ' : Q' (decide (y.cps.toList < z.cps.toList)) s := by
      rw [py.tx, pz.tx] at hr
      rw [hr]
      have hQ2 : Q' (decide (ρ (keyS s.heap p.1) < ρ (keyS s.heap q.1))) s := hQ
      rw [py.tx, pz.tx] at hQ2
      exact hQ2
    have same := nd _ hp _ hq
    rw [py.tx, pz.tx] at same
    obtain ⟨a, t, u, e1, ⟨o, ho, hc, n, hd⟩⟩ := py
    obtain ⟨a', t', u', e2, ⟨o', ho', hc', n', hd'⟩⟩ := pz
    rw [e1, e2] at same ⊢
    refine kat_lt ho hd ho' hd' ?_
    show KatLex prog w A true false Q' [(Value.str y t, Value.str z t'), (u, u')] 0 s
    refine kat_cons (SeqAt.EqAt.str_str (A := A) (s := s) y t z t' prog w _ _ ?_)
    by_cases e : y = z
    · have same := same e
      cases same
      rw [ho] at ho'
      cases ho'
      rw [hd] at hd'
      cases hd'
      have irr : decide (y.cps.toList < y.cps.toList) = false := by
        first | exact decide_eq_false (List.lt_irrefl _) | simp
      rw [irr] at hQ'
      rw [beq_self_eq_true]
      refine kat_yes (kat_cons (SeqAt.EqAt.same (A := A) (s := s) u prog w _ _ ?_))
      exact kat_yes (kat_nil hQ')
    · rw [show (y == z) = false from by simpa using e]
      refine kat_no ?_
      show wpAny _ _ (oneLt' true _ _) _ _ _
      exact oneLt_str hQ'
end
end TItm
namespace L2.DX
open PySem PySem.Spec PyProof.Rows
section
variable {X : Cx}
def rItemsK : V → List V → Hp → VK → Prop := fun x xs H Q => ∃ (a : Addr) (kvs : List (L2.Key × V)), x = .ref a ∧ xs = [] ∧ H a = some (.dK kvs) ∧ ∀ p, H p = none → Q (.ref p) (upd H p (itemsO p a))
theorem mt_itemsK : MtR X "dict.items" rItemsK := by
  intro pins s σ H x xs v us Q I rx rxs h
  obtain ⟨a, kvs, rfl, rfl, ha, q⟩ := h
  cases rx
  cases rxs
  obtain ⟨z, hd, vs, rel, dd⟩ := dk_of I.hok ha
  obtain ⟨es, ep, ⟨o, ho, hx, hdat⟩, _, _⟩ := dd.raw
  refine DT.callItems (es := es) (ep := ep) hd ⟨o, ho, hx, hdat⟩ ?_
  have hf : H s.heap.objs.size = none := I.hok.fresh (Nat.le_refl _)
  exact ⟨.ref s.heap.objs.size, upd H s.heap.objs.size (itemsO s.heap.objs.size a), I.laid (t' := s.toks) (fun b u e => Heap.get?_push_of_some _ e) (Nat.le_refl _) (itemsO_ok (Heap.get?_push_size _ rfl)), rfl, q _ hf⟩
/-- a text's rank among others -/
def rankS (ks : List Str) (x : Str) : Int := ((ks.filter fun y => decide (y.cps.toList < x.cps.toList)).length : Nat)
theorem lt_tr {x y z : List Nat} (h1 : x < y) (h2 : y < z) : x < z := List.lt_trans h1 h2
theorem rank_lt {ks : List Str} {x y : Str} (hx : x ∈ ks) (h : x.cps.toList < y.cps.toList) : rankS ks x < rankS ks y := by
  have key : ∀ ks : List Str, (ks.filter fun z => decide (z.cps.toList < x.cps.toList)).length ≤ (ks.filter fun z => decide (z.cps.toList < y.cps.toList)).length ∧ (x ∈ ks → (ks.filter fun z => decide (z.cps.toList < x.cps.toList)).length < (ks.filter fun z => decide (z.cps.toList < y.cps.toList)).length) := by
    intro ks
    induction ks with
    | nil => exact ⟨Nat.le_refl _, fun h => nomatch h⟩
    | cons z ks ih =>
      obtain ⟨i1, i2⟩ := ih
      rw [List.filter_cons, List.filter_cons]
      by_cases q : z.cps.toList < x.cps.toList
      · have q2 := lt_tr q h
        rw [if_pos (decide_eq_true q), if_pos (decide_eq_true q2), List.length_cons, List.length_cons]
        refine ⟨by omega, fun hm => ?_⟩
        rcases List.mem_cons.mp hm with e | hm
        · rw [e] at q
          exact absurd q (List.lt_irrefl _)
        · have := i2 hm
          omega
      · rw [if_neg (by simpa using q)]
        by_cases q2 : z.cps.toList < y.cps.toList
        · rw [if_pos (decide_eq_true q2), List.length_cons]
          exact ⟨by omega, fun _ => by omega⟩
        · rw [if_neg (by simpa using q2)]
          refine ⟨i1, fun hm => ?_⟩
          rcases List.mem_cons.mp hm with e | hm
          · rw [← e] at q2
            exact absurd h q2
          · exact i2 hm
  have := (key ks).2 hx
  unfold rankS
  omega
theorem rank_iff {ks : List Str} {x y : Str} (hx : x ∈ ks) (hy : y ∈ ks) : decide (x.cps.toList < y.cps.toList) = decide (rankS ks x < rankS ks y) := by
  by_cases h : x.cps.toList < y.cps.toList
  · rw [decide_eq_true h, decide_eq_true (rank_lt hx h)]
  · rw [decide_eq_false h]
    symm
    refine decide_eq_false fun q => ?_
    by_cases h2 : y.cps.toList < x.cps.toList
    · have := rank_lt hy h2
      omega
    · have e : x.cps.toList = y.cps.toList := List.le_antisymm (List.not_lt.mp h2) (List.not_lt.mp h)
      unfold rankS at q
      rw [e] at q
      omega
def rSortK (K : PySem.W.Frag) : List V → Hp → VK → Prop := fun vs H Q => ∃ (p a : Addr) (kvs : List (L2.Key × V)) (ks : List (Str × V)), vs = [.ref p] ∧ H p = some (itemsO p a) ∧ H a = some (.dK kvs) ∧ kvs = ks.map (fun e => (Sum.inr e.1, e.2)) ∧ (ks.map (·.1)).Nodup ∧ ks.length < 64 ∧
  ∀ (H' : Hp) (l : Addr) (ps : List (Addr × Str × V)), (∀ b o, H b = some o → H' b = some o) → H l = none → (ps.map (·.2)).Perm ks → (ps.map (·.2)).Pairwise (fun e f => TL.strLe e.1 f.1 = true) → H' l = some (.lst (ps.map fun z => V.ref z.1)) →
    (∀ z ∈ ps, H' z.1 = some (.tup [.str z.2.1, z.2.2])) → Q (.ref l) H'
theorem cr_sortK (hc : X.calm = true) (hu : X.A.units + 64 < cLine) : CallR X (.builtin "sorted") (rSortK X.K) := by
  intro pins s σ H xs us Q I r h
  obtain ⟨p, a, kvs, ks, rfl, hp, ha, ek, ndk, h64, q⟩ := h
  obtain rfl := Vals.ref1 r
  have view : s.heap.IsItemsView p a := (show ObjOk X.prog X.w H s.heap p (itemsO p a) from I.hok p _ hp).1
  obtain ⟨z, hd, vs, rel, dd⟩ := dk_of I.hok ha
  obtain ⟨es, ep, ⟨o, ho, hx, hdat⟩, hes, his⟩ := dd.raw
  have l1 : kvs.length = vs.length := KV.length rel
  rw [ek, List.length_map] at l1
  have hh : X.A.handled = none := I.ok.hd hc
  refine DT.sortedI (es := es) (ep := ep) hh view ⟨o, ho, hx, hdat⟩ (by rw [sizeLine_eq]; omega) fun h' tk as hk hlt hl hG => ?_
  have lak : as.length = ks.length := by omega
  have nd : as.Nodup := List.Pairwise.imp (fun h => Nat.ne_of_lt h) hG.rise
  -- the pairs that were made
  have pr : ∀ (j : Nat) (b : Addr), as[j]? = some b → ∃ (e : Str × V) (t : Tok) (u : Value), ks[j]? = some e ∧ RelV e.2 u ∧ h'.get? b = some { cls := .type "tuple", data := .seq #[Value.str e.1 t, u] } := by
    intro j b hj
    obtain ⟨en, he, hg⟩ := hG.pairs j b hj
    have hjl : j < es.size := (Array.getElem?_eq_some_iff.mp he).1
    have hjk : j < ks.length := by omega
    obtain ⟨e, hke⟩ : ∃ e, ks[j]? = some e := ⟨ks[j], List.getElem?_eq_getElem hjk⟩
    have hkv : kvs[j]? = some (Sum.inr e.1, e.2) := by rw [ek, List.getElem?_map, hke]; rfl
    obtain ⟨u, hv, ru⟩ := kv_get rel hkv
    obtain ⟨k1, k2⟩ := his j hjl _ _ hv
    rw [Array.getElem?_eq_getElem hjl] at he
    cases he
    obtain ⟨t, ht⟩ : ∃ t, es[j].key = Value.str e.1 t := relV_key (show keyIs (Sum.inr e.1) es[j].key = true from k1)
    refine ⟨e, t, es[j].val, hke, by rw [k2]; exact ru, ?_⟩
    rw [hg, ht]
  -- the heap of the sort
  have hob : (h'.push { cls := .type "list", data := .seq (as.map Value.ref).toArray }).get? h'.objs.size = some (seqObj "list" (as.map Value.ref).toArray 0) := Heap.get?_push_size _ rfl
  have kb : ∀ b o, s.heap.get? b = some o → (h'.push { cls := .type "list", data := .seq (as.map Value.ref).toArray }).get? b = some o := fun b o e => Heap.get?_push_of_some _ (hk b o e)
  have ne0 : ∀ b o, h'.get? b = some o → b ≠ h'.objs.size := fun b o e => Nat.ne_of_lt (Heap.lt_size e)
  generalize hh2 : h'.push { cls := .type "list", data := .seq (as.map Value.ref).toArray } = h2 at hob kb ⊢
  have ka : ∀ b o, h'.get? b = some o → h2.get? b = some o := fun b o e => by rw [← hh2]; exact Heap.get?_push_of_some _ e
  have pin : ∀ (j : Nat) (b : Addr), as[j]? = some b → ∃ e : Str × V, ks[j]? = some e ∧ TItm.PairS (TS.midHeap h2 h'.objs.size (as.map Value.ref)) (.ref b) e.1 := by
    intro j b hj
    obtain ⟨e, t, u, he, ru, hg⟩ := pr j b hj
    exact ⟨e, he, b, t, u, rfl, ⟨_, TS.midHeap_old (ne0 _ _ hg) (ka _ _ hg), rfl, 0, rfl⟩⟩
  have tx : ∀ (j : Nat) (b : Addr) (e : Str × V), as[j]? = some b → ks[j]? = some e → TItm.keyS (TS.midHeap h2 h'.objs.size (as.map Value.ref)) (.ref b) = e.1 := by
    intro j b e hj he
    obtain ⟨e', he', hp'⟩ := pin j b hj
    have ee : e' = e := Option.some.inj (he'.symm.trans he)
    rw [← ee]
    exact hp'.tx
  have at_ : ∀ v ∈ as.map Value.ref, ∃ (j : Nat) (b : Addr) (e : Str × V), v = .ref b ∧ as[j]? = some b ∧ ks[j]? = some e := by
    intro v hv'
    obtain ⟨b, hb, rfl⟩ := List.mem_map.mp hv'
    obtain ⟨j, hj⟩ := List.mem_iff_getElem?.mp hb
    obtain ⟨e, _, _, he, _⟩ := pr j b hj
    exact ⟨j, b, e, rfl, hj, he⟩
  have keyInj : ∀ (j i : Nat) (e f : Str × V), ks[j]? = some e → ks[i]? = some f → e.1 = f.1 → j = i := by
    intro j i e f hj hi hef
    have a1 : (ks.map (·.1))[j]? = some e.1 := by rw [List.getElem?_map, hj]; rfl
    have a2 : (ks.map (·.1))[i]? = some e.1 := by rw [List.getElem?_map, hi, hef]; rfl
    exact (List.getElem?_inj (List.getElem?_eq_some_iff.mp a1).1 ndk).mp (a1.trans a2.symm)
  have mem1 : ∀ {j : Nat} {e : Str × V}, ks[j]? = some e → e.1 ∈ ks.map (·.1) := fun h => List.mem_map.mpr ⟨_, List.mem_of_getElem? h, rfl⟩
  refine wpAny_call_entry PyProof.Rows.slot_list_sort ⟨_, hob, rfl⟩ PyProof.Rows.entry_list_sort
    (SK.plain_sort (s := { s with heap := h2, toks := tk }) (r := fun v => rankS (ks.map (·.1)) (TItm.keyS (TS.midHeap h2 h'.objs.size (as.map Value.ref)) v)) hob (by rw [List.length_map]; omega) (fun h2' Qk hQk => ?_) fun ps out o1 o2 o3 => ⟨.none, rfl, ?_⟩) (PyProof.Rows.args_list_sort _)
  · refine TItm.kind_s (s := { s with heap := TS.midHeap h2 h'.objs.size (as.map Value.ref), toks := tk }) (ρ := rankS (ks.map (·.1))) h2' (fun v hv' => ?_) (fun p hp q hq e => ?_) (fun v hv' u hu' => ?_) Qk hQk
    · obtain ⟨j, b, e, rfl, hj, he⟩ := at_ v hv'
      obtain ⟨e', _, hp'⟩ := pin j b hj
      exact ⟨e'.1, hp'⟩
    · obtain ⟨j, b, e1, e2, hj, he⟩ := at_ p.1 (List.of_mem_zip hp).1
      obtain ⟨i, c, f1, f2, hi, hf⟩ := at_ q.1 (List.of_mem_zip hq).1
      have e : TItm.keyS (TS.midHeap h2 h'.objs.size (as.map Value.ref)) p.1 = TItm.keyS (TS.midHeap h2 h'.objs.size (as.map Value.ref)) q.1 := e
      rw [e2, f2, tx j b _ hj he, tx i c _ hi hf] at e
      have eij := keyInj j i _ _ he hf e
      subst eij
      rw [hj] at hi
      cases hi
      rw [e2, f2]
    · obtain ⟨j, b, e, rfl, hj, he⟩ := at_ v hv'
      obtain ⟨j2, b2, e2, rfl, hj2, he2⟩ := at_ u hu'
      show decide ((TItm.keyS (TS.midHeap h2 h'.objs.size (as.map Value.ref)) (.ref b)).cps.toList < (TItm.keyS (TS.midHeap h2 h'.objs.size (as.map Value.ref)) (.ref b2)).cps.toList) = decide (rankS (ks.map (·.1)) (TItm.keyS (TS.midHeap h2 h'.objs.size (as.map Value.ref)) (.ref b)) < rankS (ks.map (·.1)) (TItm.keyS (TS.midHeap h2 h'.objs.size (as.map Value.ref)) (.ref b2)))
      rw [tx j b e hj he, tx j2 b2 e2 hj2 he2]
      exact rank_iff (mem1 he) (mem1 he2)
  · show EP X pins σ Q (.ref h'.objs.size) { s with heap := sortedHeap h2 h'.objs.size (as.map Value.ref) out, toks := tk }
    obtain ⟨zs, pz, ez⟩ := perm_lift (fun z : Addr × Str × V => (Value.ref z.1, Value.ref z.1)) o2 (as.zip ks) (zip_self Value.ref as ks lak)
    have idx : ∀ z ∈ zs, ∃ j : Nat, as[j]? = some z.1 ∧ ks[j]? = some z.2 := by
      intro z' hz'
      obtain ⟨j, hj⟩ := List.mem_iff_getElem?.mp (pz.mem_iff.mp hz')
      exact ⟨j, List.getElem?_zip_eq_some.mp hj⟩
    have hout : out.toList = zs.map fun z => Value.ref z.1 := by
      rw [o1, ← ez, List.map_map]
      all_goals rfl
    have hperm : (zs.map (·.2)).Perm ks := by
      have e := pz.map (·.2)
      have m2 : (as.zip ks).map (·.2) = ks := List.map_snd_zip (by rw [lak]; exact Nat.le_refl _)
      rw [m2] at e
      exact e
    have hsort : (zs.map (·.2)).Pairwise (fun e f => TL.strLe e.1 f.1 = true) := by
      rw [← ez, List.pairwise_map] at o3
      rw [List.pairwise_map]
      refine List.Pairwise.imp_of_mem (fun {x y} hx hy h => ?_) o3
      obtain ⟨j, j1, j2⟩ := idx x hx
      obtain ⟨i, i1, i2⟩ := idx y hy
      have h' : rankS (ks.map (·.1)) (TItm.keyS (TS.midHeap h2 h'.objs.size (as.map Value.ref)) (.ref x.1)) ≤ rankS (ks.map (·.1)) (TItm.keyS (TS.midHeap h2 h'.objs.size (as.map Value.ref)) (.ref y.1)) := h
      rw [tx j _ _ j1 j2, tx i _ _ i1 i2] at h'
      show (!decide (y.2.1.cps.toList < x.2.1.cps.toList)) = true
      rw [rank_iff (mem1 i2) (mem1 j2), decide_eq_false (by omega)]
      rfl
    -- behind the sort
    have kF : ∀ b o, b ≠ h'.objs.size → h2.get? b = some o → (sortedHeap h2 h'.objs.size (as.map Value.ref) out).get? b = some o := fun b o hb e => (PyProof.Rows.sortedHeap_old hb (Heap.lt_size e)).trans e
    have kS : ∀ b o, s.heap.get? b = some o → (sortedHeap h2 h'.objs.size (as.map Value.ref) out).get? b = some o := fun b o e => kF b o (ne0 _ _ (hk b o e)) (kb b o e)
    obtain ⟨eF, heF⟩ := PyProof.Rows.sortedHeap_at (vs := as.map Value.ref) (out := out) hob
    have I1 : Inv X pins σ H { s with heap := sortedHeap h2 h'.objs.size (as.map Value.ref) out, toks := tk } := I.kept (t' := tk) kS
    have hn0 : H h'.objs.size = none := I.hok.fresh (Nat.le_of_lt hlt)
    have hlen : (zs.map fun z => V.ref z.1).length ≤ sizeLine := by
      have e := hperm.length_eq
      rw [List.length_map] at e
      rw [List.length_map, sizeLine_eq]
      omega
    have rv : Vals (zs.map fun z => V.ref z.1) out.toList := by
      rw [hout]
      exact vals_maps (fun z : Addr × Str × V => V.ref z.1) (fun z => Value.ref z.1) zs fun _ _ => rfl
    have I2 : Inv X pins σ (upd H h'.objs.size (.lst (zs.map fun z => V.ref z.1))) { s with heap := sortedHeap h2 h'.objs.size (as.map Value.ref) out, toks := tk } :=
      I1.take (h' := sortedHeap h2 h'.objs.size (as.map Value.ref) out) (t' := tk) (fun b ob _ e => e) (I.fpOk (Nat.le_of_lt hlt) hn0) ⟨hlen, out.toList, eF, rv, heF⟩
    obtain ⟨H2, I3, g, qt⟩ := takeT (P := fun b vs => ∃ (j : Nat) (e : Str × V), as[j]? = some b ∧ ks[j]? = some e ∧ vs = [.str e.1, e.2]) I as _ I2 nd fun b hb => by
      obtain ⟨j, hj⟩ := List.mem_iff_getElem?.mp hb
      obtain ⟨e, t, u, he, ru, hg⟩ := pr j b hj
      have hbl : s.heap.objs.size ≤ b := Nat.le_of_lt (hG.above b hb)
      refine ⟨hbl, ?_, [.str e.1, e.2], ⟨j, e, hj, he, rfl⟩, fun H3 => ⟨(by rw [sizeLine_eq]; show 2 ≤ 16777216; omega), [Value.str e.1 t, u], .cons ⟨t, rfl⟩ (.cons ru .nil), ⟨_, kF _ _ (ne0 _ _ hg) (ka _ _ hg), rfl, 0, rfl⟩⟩⟩
      rw [upd_ne (ne0 _ _ hg)]
      exact I.hok.fresh hbl
    have gr : ∀ b o, H b = some o → H2 b = some o := fun b o e => g b o (by rw [upd_ne (ne_of_none e hn0)]; exact e)
    refine ⟨.ref h'.objs.size, H2, I3, rfl, q H2 h'.objs.size zs gr hn0 hperm hsort (g _ _ upd_same) fun z' hz' => ?_⟩
    obtain ⟨i, i1, i2⟩ := idx z' hz'
    obtain ⟨vs, ⟨j, e, j1, j2, ev⟩, hH⟩ := qt z'.1 (List.mem_of_getElem? i1)
    have eij : i = j := (List.getElem?_inj (List.getElem?_eq_some_iff.mp i1).1 nd).mp (i1.trans j1.symm)
    subst eij
    have ee : e = z'.2 := Option.some.inj (j2.symm.trans i2)
    rw [ev, ee] at hH
    exact hH
end
end L2.DX

set_option maxHeartbeats 1000000
namespace TDz
open PySem PySem.Sem
/-- the parts of a zip over two tuples, at turn k: its pair's object at t is still out -/
structure Side (g : Heap) (zz pp i j a b t : Addr) (seen : Bool) (k : Nat) (us ws : Array Value) : Prop where
  zip : g.get? zz = some { cls := .type "zip", dict := none, data := .fields #[rawInt t, .bool seen, .bool false, .ref pp, .ref (pp + 1)], slots := #[] }
  pair : g.get? pp = some { cls := .type "tuple", data := .seq #[.ref i, .ref j] }
  out : ∃ o, g.get? t = some o
  fst : g.IsTupleIter i a k
  snd : g.IsTupleIter j b k
  us : g.IsTuple a us
  ws : g.IsTuple b ws
section
variable {prog : Program} {w : World} {A : Around} {E : Value → Shared → Prop} {s : Shared} {zz pp i j a b t : Addr} {seen : Bool} {k : Nat} {us ws : Array Value}
/-- what a turn leaves alone -/
abbrev Rest (zz i j : Addr) (g g2 : Heap) : Prop := ∀ c o, c ≠ zz ∧ c ≠ i ∧ c ≠ j → g.get? c = some o → g2.get? c = some o
theorem Side.next (h : Side s.heap zz pp i j a b t seen k us ws) (ap : ZipApart zz pp (pp + 1) i j a b) {u v : Value} (eu : us[k]? = some u) (ev : ws[k]? = some v) (tn : t ≠ zz ∧ t ≠ i ∧ t ≠ j) {Q : Value → Shared → Prop}
    (go : ∀ g : Heap, g.get? s.heap.objs.size = some { cls := .type "tuple", data := .seq #[u, v] } → Side g zz pp i j a b t true (k + 1) us ws → Rest zz i j s.heap g → Q (.ref s.heap.objs.size) { s with heap := g }) :
    wpAny (model prog w) A (Builtin.«zip.__next__» ⟨[.ref zz], []⟩) (fun fin s' => ∃ v, fin = .done (.ret v) ∧ Q v s') E s := by
  obtain ⟨h1, h2, ⟨o, h3⟩, h4, h5, h6, h7⟩ := h
  unfold Builtin.«zip.__next__»
  wp_walk using wpAny_tupleHeld_zip h1 h3
  intro g z1 e1
  simp only [Bool.false_eq_true, if_false, ← Array.forIn_toList, List.forIn_cons, List.forIn_nil]
  wp_walk using RZ.nextOf_tuple_item (s := { s with heap := g }) (h4.extBut e1.extBut ap.i1z) (h6.extBut e1.extBut ap.l1z) eu
  intro g2 a2 e2
  wp_walk using RZ.nextOf_tuple_item (s := { s with heap := g2 }) ((h5.extBut e1.extBut ap.i2z).extBut e2.extBut ap.i12.symm) ((h7.extBut e1.extBut ap.l2z).extBut e2.extBut ap.l2i1) ev
  intro g3 a3 e3
  wp_walk
  have n0 : g3.objs.size = s.heap.objs.size := by rw [e3.1, e2.1, e1.1]
  have rest : Rest zz i j s.heap g3 := fun c o n q => e3.extBut c o n.2.2 (e2.extBut c o n.2.1 (e1.extBut c o n.1 q))
  have old : ∀ c o, g3.get? c = some o → (g3.push { cls := .type "tuple", data := .seq #[u, v] }).get? c = some o := fun c o q => Heap.get?_push_of_some _ q
  have zip3 := e3.extBut zz _ (Ne.symm ap.i2z) (e2.extBut zz _ (Ne.symm ap.i1z) z1)
  refine ⟨_, rfl, ?_⟩
  have here : (g3.push { cls := .type "tuple", data := .seq #[u, v] }).get? g3.objs.size = some { cls := .type "tuple", data := .seq #[u, v] } := Heap.get?_push_size _ rfl
  rw [n0] at here ⊢
  obtain ⟨oi, i1, i2⟩ := a2.extBut e3.extBut ap.i12
  obtain ⟨oj, j1, j2⟩ := a3
  obtain ⟨oa, b1, b2⟩ := h6
  obtain ⟨ob, c1, c2⟩ := h7
  exact go _ here ⟨old _ _ zip3, old _ _ (rest _ _ ⟨ap.TIz, ap.TIi1, ap.TIi2⟩ h2), ⟨o, old _ _ (rest _ _ tn h3)⟩, ⟨oi, old _ _ i1, i2⟩, ⟨oj, old _ _ j1, j2⟩,
    ⟨oa, old _ _ (rest _ _ ⟨ap.l1z, ap.l1i1, ap.l1i2⟩ b1), b2⟩, ⟨ob, old _ _ (rest _ _ ⟨ap.l2z, ap.l2i1, ap.l2i2⟩ c1), c2⟩⟩ fun c o n q => old _ _ (rest c o n q)
/-- one of the two tuples is told to its end -/
theorem Side.stop (hn : A.handled = none) (h : Side s.heap zz pp i j a b t seen k us ws) (ap : ZipApart zz pp (pp + 1) i j a b) (eu : us[k]? = none) {Q : Fin → Shared → Prop}
    (go : ∀ g e, Rest zz i j s.heap g → (∃ o, g.get? e = some o ∧ o.cls = .type "StopIteration") → E (.ref e) { s with heap := g }) :
    wpAny (model prog w) A (Builtin.«zip.__next__» ⟨[.ref zz], []⟩) Q E s := by
  obtain ⟨h1, h2, ⟨o, h3⟩, h4, h5, h6, h7⟩ := h
  unfold Builtin.«zip.__next__»
  wp_walk using wpAny_tupleHeld_zip h1 h3
  intro g z1 e1
  simp only [Bool.false_eq_true, if_false, ← Array.forIn_toList, List.forIn_cons, List.forIn_nil]
  wp_walk using RZ.nextOf_tuple_end (s := { s with heap := g }) hn (h4.extBut e1.extBut ap.i1z) (h6.extBut e1.extBut ap.l1z) eu
  intro g2 e x2 he
  exact go g2 e (fun c o n q => x2 c o n.2.1 (e1.extBut c o n.1 q)) he
/-- zip's own next, reached by its type's slot -/
theorem by_slot {Q : Option Value → Shared → Prop} (ty : s.TypeIs (.ref zz) "zip")
    (h : wpAny (model prog w) A.in1 (Builtin.«zip.__next__» ⟨[.ref zz], []⟩) (fun fin s' => ∃ v, fin = .done (.ret v) ∧ Q (some v) s') (fun e s' => (∃ x o, e = .ref x ∧ s'.heap.get? x = some o ∧ o.cls = .type "StopIteration") ∧ Q none s') s) :
    wpAny (model prog w) A (pyNext (.ref zz)) Q E s := by
  have turn := wpAny_callSpecial?_slot (Q := fun z s' => ∃ v, z = some v ∧ Q (some v) s') (name := "__next__") (args := []) (kw := []) ty F.slot_zip_next
    (wpAny_call_entry F.slot_zip_next ty F.entry_zip_next (wpAny_mono h (fun fin s' ⟨v, e, q⟩ => ⟨v, e, v, rfl, q⟩) fun _ _ x => x) (F.args_zip_next_1 _))
  unfold pyNext
  refine wpAny_bind (wpAny_attempt (wpAny_mono turn (fun z s' hz => ?_) fun e s' he => ?_))
  · obtain ⟨v, rfl, q⟩ := hz
    exact wpAny_pure q
  · obtain ⟨⟨x, o, rfl, ho, hc⟩, q⟩ := he
    exact wpAny_bind (wpAny_isInstance (T := "StopIteration") (b := true) ⟨o, ho, hc⟩ isSubtype_stop (wpAny_pure q))
end
section
variable {zz pp i j a b t d : Addr} {seen : Bool} {k : Nat} {us ws : Array Value} {g g2 : Heap}
theorem Side.keep (h : Side g zz pp i j a b t seen k us ws) (kp : ∀ c o, c = zz ∨ c = pp ∨ c = i ∨ c = j ∨ c = a ∨ c = b ∨ c = t → g.get? c = some o → g2.get? c = some o) : Side g2 zz pp i j a b t seen k us ws := by
  obtain ⟨h1, h2, ⟨o, h3⟩, ⟨oi, i1, i2⟩, ⟨oj, j1, j2⟩, ⟨oa, a1, a2⟩, ⟨ob, b1, b2⟩⟩ := h
  exact ⟨kp _ _ (by simp) h1, kp _ _ (by simp) h2, ⟨o, kp _ _ (by simp) h3⟩, ⟨oi, kp _ _ (by simp) i1, i2⟩, ⟨oj, kp _ _ (by simp) j1, j2⟩, ⟨oa, kp _ _ (by simp) a1, a2⟩, ⟨ob, kp _ _ (by simp) b1, b2⟩⟩
/-- nothing told yet -/
structure Fresh (g : Heap) (zz pp i j a b : Addr) (us ws : Array Value) : Prop where
  zip : IsZip g zz pp (pp + 1) .none
  pair : PySem.IsPair g pp (.ref i) (.ref j)
  own : ∃ p q, PySem.IsPair g (pp + 1) p q
  fst : g.IsTupleIter i a 0
  snd : g.IsTupleIter j b 0
  us : g.IsTuple a us
  ws : g.IsTuple b ws
theorem Fresh.keep (h : Fresh g zz pp i j a b us ws) (kp : ∀ c o, c ∈ [zz, pp, pp + 1, i, j, a, b] → g.get? c = some o → g2.get? c = some o) : Fresh g2 zz pp i j a b us ws := by
  obtain ⟨h1, h2, ⟨p, q, h3⟩, ⟨oi, i1, i2⟩, ⟨oj, j1, j2⟩, ⟨oa, a1, a2⟩, ⟨ob, b1, b2⟩⟩ := h
  exact ⟨kp _ _ (by simp) h1, kp _ _ (by simp) h2, ⟨p, q, kp _ _ (by simp) h3⟩, ⟨oi, kp _ _ (by simp) i1, i2⟩, ⟨oj, kp _ _ (by simp) j1, j2⟩, ⟨oa, kp _ _ (by simp) a1, a2⟩, ⟨ob, kp _ _ (by simp) b1, b2⟩⟩
theorem Fresh.there (h : Fresh g zz pp i j a b us ws) : ∀ c ∈ [zz, pp, pp + 1, i, j, a, b], ∃ o, g.get? c = some o := by
  obtain ⟨h1, h2, ⟨p, q, h3⟩, ⟨oi, i1, _⟩, ⟨oj, j1, _⟩, ⟨oa, a1, _⟩, ⟨ob, b1, _⟩⟩ := h
  intro c hc
  rw [List.mem_cons] at hc
  rcases hc with rfl | hc
  · exact ⟨_, h1⟩
  rw [List.mem_cons] at hc
  rcases hc with rfl | hc
  · exact ⟨_, h2⟩
  rw [List.mem_cons] at hc
  rcases hc with rfl | hc
  · exact ⟨_, h3⟩
  rw [List.mem_cons] at hc
  rcases hc with rfl | hc
  · exact ⟨_, i1⟩
  rw [List.mem_cons] at hc
  rcases hc with rfl | hc
  · exact ⟨_, j1⟩
  rw [List.mem_cons] at hc
  rcases hc with rfl | hc
  · exact ⟨_, a1⟩
  rw [List.mem_singleton] at hc
  subst hc
  exact ⟨_, b1⟩
/-- turn k, while a dict is being filled at d -/
def Turn (zz pp i j a b d : Addr) (us ws : Array Value) (k : Nat) (g : Heap) : Prop := (k = 0 ∧ Fresh g zz pp i j a b us ws) ∨ ∃ t seen, Side g zz pp i j a b t seen k us ws ∧ (t ≠ zz ∧ t ≠ i ∧ t ≠ j) ∧ t ≠ d
end
/-- the turns of two tuples of one length -/
theorem turns {prog : Program} {w : World} {A : Around} {zz pp i j a b d : Addr} {us ws : Array Value} (hn : A.handled = none) (ap : ZipApart zz pp (pp + 1) i j a b) (len : us.size = ws.size) (far : d ∉ [zz, pp, pp + 1, i, j, a, b]) :
    PairSrc prog w A zz d [zz, pp + 1, i, j] us.size (fun n k v => us[n]? = some k ∧ ws[n]? = some v) (Turn zz pp i j a b d us ws) where
  off := fun m => far (by
    simp only [List.mem_cons, List.not_mem_nil, or_false] at m ⊢
    rcases m with e | e | e | e <;> simp [e])
  frame := fun n g g2 tr kp => by
    have nd : ∀ c ∈ [zz, pp, pp + 1, i, j, a, b], c ≠ d := fun c hc e => far (e ▸ hc)
    rcases tr with ⟨e, fr⟩ | ⟨t, seen, sd, tn, td⟩
    · exact .inl ⟨e, fr.keep fun c o hc q => kp c o (nd c hc) q⟩
    · refine .inr ⟨t, seen, sd.keep fun c o hc q => kp c o ?_ q, tn, td⟩
      rcases hc with rfl | rfl | rfl | rfl | rfl | rfl | rfl
      · exact nd _ (by simp)
      · exact nd _ (by simp)
      · exact nd _ (by simp)
      · exact nd _ (by simp)
      · exact nd _ (by simp)
      · exact nd _ (by simp)
      · exact td
  item := fun n s' Q E hlt tr dl go => by
    have e1 := Array.getElem?_eq_getElem hlt
    have e2 := Array.getElem?_eq_getElem (xs := ws) (i := n) (by omega)
    have new : ∀ c o, s'.heap.get? c = some o → s'.heap.objs.size ≠ c := fun c o q => Nat.ne_of_gt (Heap.lt_size q)
    rcases tr with ⟨rfl, fr⟩ | ⟨t, seen, sd, tn, td⟩
    · obtain ⟨p, q, ho⟩ := fr.own
      obtain ⟨oi, i1, _⟩ := id fr.fst
      obtain ⟨oj, j1, _⟩ := id fr.snd
      refine RZ.pyNext_zipT_item ap fr.zip fr.pair ho fr.fst fr.snd fr.us fr.ws e1 e2 fun g z1 _ z3 z4 z5 _ rest => ?_
      obtain ⟨oa, a1, a2⟩ := fr.us
      obtain ⟨ob, b1, b2⟩ := fr.ws
      exact go _ _ _ g s'.toks ⟨e1, e2⟩ (.inl ⟨_, z5, rfl, _, rfl⟩)
        (.inr ⟨s'.heap.objs.size, false, ⟨z1, rest _ _ ap.TIz ap.TITO ap.TIi1 ap.TIi2 fr.pair, ⟨_, z5⟩, z3, z4, ⟨oa, rest _ _ ap.l1z ap.l1TO ap.l1i1 ap.l1i2 a1, a2⟩, ⟨ob, rest _ _ ap.l2z ap.l2TO ap.l2i1 ap.l2i2 b1, b2⟩⟩,
          ⟨new _ _ fr.zip, new _ _ i1, new _ _ j1⟩, Nat.ne_of_gt dl⟩)
        fun c o off q => by
          simp only [List.mem_cons, List.not_mem_nil, or_false, not_or] at off
          exact rest c o off.1 off.2.1 off.2.2.1 off.2.2.2 q
    · refine by_slot ⟨_, sd.zip, rfl⟩ (sd.next ap e1 e2 tn fun g z5 sd2 rest => ?_)
      exact go _ _ _ g s'.toks ⟨e1, e2⟩ (.inl ⟨_, z5, rfl, _, rfl⟩) (.inr ⟨t, true, sd2, tn, td⟩) fun c o off q => by
        simp only [List.mem_cons, List.not_mem_nil, or_false, not_or] at off
        exact rest c o ⟨off.1, off.2.2⟩ q
  done := fun s' Q E tr go => by
    have e1 : us[us.size]? = none := Array.getElem?_eq_none (Nat.le_refl _)
    rcases tr with ⟨e0, fr⟩ | ⟨t, seen, sd, tn, td⟩
    · obtain ⟨p, q, ho⟩ := fr.own
      refine RZ.pyNext_zipT_end hn ap fr.zip fr.pair ho fr.fst fr.snd fr.us fr.ws (.inl (by rw [← e0]; exact e1)) fun g rest => go g s'.toks fun c o off q => ?_
      simp only [List.mem_cons, List.not_mem_nil, or_false, not_or] at off
      exact rest c o off.1 off.2.1 off.2.2.1 off.2.2.2 q
    · refine by_slot ⟨_, sd.zip, rfl⟩ (sd.stop (A := A.in1) hn ap e1 fun g e rest ⟨o, ho, hc⟩ => ⟨⟨e, o, rfl, ho, hc⟩, go g s'.toks fun c o off q => ?_⟩)
      simp only [List.mem_cons, List.not_mem_nil, or_false, not_or] at off
      exact rest c o ⟨off.1, off.2.2⟩ q
/-- what a dict may be made of -/
theorem zipArg {prog : Program} {w : World} (zz pp i j a b : Addr) (ap : ZipApart zz pp (pp + 1) i j a b) (us ws : Array Value) (len : us.size = ws.size) :
    PairArg prog w "zip" zz [zz, pp, pp + 1, i, j, a, b] [zz, pp + 1, i, j] us.size (fun n k v => us[n]? = some k ∧ ws[n]? = some v) (fun g => Fresh g zz pp i j a b us ws) where
  type := fun s fr => ⟨_, fr.zip, rfl⟩
  notDict := by decide
  keep := fun g g2 fr kp => fr.keep fun c o _ q => kp c o q
  there := fun g fr => fr.there
  sub := fun c hc => by
    simp only [List.mem_cons, List.not_mem_nil, or_false] at hc ⊢
    rcases hc with e | e | e | e <;> simp [e]
  noKeys := fun A s Q E hn fr go => getAttrOr_miss_zip fr.zip rfl rfl rfl zip_no_keys (by decide +kernel) hn go
  iter := fun A s d Q E hn fr dl far go => wpAny_pyIter_zip fr.zip (go zz [zz, pp + 1, i, j] (Turn zz pp i j a b d us ws) s.heap s.toks (turns hn ap len far) (.inl ⟨rfl, fr⟩) (fun _ _ q => q) fun c hc => .inl hc)
end TDz
namespace L2
open PySem PyProof.Rows
/-- keys and values, told apart, are pairs -/
theorem pairs_apart {P : Program} {w : World} : ∀ {kvs : List (Key × V)} {us ws : List Value}, Vals (kvs.map fun kv => kV kv.1) us → Vals (kvs.map (·.2)) ws →
    ∃ prs : List (Key × Value), KV kvs prs ∧ prs.length = us.length ∧ prs.length = ws.length ∧ ∀ (i : Nat) (key v : Value), us[i]? = some key → ws[i]? = some v → ∃ k, prs[i]? = some (k, v) ∧ (mixKind P w).is k key = true
  | [], us, ws, h1, h2 => by
    cases h1
    cases h2
    exact ⟨[], .nil, rfl, rfl, fun i key v e => by simp at e⟩
  | kv :: kvs, _, _, .cons a1 b1, .cons (b := w') a2 b2 => by
    obtain ⟨prs, rel, l1, l2, hp⟩ := pairs_apart (P := P) (w := w) b1 b2
    refine ⟨(kv.1, w') :: prs, .cons ⟨rfl, a2⟩ rel, congrArg (· + 1) l1, congrArg (· + 1) l2, fun i key v e1 e2 => ?_⟩
    cases i with
    | zero =>
      cases e1
      cases e2
      exact ⟨kv.1, rfl, kV_is a1⟩
    | succ i => exact hp i key v e1 e2
/-- dict(zip(x, y)) of two tuples -/
def tDz (K : PySem.W.Frag) (t : TA) : TE := fun σ H Q => t σ H fun vs H1 => ∃ (a b : Addr) (kvs : List (Key × V)), vs = [.ref a, .ref b] ∧ SqT K H1 a (kvs.map fun kv => kV kv.1) ∧ SqT K H1 b (kvs.map (·.2)) ∧ ∀ p, H1 p = none → Q (.ref p) (upd H1 p (.dK (mergeK [] kvs)))
theorem pe_dzip {X : Cx} (calm : X.calm = true) {x y : Str} {p p2 p3 p4 : Pos} {e1 e2 : Expr} {t : TA} (gx : Gl X x) (mx : X.mg x = none) (bx : bootBuiltins x = some (.type "dict")) (nx : x ≠ "__name__") (dx : (x == ("__debug__" : Str)) = false)
    (gy : Gl X y) (my : X.mg y = none) (bz : bootBuiltins y = some (.type "zip")) (ny : y ≠ "__name__") (dy : (y == ("__debug__" : Str)) = false) (ha : PA X [e1, e2] t)
    (s1 : starEach [e1, e2] X.env = (false, eval e1 X.env) :: starEach [e2] X.env) (s2 : (backTo p3 (starEach [e2] X.env)).any (·.1) = false) : PE X (.Call (.Name x p) [.Call (.Name y p2) [e1, e2] [] p3] [] p4) (tDz X.K t) := by
  refine ⟨fun pins s σ H Q I run => wpAny_Call_Name_kw (ld_blt I gx mx bx (PyProof.Rows.callWith_type1 ?_ rfl rfl) nx dx)⟩
  show wpAny _ _ (spliced ((false, eval (.Call (.Name y p2) [e1, e2] [] p3) X.env) :: backTo p4 (starEach [] X.env))) _ _ s
  refine Calls.spliced_cons (wpAny_Call_Name_kw (ld_blt I gy my bz (PyProof.Rows.callWith_type1 (thn (ha.run p3 pins s σ H _ I run) fun us st hq => ?_) s1 s2) ny dy))
  obtain ⟨vs, H1, I1, rel, a, b, kvs, ev, sa, sb, q⟩ := hq
  subst ev
  obtain ⟨u1, u2, eu, ra, rb⟩ := vals2 rel
  subst eu
  cases ra
  cases rb
  obtain ⟨ks, rk, ta, za⟩ := I1.tuple sa
  obtain ⟨ws, rw', tb, zb⟩ := I1.tuple sb
  have la : @LT.lt Nat _ a st.heap.objs.size := ta.lt
  have lb : @LT.lt Nat _ b st.heap.objs.size := tb.lt
  refine RZ.call_zipT ta tb fun g q1 q2 q3 q4 q5 q6 q7 => Calls.spliced_nil ?_
  obtain ⟨prs, kv, l1, l2, hp⟩ := pairs_apart (P := X.prog) (w := X.w) rk rw'
  have ap : ZipApart (st.heap.objs.size + 4) (st.heap.objs.size + 2) (st.heap.objs.size + 2 + 1) st.heap.objs.size (st.heap.objs.size + 1) a b := by
    constructor <;> first | (show @Ne Nat _ _; omega) | omega
  obtain ⟨oa, a1, a2⟩ := id ta
  obtain ⟨ob, b1, b2⟩ := id tb
  have fits : prs.length ≤ sizeLine := by
    rw [l1, ← rk.length]
    exact za
  have le : st.heap.objs.size ≤ g.objs.size := by rw [q6]; omega
  refine PySem.call_dict_pairs (knd := mixKind X.prog X.w) (kvs := prs) (TDz.zipArg _ _ _ _ _ _ ap ks.toArray ws.toArray (by rw [List.size_toArray, List.size_toArray, ← l1, ← l2])) (I1.ok.hd calm)
    ⟨q1, q2, ⟨_, _, q3⟩, q4, q5, ⟨oa, q7 _ _ a1, a2⟩, ⟨ob, q7 _ _ b1, b2⟩⟩ ⟨by rw [List.size_toArray]; exact l1, fun i key v ⟨z1, z2⟩ => hp i key v (by simpa using z1) (by simpa using z2)⟩ (by rw [List.size_toArray, ← l1]; exact fits) fun g2 tk dict kp => ?_
  have small : (mergeK [] kvs).length ≤ sizeLine := Nat.le_trans (length_mergeK kvs []) (by rw [List.length_nil, Nat.zero_add, kv.length]; exact fits)
  refine ⟨.ref g.objs.size, upd H1 g.objs.size (.dK (mergeK [] kvs)), I1.laid (t' := tk) (fun c o e => kp c o (fun m => ?_) (q7 c o e)) le ⟨small, beq_eq_false_iff_ne.mpr (Nat.ne_of_gt (Nat.lt_of_lt_of_le I1.big le)), merged [] prs, KV.merge kv .nil, dict⟩, rfl, q _ (I1.hok.fresh le)⟩
  have lt : @LT.lt Nat _ c st.heap.objs.size := Heap.lt_size e
  simp only [List.mem_cons, List.not_mem_nil, or_false] at m
  have m : @Eq Nat c (st.heap.objs.size + 4) ∨ @Eq Nat c (st.heap.objs.size + 2 + 1) ∨ @Eq Nat c st.heap.objs.size ∨ @Eq Nat c (st.heap.objs.size + 1) := m
  omega
end L2

namespace TL
open PySem L2 PyProof.Rows
section
variable {X : Cx} {N : List Str} {G : GT} {k : Nat} {C : Cal} {cls : Nat → Value} {dp : Nat} {sc : Scope} {W : WX} {m n : E} {K : KW} {ω : Wd} {H : Hp} {st : Sto}
theorem OwnAt.mdic {t : Root} {p : List Str} {kvs : List (Str × D)} {a : Addr} (h : OwnAt K ω H t p (.mdic kvs) (.ref a)) : ∃ kws, H a = some (.dK kws) ∧ (kvs.map (·.1)).Nodup ∧ EntsR K ω H t p kvs kws := by
  obtain ⟨a', kws, e, h1, _, h2, h3⟩ := h
  cases e
  exact ⟨kws, h1, h2, h3⟩
theorem OwnAt.mlst {t : Root} {p : List Str} {ds : List D} {a : Addr} (h : OwnAt K ω H t p (.mlst ds) (.ref a)) : ∃ vs, H a = some (.lst vs) ∧ Reps K ω H ds vs := by
  obtain ⟨a', vs, e, h1, _, h2⟩ := h
  cases e
  exact ⟨vs, h1, h2⟩
theorem child_at {x : D} {l : Nat} {p : List Str} (s : Str) (hx : x = .ref l ∧ p = [] ∨ x = .ptr l p) : child s x = .ptr l (p ++ [s]) := by
  rcases hx with ⟨rfl, rfl⟩ | rfl <;> rfl
theorem snd_pix (hm : SndE N G k C cls dp m) (hn : SndE N G k C cls dp n) : SndE N G k C cls dp (.pix m n) := by
  intro X sc W e c h
  unfold chkE at h
  split at h
  · rename_i a b pos
    simp only [Bool.and_eq_true] at h
    have u := units_of c
    refine both_of (pe_imp (pe_ix (ix_list.or (ix_dk (by omega))) (hm X sc W a c h.1.2).1 (hn X sc W b c h.2).1 (slice_ok h.1.1)) ?_) rfl
    rintro σ H Q ⟨ω, ρ, st, hl, hs, hp⟩
    unfold ev at hp
    refine ⟨ω, ρ, st, hl, hs, (Post.bind hp).mono fun x st1 ω1 H1 x1 s1 q1 v r1 => ⟨ω1, ρ, st1, hl.ext x1, s1, (Post.bind q1).mono fun y st2 ω2 H2 x2 s2 q2 w r2 => ?_⟩⟩
    obtain ⟨d, e, q⟩ := Post.lift q2
    have q := q ω2 H2 .refl s2
    unfold pixD at e
    split at e
    · rename_i kvs hlk
      split at e
      · rename_i key
        obtain ⟨l, p, ad, rfl, wr, own, hx⟩ := look_at s2 (r1.ext x2) hlk rfl
        obtain ⟨kws, ha, nd, ents⟩ := own.mdic
        have lk := ents.lookup (k := key)
        obtain ⟨rfl, _⟩ := r2
        cases ql : kvs.lookup key with
        | none => rw [ql] at e; cases e
        | some d0 =>
          rw [ql] at e lk
          cases e
          obtain ⟨v0, hv, ho⟩ := lk
          refine .inr ⟨ad, v0, rfl, by rw [← hv]; exact DGet.k (k := .inr key) ha, q v0 ?_⟩
          by_cases od : d0.own = true
          · rw [if_pos od, child_at key hx]
            exact own_ptr od ho
          · rw [if_neg od]
            exact ho.rep (by simpa using od)
      · cases e
    · rename_i ds hlk
      split at e
      · rename_i i
        obtain ⟨l, p, ad, rfl, wr, own, hx⟩ := look_at s2 (r1.ext x2) hlk rfl
        obtain ⟨vs, ha, rs⟩ := own.mlst
        cases r2
        obtain ⟨v0, e1, rv⟩ := atI_rep rs e
        exact .inl ⟨ad, vs, i, v0, rfl, rfl, SqL.of ha, e1, q v0 rv⟩
      · cases e
    · cases e
  · cases h
theorem pin_run {neg : Bool} {σ : L2.St} {H : Hp} {Q : VK} (h : tE K C dp W cls (.pin neg m n) σ H Q) : tE K C dp W cls m σ H fun y H1 => tE K C dp W cls n σ H1 fun x H2 => ∃ a o, x = .ref a ∧ DGet H2 a y o ∧ Q (.bl (if neg then !o.isSome else o.isSome)) H2 := by
  obtain ⟨ω, ρ, st, hl, hs, hp⟩ := h
  unfold ev at hp
  refine ⟨ω, ρ, st, hl, hs, (Post.bind hp).mono fun y st1 ω1 H1 x1 s1 q1 w r1 => ⟨ω1, ρ, st1, hl.ext x1, s1, (Post.bind q1).mono fun x st2 ω2 H2 x2 s2 q2 v r2 => ?_⟩⟩
  obtain ⟨d, e, q⟩ := Post.lift q2
  have q := q ω2 H2 .refl s2
  unfold pinD at e
  split at e
  · rename_i kvs hlk
    split at e
    · rename_i key
      obtain ⟨l, p, ad, rfl, wr, own, hx⟩ := look_at s2 r2 hlk rfl
      obtain ⟨kws, ha, nd, ents⟩ := own.mdic
      have lk := ents.lookup (k := key)
      obtain ⟨rfl, _⟩ := r1
      cases e
      refine ⟨ad, valV kws (.inr key), rfl, DGet.k (k := .inr key) ha, ?_⟩
      have es : (valV kws (.inr key)).isSome = (kvs.lookup key).isSome := by
        cases ql : kvs.lookup key with
        | none => rw [ql] at lk; rw [lk]; rfl
        | some d0 =>
          rw [ql] at lk
          obtain ⟨v0, hv, _⟩ := lk
          rw [hv]
          rfl
      rw [es]
      exact q _ rfl
    · cases e
  · cases e
theorem snd_pin {neg : Bool} (hm : SndE N G k C cls dp m) (hn : SndE N G k C cls dp n) : SndE N G k C cls dp (.pin neg m n) := by
  intro X sc W e c h
  unfold chkE at h
  split at h
  · rename_i a op b pos
    simp only [Bool.and_eq_true, decide_eq_true_eq] at h
    obtain ⟨⟨⟨rfl, h2⟩, h3⟩, h4⟩ := h
    have u := units_of c
    have A := (hm X sc W a c h3).1
    have B := (hn X sc W b c h4).1
    cases neg with
    | true =>
      refine ⟨pe_imp (pe_cmp (pc_dnotin (by omega) A B) (set_ok h2)) fun σ H Q q => pin_run q, pt_imp (pt_cmp (pc_dnotin (by omega) A B) (set_ok h2)) fun σ H Q q => ?_⟩
      exact tTest_of q fun σ H Q q => pin_run q
    | false =>
      refine ⟨pe_imp (pe_cmp (pc_din (by omega) A B) (set_ok h2)) fun σ H Q q => pin_run q, pt_imp (pt_cmp (pc_din (by omega) A B) (set_ok h2)) fun σ H Q q => ?_⟩
      exact tTest_of q fun σ H Q q => pin_run q
  · cases h
theorem insK_perm (x : Str × D) : ∀ l : List (Str × D), (insK x l).Perm (x :: l)
  | [] => List.Perm.refl _
  | y :: r => by
    unfold insK
    split
    · exact List.Perm.refl _
    · exact ((insK_perm x r).cons y).trans (List.Perm.swap x y r)
theorem sortK_perm : ∀ l : List (Str × D), (sortK l).Perm l
  | [] => List.Perm.refl _
  | x :: r => (insK_perm x _).trans ((sortK_perm r).cons x)
theorem insK_keys (x : Str × D) : ∀ l : List (Str × D), (insK x l).map (·.1) = insS x.1 (l.map (·.1))
  | [] => rfl
  | y :: r => by
    unfold insK
    rw [List.map_cons, insS]
    split
    · rfl
    · rw [List.map_cons, insK_keys x r]
theorem sortK_keys : ∀ l : List (Str × D), (sortK l).map (·.1) = sortS (l.map (·.1))
  | [] => rfl
  | x :: r => by
    show (insK x (sortK r)).map (·.1) = insS x.1 (sortS (r.map (·.1)))
    rw [insK_keys, sortK_keys r]
theorem boot_sorted2 : bootBuiltins "sorted" = some (.builtin "sorted") := by decide +kernel
theorem snd_psort (hm : SndE N G k C cls dp m) : SndE N G k C cls dp (.psort m) := by
  intro X sc W e c h
  unfold chkE at h
  split at h
  · rename_i x p1 a p2
    simp only [Bool.and_eq_true, decide_eq_true_eq] at h
    obtain ⟨⟨⟨rfl, h2⟩, h3⟩, h4⟩ := h
    have F := fre_of c h2
    have A : PA X [a] (tCons (tE X.kw C dp W cls m) tNil) := pa_cons (hm X sc W a c h3).1 pa_nil (star_of h4 [] X.env)
    refine both_of (pe_imp (pe_callB (call_sortedD c.calm) F.g F.m boot_sorted2 A F.n.n F.n.d (star_of h4 [] X.env) rfl) ?_) rfl
    rintro σ H Q ⟨ω, ρ, st, hl, hs, hp⟩
    unfold ev at hp
    refine ⟨ω, ρ, st, hl, hs, (Post.bind hp).mono fun x st1 ω1 H1 x1 s1 q1 v r1 => ?_⟩
    obtain ⟨d, e, q⟩ := Post.lift q1
    unfold psortD at e
    split at e
    · rename_i kvs hlk
      split at e
      · rename_i h64
        cases e
        obtain ⟨l, p, ad, rfl, wr, own, hx⟩ := look_at s1 r1 hlk rfl
        obtain ⟨kws, ha, nd, ents⟩ := own.mdic
        obtain ⟨ek, le⟩ := ents.keys
        refine ⟨ad, kws, kvs.map (·.1), rfl, .inl ha, ek, by rw [List.length_map]; exact h64, fun ys p hp hso hn => ?_⟩
        have e2 := TStr.sorted_eq hp hso
        subst e2
        have e3 : (sortK kvs).map (fun kv => D.str kv.1) = (sortS (kvs.map (·.1))).map .str := by rw [← sortK_keys, List.map_map]; rfl
        rw [e3] at q
        refine q ω1 _ (.ofGrow s1 (same_new hn _)) (s1.grow (same_new hn _)) _ (rep_new_lst s1.trk hn (rep_strs fun x hx => le x (hp.mem_iff.mp hx)) ?_)
        rw [List.length_map, hp.length_eq, List.length_map, sizeLine_eq]
        omega
      · cases e
    · cases e
  · cases h
theorem snd_ptup (hm : SndE N G k C cls dp m) : SndE N G k C cls dp (.ptup m) := by
  intro X sc W e c h
  unfold chkE at h
  split at h
  · rename_i x p1 a p2
    simp only [Bool.and_eq_true, decide_eq_true_eq] at h
    obtain ⟨⟨⟨rfl, h2⟩, h3⟩, h4⟩ := h
    have F := fre_of c h2
    have A : PA X [a] (tCons (tE X.kw C dp W cls m) tNil) := pa_cons (hm X sc W a c h3).1 pa_nil (star_of h4 [] X.env)
    refine both_of (pe_imp (pe_callTy (T := "tuple") call_tuple_of F.g F.m (by decide +kernel) A F.n.n F.n.d (star_of h4 [] X.env) rfl) ?_) rfl
    rintro σ H Q ⟨ω, ρ, st, hl, hs, hp⟩
    unfold ev at hp
    refine ⟨ω, ρ, st, hl, hs, (Post.bind hp).mono fun x st1 ω1 H1 x1 s1 q1 v r1 => ?_⟩
    obtain ⟨d, e, q⟩ := Post.lift q1
    unfold ptupD at e
    split at e
    · rename_i ds hlk
      split at e
      · rename_i ln
        cases e
        obtain ⟨l, p, ad, rfl, wr, own, hx⟩ := look_at s1 r1 hlk rfl
        obtain ⟨vs, ha, rs⟩ := own.mlst
        exact ⟨ad, vs, rfl, .inl ⟨SqL.of ha, fun p hp => q ω1 _ (.ofGrow s1 (same_new hp _)) (s1.grow (same_new hp _)) _ (rep_new_tup hp rs ln)⟩⟩
      · cases e
    · cases e
  · cases h
def insG {α : Type} (x : Str × α) : List (Str × α) → List (Str × α)
  | [] => [x]
  | y :: r => if strLe x.1 y.1 then x :: y :: r else y :: insG x r
def sortG {α : Type} : List (Str × α) → List (Str × α)
  | [] => []
  | x :: r => insG x (sortG r)
theorem insG_map {α β : Type} (f : α → β) (x : Str × α) : ∀ l : List (Str × α), insG (x.1, f x.2) (l.map fun e => (e.1, f e.2)) = (insG x l).map fun e => (e.1, f e.2)
  | [] => rfl
  | y :: r => by
    rw [List.map_cons, insG, insG]
    by_cases h : strLe x.1 y.1 = true
    · rw [if_pos h, if_pos h]
      rfl
    · rw [if_neg h, if_neg h, List.map_cons, insG_map f x r]
theorem sortG_map {α β : Type} (f : α → β) : ∀ l : List (Str × α), sortG (l.map fun e => (e.1, f e.2)) = (sortG l).map fun e => (e.1, f e.2)
  | [] => rfl
  | x :: r => by
    show insG (x.1, f x.2) (sortG (r.map fun e => (e.1, f e.2))) = (insG x (sortG r)).map fun e => (e.1, f e.2)
    rw [sortG_map f r, insG_map]
theorem insK_G (x : Str × D) : ∀ l : List (Str × D), insK x l = insG x l
  | [] => rfl
  | y :: r => by
    unfold insK insG
    rw [insK_G x r]
theorem sortK_G : ∀ l : List (Str × D), sortK l = sortG l
  | [] => rfl
  | x :: r => by
    show insK x (sortK r) = insG x (sortG r)
    rw [sortK_G r, insK_G]
theorem insG_perm {α : Type} (x : Str × α) : ∀ l : List (Str × α), (insG x l).Perm (x :: l)
  | [] => List.Perm.refl _
  | y :: r => by
    unfold insG
    split
    · exact List.Perm.refl _
    · exact ((insG_perm x r).cons y).trans (List.Perm.swap x y r)
theorem sortG_perm {α : Type} : ∀ l : List (Str × α), (sortG l).Perm l
  | [] => List.Perm.refl _
  | x :: r => (insG_perm x _).trans ((sortG_perm r).cons x)
theorem insG_keys {α : Type} (x : Str × α) : ∀ l : List (Str × α), (insG x l).map (·.1) = insS x.1 (l.map (·.1))
  | [] => rfl
  | y :: r => by
    unfold insG
    rw [List.map_cons, insS]
    split
    · rfl
    · rw [List.map_cons, insG_keys x r]
theorem sortG_keys {α : Type} : ∀ l : List (Str × α), (sortG l).map (·.1) = sortS (l.map (·.1))
  | [] => rfl
  | x :: r => by
    show (insG x (sortG r)).map (·.1) = insS x.1 (sortS (r.map (·.1)))
    rw [insG_keys, sortG_keys r]
theorem sortG_sorted {α : Type} (l : List (Str × α)) : (sortG l).Pairwise (fun e f => strLe e.1 f.1 = true) := by
  have := TStr.sortS_sorted (l.map (·.1))
  rw [← sortG_keys, List.pairwise_map] at this
  exact this
theorem perm_key {α : Type} {l m : List (Str × α)} (nd : (l.map (·.1)).Nodup) (p : l.Perm m) (h1 : l.Pairwise (fun e f => strLe e.1 f.1 = true)) (h2 : m.Pairwise (fun e f => strLe e.1 f.1 = true)) : l = m := by
  refine List.Perm.eq_of_pairwise (le := fun e f => strLe e.1 f.1 = true) (fun a b ha hb x y => ?_) h1 h2 p
  have e1 : a.1 = b.1 := TStr.le_anti x y
  have hb' := p.mem_iff.mpr hb
  obtain ⟨i, hi, ei⟩ := List.mem_iff_getElem.mp ha
  obtain ⟨j, hj, ej⟩ := List.mem_iff_getElem.mp hb'
  have a1 : (l.map (·.1))[i]? = some a.1 := by rw [List.getElem?_map, List.getElem?_eq_getElem hi, ei]; rfl
  have a2 : (l.map (·.1))[j]? = some a.1 := by rw [List.getElem?_map, List.getElem?_eq_getElem hj, ej, e1]; rfl
  have ij := (List.getElem?_inj (List.getElem?_eq_some_iff.mp a1).1 nd).mp (a1.trans a2.symm)
  subst ij
  exact ei.symm.trans ej
/-- entries' values, plain -/
theorem EntsR.plain {t : Root} {p : List Str} : ∀ {kvs : List (Str × D)} {kws : List (Key × V)}, EntsR K ω H t p kvs kws → (kvs.all fun kv => !kv.2.own) = true →
    ∃ L : List (Str × (D × V)), kvs = L.map (fun e => (e.1, e.2.1)) ∧ kws = L.map (fun e => (Sum.inr e.1, e.2.2)) ∧ ∀ e ∈ L, e.1.length ≤ sizeLine ∧ Rep K ω H e.2.1 e.2.2
  | [], kws, r, _ => by cases r; exact ⟨[], rfl, rfl, fun _ h => nomatch h⟩
  | (k', d) :: kvs, kws, r, h => by
    obtain ⟨v, r', rfl, l1, h1, h2⟩ := r
    rw [List.all_cons, Bool.and_eq_true] at h
    obtain ⟨L, e1, e2, rs⟩ := EntsR.plain h2 h.2
    refine ⟨(k', d, v) :: L, by rw [e1]; rfl, by rw [e2]; rfl, fun e he => ?_⟩
    rcases List.mem_cons.mp he with rfl | he
    · exact ⟨l1, h1.rep (by simpa using h.1)⟩
    · exact rs e he
theorem reps_pairs {H' : Hp} : ∀ {ps : List (Addr × Str × V)} {L : List (Str × (D × V))}, ps.map (·.2) = L.map (fun e => (e.1, e.2.2)) → (∀ z ∈ ps, H' z.1 = some (.tup [.str z.2.1, z.2.2])) → (∀ e ∈ L, e.1.length ≤ sizeLine ∧ Rep K ω H' e.2.1 e.2.2) →
    Reps K ω H' (L.map fun e => .tup [.str e.1, e.2.1]) (ps.map fun z => V.ref z.1)
  | [], [], _, _, _ => rfl
  | [], _ :: _, e, _, _ => nomatch e
  | _ :: _, [], e, _, _ => nomatch e
  | z :: ps, x :: L, e, hz, hr => by
    rw [List.map_cons, List.map_cons, List.cons.injEq] at e
    obtain ⟨l1, r1⟩ := hr x List.mem_cons_self
    refine ⟨.ref z.1, _, rfl, ⟨by show 2 ≤ sizeLine; decide, z.1, [.str x.1, x.2.2], rfl, SqT.of ?_, .str x.1, _, rfl, ⟨rfl, l1⟩, x.2.2, [], rfl, r1, rfl⟩, reps_pairs e.2 (fun y hy => hz y (List.mem_cons_of_mem _ hy)) fun y hy => hr y (List.mem_cons_of_mem _ hy)⟩
    have := hz z List.mem_cons_self
    rw [this, e.1]
theorem snd_pitems (hm : SndE N G k C cls dp m) : SndE N G k C cls dp (.pitems m) := by
  intro X sc W e c h
  unfold chkE at h
  split at h
  · rename_i x p1 a y apos cpos p2
    simp only [Bool.and_eq_true, decide_eq_true_eq] at h
    obtain ⟨⟨⟨⟨⟨rfl, h2⟩, rfl⟩, h4⟩, h5⟩, h6⟩ := h
    have F := fre_of c h2
    have u := units_of c
    have A := pe_bm0 (apos := apos) (cpos := cpos) PySem.F.plainAttrs_dict PySem.F.slot_dict_items PySem.F.type_dict_items L2.DX.mt_itemsK (hm X sc W a c h6).1 (attr_ok h4 _ _) h5
    refine both_of (pe_imp (pe_callB (L2.DX.cr_sortK (X := X) c.calm (by omega)) F.g F.m boot_sorted2 (pa_cons A pa_nil rfl) F.n.n F.n.d rfl rfl) ?_) rfl
    rintro σ H Q ⟨ω, ρ, st, hl, hs, hp⟩
    unfold ev at hp
    refine ⟨ω, ρ, st, hl, hs, (Post.bind hp).mono fun x st1 ω1 H1 x1 s1 q1 v r1 => ?_⟩
    obtain ⟨d, e, q⟩ := Post.lift q1
    unfold pitemsD at e
    split at e
    · rename_i kvs hlk
      split at e
      · rename_i hc
        obtain ⟨h64, hpl⟩ := hc
        cases e
        obtain ⟨l, p, ad, rfl, wr, own, hx⟩ := look_at s1 r1 hlk rfl
        obtain ⟨kws, ha, nd, ents⟩ := own.mdic
        obtain ⟨L, e1, e2, rs⟩ := ents.plain hpl
        refine ⟨.inr (.inr (.inl ⟨rfl, .inl ⟨kws, ha⟩⟩)), ad, kws, rfl, rfl, ha, fun pv hpv => ?_⟩
        have ne : ad ≠ pv := ne_of_none ha hpv
        have ndL : (L.map (·.1)).Nodup := by
          rw [e1, List.map_map] at nd
          exact nd
        refine ⟨pv, ad, kws, L.map (fun e => (e.1, e.2.2)), rfl, upd_same, (upd_ne ne).trans ha, by rw [e2, List.map_map]; rfl, by rw [List.map_map]; exact ndL, by rw [List.length_map]; rw [e1, List.length_map] at h64; exact h64, fun H' lad ps gr hn pm srt hlst htup => ?_⟩
        have key : ps.map (·.2) = (sortG L).map (fun e => (e.1, e.2.2)) := by
          rw [← sortG_map (fun z : D × V => z.2)]
          refine perm_key ?_ (pm.trans (sortG_perm _).symm) srt (sortG_sorted _)
          rw [(pm.map (·.1)).nodup_iff, List.map_map]
          exact ndL
        have sm : Same H1 H' := fun b o hb => gr b o (by rw [upd_ne (ne_of_none hb hpv)]; exact hb)
        have e3 : (sortK kvs).map (fun kv => D.tup [.str kv.1, kv.2]) = (sortG L).map fun e => .tup [.str e.1, e.2.1] := by
          rw [sortK_G, e1, sortG_map (fun z : D × V => z.1), List.map_map]
          rfl
        rw [e3] at q
        have hn1 : H1 lad = none := by
          cases z : H1 lad with
          | none => rfl
          | some o =>
            rw [upd_ne (ne_of_none z hpv), z] at hn
            cases hn
        refine q ω1 H' (.ofGrow s1 sm) (s1.grow sm) (.ref lad) ⟨?_, lad, _, rfl, hlst, fresh_wr s1.trk hn1, reps_pairs key htup fun e he => ?_⟩
        · rw [List.length_map, (sortG_perm L).length_eq, sizeLine_eq]
          rw [e1, List.length_map] at h64
          omega
        · obtain ⟨a1, a2⟩ := rs e ((sortG_perm L).mem_iff.mp he)
          exact ⟨a1, a2.grow sm⟩
      · cases e
    · cases e
  · cases h
end
end TL

namespace TL
open PySem L2 PyProof.Rows
section
variable {X : Cx} {N : List Str} {G : GT} {k : Nat} {C : Cal} {cls : Nat → Value} {dp : Nat} {sc : Scope} {W : WX} {e : Expr} {es : List Expr} {m n l a b : E} {ms : List E}
/-- x in a name's own list -/
def rInOwn (K : KW) (neg : Bool) : R2 := fun x y H Q => ∃ (ω : Wd) (a : D) (ds : List D) (ad : Addr) (vs : List V) (kk : Bool), Rep K ω H a x ∧ y = .ref ad ∧ H ad = some (.lst vs) ∧ Reps K ω H ds vs ∧ inD a (.mlst ds) = some kk ∧ Q (.bl (if neg then !kk else kk)) H
theorem op_inOwn (hu : X.A.units + 65 < cLine) : OpR X (compareOp .In) (rInOwn X.kw false) := by
  refine opr_imp (op_inD hu) ?_
  rintro x y H Q ⟨ω, a, ds, ad, vs, kk, ra, rfl, ha, r, e, q⟩
  replace e : (if (a.shp && (D.lst ds).shp) = true then some (ds.any fun y => y.eqv a) else none) = some kk := e
  split at e
  · rename_i hc
    cases e
    rw [Bool.and_eq_true] at hc
    refine ⟨_, pys ds, Rep.dp a x (.inl hc.1) ra, .lst (SqL.of ha) (Reps.dp ds vs (canLayAll_of hc.2) r), hc.1, hc.2, ?_⟩
    rw [any_pys]
    exact q
  · cases e
theorem op_notInOwn (hu : X.A.units + 65 < cLine) : OpR X (compareOp .NotIn) (rInOwn X.kw true) := by
  refine opr_imp (op_notInD hu) ?_
  rintro x y H Q ⟨ω, a, ds, ad, vs, kk, ra, rfl, ha, r, e, q⟩
  replace e : (if (a.shp && (D.lst ds).shp) = true then some (ds.any fun y => y.eqv a) else none) = some kk := e
  split at e
  · rename_i hc
    cases e
    rw [Bool.and_eq_true] at hc
    refine ⟨_, pys ds, Rep.dp a x (.inl hc.1) ra, .lst (SqL.of ha) (Reps.dp ds vs (canLayAll_of hc.2) r), hc.1, hc.2, ?_⟩
    rw [any_pys]
    exact q
  · cases e
/-- .. or in a name's own dict -/
def rIn2 (K : KW) (neg : Bool) : R2 := fun x y H Q => rInOwn K neg x y H Q ∨ rMset K neg x y H Q
theorem snd_inOwn {neg : Bool} {i : Nat} (hm : SndE N G k C cls dp m) : SndE N G k C cls dp (.inOwn neg m i) := by
  intro X sc W e c h
  unfold chkE at h
  split at h
  · rename_i a op x p pos
    simp only [Bool.and_eq_true, decide_eq_true_eq] at h
    obtain ⟨⟨⟨⟨h1, h2⟩, h3⟩, h4⟩, h5⟩ := h
    have nm := nameOk_of h5
    have A := (hm X sc W a c h2).1
    have B : PE X (.Name x p) (tVar i) := pe_var (X := X) (i := i) (by rw [c.hN]; exact h3) (vis_of c.hsc h4) nm.d nm.c
    have u := units_of c
    have ho : OpR X (compareOp op) (rIn2 X.kw neg) := by
      cases neg with
      | true => rw [h1]; exact (op_notInOwn u).or (op_notInMset u)
      | false => rw [h1]; exact (op_inOwn u).or (op_inMset u)
    have key : ∀ σ H Q, tE X.kw C dp W cls (.inOwn neg m i) σ H Q → tOp (rIn2 X.kw neg) (tE X.kw C dp W cls m) (tVar i) σ H Q := by
      rintro σ H Q ⟨ω, ρ, st, hl, hs, hp⟩
      unfold ev at hp
      refine ⟨ω, ρ, st, hl, hs, (Post.bind hp).mono fun d st1 ω1 H1 x1 s1 q1 v r1 => ?_⟩
      split at q1
      · rename_i ds hd
        obtain ⟨w, e1, ad, vs, rfl, h2, w2, r2⟩ := (hl.ext x1).at_ i _ hd
        obtain ⟨d2, e2, q2⟩ := Post.lift q1
        cases q3 : inD d (.mlst ds) with
        | none => rw [q3] at e2; cases e2
        | some kk =>
          rw [q3] at e2
          cases e2
          exact ⟨_, e1, .inl ⟨ω1, d, ds, ad, vs, kk, r1, rfl, h2, r2, q3, q2 ω1 H1 .refl s1 _ rfl⟩⟩
      · rename_i ks hd
        obtain ⟨w, e1, ad, xs, rfl, h2, w2, r2⟩ := (hl.ext x1).at_ i _ hd
        obtain ⟨d2, e2, q2⟩ := Post.lift q1
        replace e2 : (if isKey d = true then some (ks.any fun y => y.eqv d) else none).map (fun b => TL.D.bl (if neg then !b else b)) = some d2 := e2
        by_cases hk : isKey d = true
        · rw [if_pos hk] at e2
          cases e2
          obtain ⟨ts, rfl⟩ := isKey_tup hk
          obtain ⟨l1, b, vs, rfl, q0⟩ := r1
          exact ⟨_, e1, .inr ⟨ω1, .tup ts, ks, ad, b, xs, rfl, rfl, (show Rep X.kw ω1 H1 (.tup ts) (.ref b) from ⟨l1, b, vs, rfl, q0⟩), hk, h2, r2, q2 ω1 H1 .refl s1 _ rfl⟩⟩
        · rw [if_neg hk] at e2
          cases e2
      · exact q1.elim
    exact ⟨pe_imp (pe_cmpR ho A B (set_ok rfl)) key, pt_imp (pt_cmpR ho A B (set_ok rfl)) fun σ H Q q => tTest_of q key⟩
  · cases h
theorem Post.ext {α : Type} {K : KW} {σ : L2.St} {ω ω1 : Wd} {H H1 : Hp} {r : R α} {P : α → Sto → Wd → Hp → Prop} (h : Post K dp W cls σ ω H r P) (x : Ext (dp + 1) ω H ω1 H1) : Post K dp W cls σ ω1 H1 r P := by
  cases r with
  | ok a st => exact fun ω' H' x' s => h ω' H' (x.trans x') s
  | exc c st => exact fun ω' H' x' s => h ω' H' (x.trans x') s
  | fail => exact h
/-- the pairs of a display -/
def trsOf (K : KW) (C : Cal) (dp : Nat) (W : WX) (cls : Nat → Value) : List Str → List E → List (TE × TE)
  | k :: ks, m :: ms => (tC (.str k), tE K C dp W cls m) :: trsOf K C dp W cls ks ms
  | _, _ => []
def kvV : List Str → List V → List (Key × V)
  | k :: ks, v :: vs => (.inr k, v) :: kvV ks vs
  | _, _ => []
theorem pps_of {pos : Pos} (c : Cok X G k C cls N sc W) : ∀ {ks : List Str} {ms : List E} {keys : List (Option Expr)} {values : List Expr}, (∀ m ∈ ms, SndE N G k C cls dp m) → dicKeys ks keys = true → chkEs N G ms sc values = true → ks.length = ms.length → PPs X pos keys values (trsOf X.kw C dp W cls ks ms)
  | [], [], keys, values, _, h1, h2, _ => by
    cases keys with
    | cons _ _ => cases h1
    | nil =>
      unfold chkEs at h2
      cases values with
      | cons _ _ => simp at h2
      | nil => exact pps_nil
  | kk :: ks, m :: ms, keys, values, hm, h1, h2, hl => by
    unfold dicKeys at h1
    split at h1
    · cases ‹_ :: _ = []›
    · rename_i k2 ks2 x j p es e1
      cases e1
      simp only [Bool.and_eq_true, decide_eq_true_eq] at h1
      obtain ⟨⟨rfl, h3⟩, h4⟩ := h1
      unfold chkEs at h2
      cases values with
      | nil => cases h2
      | cons v vs =>
        simp only [Bool.and_eq_true] at h2
        exact pps_cons pe_str (hm m List.mem_cons_self X sc W v c h2.1.1).1 (pps_of c (fun m' h => hm m' (List.mem_cons_of_mem _ h)) h4 h2.2 (Nat.succ.inj hl))
    · cases h1
theorem pairs_run {K : KW} {σ : L2.St} : ∀ {ks : List Str} {ms : List E} {ω : Wd} {ρ : Env} {st : Sto} {H : Hp} {Q : List (V × V) → Hp → Prop}, ks.length = ms.length → Loc K ω dp ρ σ H → StoOk K ω st H →
    Post K dp W cls σ ω H (evs C ms ρ st) (fun ds _ ω' H' => ∀ vs, Reps K ω' H' ds vs → Q ((kvV ks vs).map fun kv => (kV kv.1, kv.2)) H') → tPairs (trsOf K C dp W cls ks ms) σ H Q
  | [], [], ω, ρ, st, H, Q, _, hl, hs, hp => by
    unfold evs at hp
    exact hp ω H .refl hs [] rfl
  | kk :: ks, m :: ms, ω, ρ, st, H, Q, hn, hl, hs, hp => by
    unfold evs at hp
    refine ⟨ω, ρ, st, hl, hs, (Post.bind hp).mono fun d st1 ω1 H1 x1 s1 q1 v r1 => ?_⟩
    refine pairs_run (Nat.succ.inj hn) (hl.ext x1) s1 ((Post.bind q1).mono fun ds st2 ω2 H2 x2 s2 q2 vs r2 => ?_)
    exact q2 ω2 H2 .refl s2 (v :: vs) ⟨v, vs, rfl, r1.ext x2, r2⟩
theorem kvV_len : ∀ {ks : List Str} {vs : List V}, (kvV ks vs).length ≤ ks.length
  | [], _ => Nat.le_refl _
  | _ :: _, [] => Nat.zero_le _
  | _ :: _, _ :: _ => Nat.succ_le_succ kvV_len
theorem kvV_mem : ∀ {ks : List Str} {vs : List V} {kv : Key × V}, kv ∈ kvV ks vs → ∃ k ∈ ks, kv.1 = .inr k
  | k :: ks, v :: vs, kv, h => by
    rcases List.mem_cons.mp h with rfl | h
    · exact ⟨k, List.mem_cons_self, rfl⟩
    · obtain ⟨k', h1, h2⟩ := kvV_mem h
      exact ⟨k', List.mem_cons_of_mem _ h1, h2⟩
theorem merge_new : ∀ {ks : List Str} {vs : List V} {acc : List (Key × V)}, ks.Nodup → (∀ kv ∈ acc, ∀ k ∈ ks, kv.1 ≠ .inr k) → mergeK acc (kvV ks vs) = acc ++ kvV ks vs
  | [], _, acc, _, _ => by simp [kvV, mergeK]
  | _ :: _, [], acc, _, _ => by simp [kvV, mergeK]
  | k :: ks, v :: vs, acc, nd, h => by
    rw [List.nodup_cons] at nd
    have hp : putK acc (.inr k) v = acc ++ [(.inr k, v)] := by
      unfold putK
      rw [if_neg]
      intro e
      obtain ⟨kv, h1, h2⟩ := List.any_eq_true.mp e
      exact h kv h1 k List.mem_cons_self (of_decide_eq_true h2)
    show mergeK (putK acc (.inr k) v) (kvV ks vs) = _
    rw [hp, merge_new nd.2, List.append_assoc]
    · rfl
    · intro kv hk k' hk'
      rcases List.mem_append.mp hk with hk | hk
      · exact h kv hk k' (List.mem_cons_of_mem _ hk')
      · rw [List.mem_singleton.mp hk]
        intro e
        cases e
        exact nd.1 hk'
theorem repk_of {K : KW} {ω : Wd} {H : Hp} : ∀ {ks : List Str} {ds : List D} {vs : List V}, Reps K ω H ds vs → Repk K ω H (ks.zip ds) (kvV ks vs)
  | [], _, _, _ => by simp [Repk, kvV]
  | _ :: _, [], _, r => by
    cases r
    simp [Repk, kvV]
  | k :: ks, d :: ds, vs, r => by
    obtain ⟨v, r', rfl, h1, h2⟩ := r
    exact ⟨v, kvV ks r', rfl, h1, repk_of h2⟩
theorem Kept.writeD {ω : Wd} {H : Hp} {D₀ : Addr} {t : Root × List Str} {o : HO} {xs : List (Key × V)} (w : ω.wr D₀ = some t) (h : H D₀ = some (.dK xs)) : Kept ω H ω (upd H D₀ o) where
  mu := List.prefix_refl _
  cell := fun _ _ _ e => e
  tup := fun a ys e => by
    have ne : a ≠ D₀ := fun z => by rw [z, h] at e; cases e
    rw [upd_ne ne]; exact e
  frz := fun a o u e => by
    have ne : a ≠ D₀ := fun z => by rw [z, h] at e; cases e
    rw [upd_ne ne]; exact e
  lst := fun a ys e w' => by
    have ne : a ≠ D₀ := fun z => by rw [z, w] at w'; cases w'
    rw [upd_ne ne]; exact ⟨e, w'⟩
  dic := fun a ys e w' => by
    have ne : a ≠ D₀ := fun z => by rw [z, w] at w'; cases w'
    rw [upd_ne ne]; exact ⟨e, w'⟩
theorem keys_some : ∀ {ks : List Str} {keys : List (Option Expr)}, dicKeys ks keys = true → keys.all (·.isSome) = true ∧ keys.length = ks.length
  | [], [], _ => ⟨rfl, rfl⟩
  | [], _ :: _, h => by cases h
  | _ :: _, [], h => by cases h
  | k :: ks, none :: es, h => by cases h
  | k :: ks, some e :: es, h => by
    unfold dicKeys at h
    split at h
    · cases ‹_ :: _ = []›
    · rename_i e1 e2
      cases e1
      cases e2
      simp only [Bool.and_eq_true] at h
      obtain ⟨z1, z2⟩ := keys_some h.2
      exact ⟨by rw [List.all_cons, z1]; rfl, by rw [List.length_cons, List.length_cons, z2]⟩
    · cases h
theorem snd_dic {ks : List Str} (hm : ∀ m ∈ ms, SndE N G k C cls dp m) : SndE N G k C cls dp (.dic ks ms) := by
  intro X sc W e c h
  unfold chkE at h
  split at h
  · rename_i keys values pos
    simp only [Bool.and_eq_true, decide_eq_true_eq] at h
    obtain ⟨⟨⟨⟨⟨h1, h2⟩, h3⟩, h4⟩, h5⟩, h6⟩ := h
    obtain ⟨ka, kl⟩ := keys_some h1
    have hv := chkEs_length h2
    have kn : keys ≠ [] := by
      intro e
      rw [e] at kl
      have : ks = [] := List.length_eq_zero_iff.mp kl.symm
      rw [this] at h3
      cases h3
    refine both_of (pe_imp (pe_disp (pps_of c hm h1 h2 h5) ka (by rw [kl, h5]; exact hv.symm) kn (by rw [kl]; exact h4)) ?_) rfl
    rintro σ H Q ⟨ω, ρ, st, hl, hs, hp⟩ p hpn
    unfold ev at hp
    have x0 : Ext (dp + 1) ω H (ω.put p (.slot dp 0, [("" : Str)])) (upd H p (.dK [])) := .put hs.trk hpn
    refine pairs_run h5 (hl.ext x0) (hs.put hpn) ?_
    cases q : evs C ms ρ st with
    | fail => rw [q] at hp; exact hp.elim
    | exc cc st1 =>
      rw [q] at hp
      have hp : Post X.kw dp W cls σ ω H (R.exc cc st1 : R D) _ := hp
      exact fun ω' H' x s => hp ω' H' (x0.trans x) s
    | ok ds st1 =>
      rw [q] at hp
      have hp : Post X.kw dp W cls σ ω H (R.ok (D.dic (ks.zip ds)) st1) _ := hp
      intro ω1 H1 x1 s1 vs r1
      have fx := x1.fix p dp 0 [("" : Str)] Wd.put_same (Nat.lt_succ_self _)
      have w1 := fx.1.trans Wd.put_same
      have h1p : H1 p = some (.dK []) := fx.2.trans upd_same
      refine ⟨h1p, kvV ks vs, rfl, Nat.le_trans kvV_len h4, ?_⟩
      rw [merge_new h6 (fun _ z => by cases z), List.nil_append]
      have x2 : Ext (dp + 1) ω H ω1 H1 := x0.trans x1
      have x3 : Ext (dp + 1) ω H (ω1.free p) (upd H1 p (.dK (kvV ks vs))) := (x2.writeNew hs.trk hpn).freeNew hs.trk hpn w1
      have kw : Kept ω1 H1 ω1 (upd H1 p (.dK (kvV ks vs))) := .writeD w1 h1p
      refine hp (ω1.free p) _ x3 ((s1.write w1 kw).free w1) (.ref p) ⟨?_, p, kvV ks vs, rfl, upd_same, ?_, repk_of (Reps.kept (.free w1) _ _ (Reps.kept kw _ _ r1))⟩
      · rw [List.length_zip]
        have : (15 : Nat) ≤ sizeLine := by decide
        omega
      · show (if p = p then none else ω1.wr p) = none
        rw [if_pos rfl]
  · cases h
theorem boot_dict3 : bootBuiltins "dict" = some (.type "dict") := by decide +kernel
theorem boot_zip3 : bootBuiltins "zip" = some (.type "zip") := by decide +kernel
theorem keysD_reps {K : KW} {ω : Wd} {H : Hp} : ∀ {ks : List D} {vs : List V} {zs : List Str}, keysD ks = some zs → Reps K ω H ks vs → vs = zs.map V.str
  | [], vs, zs, e, r => by
    cases e
    exact r
  | k :: ks, vs, zs, e, r => by
    obtain ⟨v, r', rfl, h1, h2⟩ := r
    cases k <;> first | (cases e; done) | skip
    rename_i x
    unfold keysD at e
    cases q : keysD ks with
    | none => rw [q] at e; cases e
    | some ys =>
      rw [q] at e
      cases e
      rw [show v = .str x from h1.1, keysD_reps q h2]
      rfl
theorem kvV_keys : ∀ {zs : List Str} {vs : List V}, zs.length = vs.length → (kvV zs vs).map (fun kv => kV kv.1) = zs.map V.str ∧ (kvV zs vs).map (·.2) = vs
  | [], [], _ => ⟨rfl, rfl⟩
  | [], _ :: _, h => by cases h
  | _ :: _, [], h => by cases h
  | z :: zs, v :: vs, h => by
    obtain ⟨h1, h2⟩ := kvV_keys (zs := zs) (vs := vs) (by simpa using h)
    exact ⟨by rw [kvV, List.map_cons, h1]; rfl, by rw [kvV, List.map_cons, h2]⟩
theorem snd_dzip (hm : SndE N G k C cls dp m) (hn : SndE N G k C cls dp n) : SndE N G k C cls dp (.dzip m n) := by
  intro X sc W e c h
  unfold chkE at h
  split at h
  · rename_i x p1 y p2 a b p3 p4
    simp only [Bool.and_eq_true, decide_eq_true_eq] at h
    obtain ⟨⟨⟨⟨⟨⟨⟨rfl, h2⟩, rfl⟩, h4⟩, h5⟩, h6⟩, h7⟩, h8⟩ := h
    have F := fre_of c h2
    have F2 := fre_of c h4
    have P : PA X [a, b] (tCons (tE X.kw C dp W cls m) (tCons (tE X.kw C dp W cls n) tNil)) := pa_cons (hm X sc W _ c h5).1 (pa_cons (hn X sc W _ c h7).1 pa_nil (star_of h8 [] X.env)) (star_of h6 _ X.env)
    have sb : (backTo p3 (starEach [b] X.env)).any (·.1) = false := stars_of (by rw [List.all_cons, h8]; rfl)
    refine both_of (pe_imp (pe_dzip c.calm F.g F.m boot_dict3 F.n.n F.n.d F2.g F2.m boot_zip3 F2.n.n F2.n.d P (star_of h6 _ X.env) sb) ?_) rfl
    rintro σ H Q ⟨ω, ρ, st, hl, hs, hp⟩
    unfold ev at hp
    refine ⟨ω, ρ, st, hl, hs, (Post.bind hp).mono fun x st1 ω1 H1 x1 s1 q1 v r1 => ⟨ω1, ρ, st1, hl.ext x1, s1, (Post.bind q1).mono fun y st2 ω2 H2 x2 s2 q2 w r2 => ?_⟩⟩
    obtain ⟨d, e, q⟩ := Post.lift q2
    replace r1 := r1.ext x2
    unfold dzD at e
    split at e
    · rename_i ks vs
      obtain ⟨l1, a1, xs1, rfl, sq1, rs1⟩ := r1
      obtain ⟨l2, a2, xs2, rfl, sq2, rs2⟩ := r2
      cases qk : keysD ks with
      | none => rw [qk] at e; cases e
      | some zs =>
        rw [qk] at e
        dsimp only [Option.bind] at e
        split at e
        · rename_i hc
          obtain ⟨nd, hlen, h1000⟩ := hc
          cases e
          have ez := keysD_reps qk rs1
          have l3 : zs.length = xs2.length := by rw [rs2.length]; exact hlen
          obtain ⟨k1, k2⟩ := kvV_keys l3
          refine ⟨a1, a2, kvV zs xs2, rfl, by rw [k1, ← ez]; exact sq1, by rw [k2]; exact sq2, fun p hpn => ?_⟩
          rw [merge_new nd (fun _ z => by cases z), List.nil_append]
          have wn : ω2.wr p = none := by
            cases qq : ω2.wr p with
            | none => rfl
            | some z => exact absurd hpn (s2.trk p (by rw [qq]; simp))
          refine q ω2 _ (.ofGrow s2 (same_new hpn _)) (s2.grow (same_new hpn _)) (.ref p) ⟨?_, p, kvV zs xs2, rfl, upd_same, wn, repk_of (Reps.kept (.grow (same_new hpn _)) _ _ rs2)⟩
          rw [List.length_zip]
          have : (1000 : Nat) ≤ sizeLine := by decide
          omega
        · cases e
    · cases e
  · cases h
theorem snd_dget (hm : SndE N G k C cls dp m) (hn : SndE N G k C cls dp n) (hk : SndE N G k C cls dp l) : SndE N G k C cls dp (.dget m n l) := by
  intro X sc W e c h
  unfold chkE at h
  split at h
  · rename_i a x apos b f pos
    simp only [Bool.and_eq_true, decide_eq_true_eq] at h
    obtain ⟨⟨⟨⟨⟨⟨⟨rfl, h2⟩, h3⟩, h4⟩, h5⟩, h6⟩, h7⟩, h8⟩ := h
    have u := units_of c
    have tr : backTo pos (starEach [b, f] X.env) = [(false, eval b X.env), (false, eval f X.env)] := by
      rw [star_of h6 [f] X.env, star_of h8 [] X.env]; rfl
    have M : M2 X a "get" apos b f pos := ⟨attr_ok h2 _ _, by rw [tr]; rfl, h3, tr⟩
    refine both_of (pe_imp (pe_dget2 (by omega) (hm X sc W _ c h4).1 (hn X sc W _ c h5).1 (hk X sc W _ c h7).1 M) ?_) rfl
    rintro σ H Q ⟨ω, ρ, st, hl, hs, hp⟩
    unfold ev at hp
    refine ⟨ω, ρ, st, hl, hs, (Post.bind hp).mono fun x st1 ω1 H1 x1 s1 q1 v r1 => ?_⟩
    cases x <;> first | exact q1.elim | skip
    rename_i kvs
    obtain ⟨ln, ad, kws, rfl, ha, wa, rk⟩ := r1
    refine ⟨ad, rfl, .inl ⟨kws, .inl ha⟩, ω1, ρ, st1, hl.ext x1, s1, (Post.bind q1).mono fun y st2 ω2 H2 x2 s2 q2 w r2 => ?_⟩
    refine ⟨ω2, ρ, st2, (hl.ext x1).ext x2, s2, (Post.bind q2).mono fun z st3 ω3 H3 x3 s3 q3 w3 r3 => ?_⟩
    obtain ⟨d, e, q4⟩ := Post.lift q3
    cases y <;> first | (cases e; done) | skip
    rename_i key
    have rw2 : w = .str key := r2.1
    subst rw2
    obtain ⟨ha2, wa2⟩ := x2.kept.dic _ _ ha wa
    obtain ⟨ha3, wa3⟩ := x3.kept.dic _ _ ha2 wa2
    have rk3 := Repk.kept x3.kept _ _ (Repk.kept x2.kept _ _ rk)
    have vv := valV_repk (k := key) rk3
    have e : some ((kvs.lookup key).getD z) = some d := e
    cases q : kvs.lookup key with
    | none =>
      rw [q] at vv e
      cases e
      exact ⟨_, DGet.k (k := .inr key) ha3, by rw [show valV kws (.inr key) = none from vv]; exact q4 ω3 H3 .refl s3 _ r3⟩
    | some d' =>
      rw [q] at vv e
      cases e
      obtain ⟨v', e1, rv⟩ := vv
      exact ⟨_, DGet.k (k := .inr key) ha3, by rw [e1]; exact q4 ω3 H3 .refl s3 _ rv⟩
  · cases h
theorem snd_noE {m : E} (h : ∀ sc e, chkE N G m sc e = false) : SndE N G k C cls dp m := by
  intro X sc W e c h'
  rw [h] at h'
  cases h'
mutual
theorem snd : ∀ m : E, SndE N G k C cls dp m
  | .var i => snd_var i
  | .con d => snd_con d
  | .tup ms => snd_tup (snds ms)
  | .lst ms => snd_lst (snds ms)
  | .dic ks ms => snd_dic (snds ms)
  | .o1 o m => snd_o1 (snd m)
  | .o2 o m n => snd_o2 (snd m) (snd n)
  | .sm o m n => snd_sm (snd m) (snd n)
  | .chain o o' m n l => snd_chain (snd m) (snd n) (snd l)
  | .and ms => snd_andE (snds ms)
  | .or ms => snd_orE (snds ms)
  | .not m => snd_not (snd m)
  | .ife m n l => snd_ife (snd m) (snd n) (snd l)
  | .call f ms => snd_call (snds ms)
  | .sl m lo hi => snd_sl (snd m) (snds lo) (snds hi)
  | .dget m n l => snd_dget (snd m) (snd n) (snd l)
  | .lc elt tg ik ie cond own => snd_lc (snd elt) (snds ie) (snds cond)
  | .inOwn neg m i => snd_inOwn (snd m)
  | .srt m => snd_srt (snd m)
  | .minN m => snd_minN (snd m)
  | .fld c m f => snd_fld (snd m)
  | .meth i c mn m ms => snd_meth (snd m) (snds ms)
  | .make i c ms => snd_make (snds ms)
  | .lm o m n => snd_lm (snd m) (snd n)
  | .pix m n => snd_pix (snd m) (snd n)
  | .pin neg m n => snd_pin (snd m) (snd n)
  | .psort m => snd_psort (snd m)
  | .pitems m => snd_pitems (snd m)
  | .ptup m => snd_ptup (snd m)
  | .dzip m n => snd_dzip (snd m) (snd n)
  | .dmk m => snd_noE fun _ _ => by unfold chkE; rfl
  | .lamc g k => snd_noE fun _ _ => by unfold chkE; rfl
  | .act i => snd_noE fun _ _ => by unfold chkE; rfl
  | .isE i cs ncs => snd_noE fun _ _ => by unfold chkE; rfl
theorem snds : ∀ ms : List E, ∀ m ∈ ms, SndE N G k C cls dp m
  | [], _, h => by cases h
  | m :: ms, m', h => by
    rcases List.mem_cons.mp h with e | h
    · rw [e]; exact snd m
    · exact snds ms m' h
end
end
end TL

namespace TL
open PySem L2 PyProof.Rows

/-- a, b = x, y with plain local names: stored from the right -/
def parOk (sc : Scope) : List Expr → List Expr → Bool
  | [.Name x px, .Name y py], [a, b] => (match sc.kind with | .function => true | _ => false) && lcl false sc x && lcl false sc y && !decide (x = y) && (px.line == py.line) && notStar a && notStar b && !([a, b].all (foldedForSure 8)) && !([a, b].all (constantsAlone 8))
  | _, _ => false
/-- a target that is no plain local name -/
def someCell (sc : Scope) : List Expr → Bool
  | .Name x _ :: es => (match sc.names.lookup x with | some .cell => true | _ => false) || someCell sc es
  | _ => false
def notTuple : Expr → Bool
  | .Tuple .. | .List .. => false
  | _ => true
/-- name = [.. for ..] with a plain local name on one line -/
def swLine (sc : Scope) (x : Str) (p : Pos) (scope : Scope) (pos : Pos) : Bool :=
  (match sc.kind with | .function => true | _ => false) && lcl false sc x && (p.line == pos.line) && !(scope.names.any fun (n, k) => n == x && (k == .local || k == .cell))
/-- constants, and tuples of such -/
def kst (d : TL.D) (e : Expr) : Bool := match e with
  | .Constant c _ _ => conOk d c
  | _ => false
def ksts : List TL.D → List Expr → Bool
  | [], es => es.isEmpty
  | d :: ds, es => match es with
    | e :: es => kst d e && ksts ds es
    | [] => false
def kE (d : TL.D) (e : Expr) : Bool := match e with
  | .Tuple es _ _ => (match d with | .tup ds => ksts ds es && decide (es.length ≤ 1000) | _ => false)
  | e => kst d e
/-- the suite of an except -/
def sui (N : List Str) (sc : Scope) (ret : Bool) (i : Nat) (d : TL.D) : List Stmt → Bool
  | [.Return (some e) _] => ret && kE d e
  | [.Assign [.Name y _] e _] => !ret && decide (N[i]? = some y) && lcl true sc y && kE d e
  | _ => false
/-- new own things against text -/
def chkNew (N : List Str) (G : GT) (w : NK) (ie : List E) (sc : Scope) (ex : Expr) : Bool := match w with
  | .d => ie.isEmpty && (match ex with
    | .Dict [] [] _ => true
    | _ => false)
  | .l => ie.isEmpty && (match ex with
    | .List [] _ => true
    | _ => false)
  | .cnt i ik => match ex with
    | .Call (.Name x _) [.ListComp (.Tuple [.Subscript (.Name r p1) (.Constant (.int 0) j0 p2) p3, .List [.Constant (.int 0) j1 _, .Constant (.int 0) j2 _, .Constant (.int 0) j3 _] _] kk p4) [⟨t, it, [], 0⟩] scope pos] [] _ =>
      decide (x = "dict") && fre G sc x && blkC N sc scope [((N[i]?).getD ("" : Str), i)] && tgOk false N (relS scope sc) [i] (.nm i) t && notSet it && chkE N G (.o2 .ix (.var i) (.con (.int 0))) (relS scope sc) (.Subscript (.Name r p1) (.Constant (.int 0) j0 p2) p3) &&
        (match itArgs G sc ik (.nm i) it with
          | some es => chkEs N G ie sc es
          | none => false)
    | _ => false
mutual
def chkS (N : List Str) (G : GT) : S → Scope → Stmt → Bool
  | .set i m, sc, st => match st with
    | .Assign [.Name x p] v pos => decide (N[i]? = some x) && lcl true sc x && chkE N G m sc v && (match v with
      | .ListComp _ [⟨_, _, _, 0⟩] scope pos' => (match m with | .lc .. => true | _ => false) && (swLine sc x p scope pos' || !lcl false sc x)
      | v => notComp v)
    | _ => false
  | .own i ms, sc, st => match st with
    | .Assign [.Name x p] (.List es _) pos => decide (N[i]? = some x) && lcl true sc x && decide (es.length ≤ 1000) && chkEs N G ms sc es
    | _ => false
  | .ownd i m, sc, st => match st with
    | .Assign [.Name x p] (.Dict [some kx] [.Constant (.bool true) _ _] _) pos => decide (N[i]? = some x) && lcl true sc x && chkE N G m sc kx
    | _ => false
  | .unpack is m, sc, st => match st with
    | .Assign [.Tuple ts kt pt] v pos => tgOk.tgs true N sc is is ts && notComp v && chkE N G m sc v && (match v with
      | .Tuple vs _ _ => (parOk sc ts vs && (match m with | .tup _ => true | _ => false) && decide (ts.length = 2) && decide (is.Nodup)) || someCell sc ts
      | .List .. => false
      | _ => true)
    | _ => false
  | .app i m, sc, st => match st with
    | .Expr (.Call (.Attribute (.Name x p) y apos) [a] [] cpos) pos => decide (N[i]? = some x) && vis sc x && nameOk x && decide (y = "append") && (apos.endLine == cpos.line) && chkE N G m sc a && notStar a
    | _ => false
  | .ext i m, sc, st => match st with
    | .Expr (.Call (.Attribute (.Name x p) y apos) [a] [] cpos) pos => decide (N[i]? = some x) && vis sc x && nameOk x && decide (y = "extend") && (apos.endLine == cpos.line) && chkE N G m sc a && notStar a
    | _ => false
  | .put i m, sc, st => match st with
    | .Assign [.Subscript (.Name x p) kx _] (.Constant (.bool true) _ _) pos => decide (N[i]? = some x) && vis sc x && nameOk x && notSlice kx && chkE N G m sc kx
    | _ => false
  | .freeze _, _, _ => false
  | .expr m, sc, st => match st with
    | .Expr v pos => notComp v && chkE N G m sc v
    | _ => false
  | .ifs c a b, sc, st => match st with
    | .If cx ax bx _ => chkE N G c sc cx && chkSs N G a sc ax && chkSs N G b sc bx
    | _ => false
  | .for tg ik ie body, sc, st => match st with
    | .For t it bx [] _ => tgOk true N sc (match tg with | .nm i => [i] | .tp is => is) tg t && notSet it && chkSs N G body sc bx &&
        (match itArgs G sc ik tg it with
          | some es => chkEs N G ie sc es
          | none => false)
    | _ => false
  | .while c body, sc, st => match st with
    | .While cx bx [] _ => chkE N G c sc cx && chkSs N G body sc bx
    | _ => false
  | .ret m, sc, st => match st with
    | .Return (some v) _ => chkE N G m sc v
    | _ => false
  | .retN, sc, st => match st with
    | .Return none _ => true
    | _ => false
  | .raise c, sc, st => match st with
    | .Raise (some (.Call (.Name x _) [.Constant (.str _) _ _] [] _)) none _ => decide (G.excs[c]? = some x) && glb sc x && nameOk x
    | _ => false
  | .tryS body j cs ncs ret i d, sc, st => match st with
    | .Try bx [.ExceptHandler (some (.Name x _)) none (b₀ :: suite) _] [] [] _ => decide (G.excs[j]? = some x) && glb sc x && nameOk x && (cs.all fun c => decide ((c, j, true) ∈ G.subs)) && (ncs.all fun c => decide ((c, j, false) ∈ G.subs)) && chkSs N G body sc bx && sui N sc ret i d (b₀ :: suite)
    | _ => false
  | .setF c m f v, sc, st => match st with
    | .Assign [.Attribute a f' _] ex _ => decide (f' = f) && notComp ex && (G.cls.any fun ct => decide (ct.name = c) && decide (f ∈ ct.flds)) && chkE N G m sc a && chkE N G v sc ex
    | _ => false
  | .unpackL is m, sc, st => match st with
    | .Assign [.Tuple ts _ _] v pos => tgOk.tgs true N sc is is ts && notTuple v && chkE N G m sc v
    | _ => false
  | .papp m n, sc, st => match st with
    | .Expr (.Call (.Attribute a y apos) [b] [] cpos) pos => decide (y = "append") && attrOk a && (apos.endLine == cpos.line) && chkE N G m sc a && chkE N G n sc b && notStar b
    | _ => false
  | .ppop m n, sc, st => match st with
    | .Expr (.Call (.Attribute a y apos) [b] [] cpos) pos => decide (y = "pop") && attrOk a && (apos.endLine == cpos.line) && chkE N G m sc a && chkE N G n sc b && notStar b
    | _ => false
  | .pput m n l, sc, st => match st with
    | .Assign [.Subscript a b p1] ex pos => notSlice b && notComp ex && notTuple ex && chkE N G m sc a && chkE N G n sc b && chkE N G l sc ex
    | _ => false
  | .plset m n l, sc, st => match st with
    | .Assign [.Subscript a b p1] ex pos => notSlice b && notComp ex && notTuple ex && chkE N G m sc a && chkE N G n sc b && chkE N G l sc ex
    | _ => false
  | .setN c m f w ie, sc, st => match st with
    | .Assign [.Attribute a f' _] ex _ => decide (f' = f) && (G.cls.any fun ct => decide (ct.name = c) && decide (f ∈ ct.flds)) && chkE N G m sc a && chkNew N G w ie sc ex
    | _ => false
  | .tryA _ _ _ _ _ _, _, _ => false
def chkSs (N : List Str) (G : GT) : List S → Scope → List Stmt → Bool
  | [], _, sts => sts.isEmpty
  | .freeze _ :: ms, sc, sts => chkSs N G ms sc sts
  | m :: ms, sc, sts => match sts with
    | st :: sts => chkS N G m sc st && chkSs N G ms sc sts
    | [] => false
end
/-- what is known of the classes of exceptions -/
def ExcF (K : PySem.W.Frag) (mg : Str → Option Value) (cls : Nat → Value) (G : GT) : Prop := ∀ (j : Nat) (x : Str), G.excs[j]? = some x → ∃ (Ca : Addr) (B newId initId : String) (bmB : List Value), cls j = .ref Ca ∧ mg x = some (.ref Ca) ∧ ExcBaseFacts B newId initId bmB ∧ PySem.W.excIn K Ca bmB newId = true ∧ PySem.W.keepIn K (.ref Ca) = true ∧
  PySem.W.subIn K (.ref Ca) (.type "BaseException") = some true ∧ PySem.W.typeIn K (.ref Ca) = some (.type "type")
def ExmF (K : PySem.W.Frag) (cls : Nat → Value) (G : GT) : Prop := ∀ (i j : Nat) (b : Bool), (i, j, b) ∈ G.subs → PySem.W.exmOne K (cls i) (cls j) = some b
/-- a def's own frame -/
structure CokS (X : Cx) (G : GT) (k : Nat) (C : Cal) (cls : Nat → Value) (N : List Str) (sc : Scope) (W : WX) : Prop extends Cok X G k C cls N sc W where
  fn : ∀ x, X.fn x = true
  po : PassesOwn (model X.prog X.w) X.A X.env X.xe
  stk : X.stack = X.env :: X.outer
  frm : X.env.frame = some X.env.locals
  exc : ExcF X.K X.mg cls G
  exm : ExmF X.K cls G

def PostS (K : KW) (dp : Nat) (W : WX) (cls : Nat → Value) (ω : Wd) (H : Hp) (r : Fl) (D : Ends) : Prop := match r with
  | .nx ρ' st' => ∀ ω' σ' H', Ext dp ω H ω' H' → Loc K ω' dp ρ' σ' H' → StoOk K ω' st' H' → D.nx σ' H'
  | .rt d st' => ∀ ω' v H', Ext dp ω H ω' H' → StoOk K ω' st' H' → Rep K ω' H' d v → D.rt v H'
  | .ex c ρ' st' => ∀ ω' σ' H', Ext dp ω H ω' H' → Loc K ω' dp ρ' σ' H' → StoOk K ω' st' H' → W (cls c) none σ' H'
  | .fail => False
def tS (K : KW) (dp : Nat) (W : WX) (cls : Nat → Value) (f : Env → Sto → Fl) : TS := fun D σ H => ∃ ω ρ st, Loc K ω dp ρ σ H ∧ StoOk K ω st H ∧ PostS K dp W cls ω H (f ρ st) D
def SndS (N : List Str) (G : GT) (k : Nat) (C : Cal) (cls : Nat → Value) (dp : Nat) (m : S) : Prop := ∀ (X : Cx) (sc : Scope) (W : WX) (st : Stmt), CokS X G k C cls N sc W → chkS N G m sc st = true → PS X st (tS X.kw dp W cls fun ρ s => exec C m ρ s)
def SndSs (N : List Str) (G : GT) (k : Nat) (C : Cal) (cls : Nat → Value) (dp : Nat) (ms : List S) : Prop := ∀ (X : Cx) (sc : Scope) (W : WX) (sts : List Stmt), CokS X G k C cls N sc W → chkSs N G ms sc sts = true → PSs X sts (tS X.kw dp W cls fun ρ s => execs C ms ρ s)
section
variable {X : Cx} {N : List Str} {G : GT} {k : Nat} {C : Cal} {cls : Nat → Value} {dp : Nat} {sc : Scope} {W : WX} {e : Expr} {es : List Expr} {m n l a b : E} {ms : List E}
variable {K : KW} {ω ω' ω'' : Wd} {H H' H'' : Hp} {D : Ends} {ρ : Env} {σ : L2.St} {st : Sto}
theorem ps_imp {s : Stmt} {t t' : TS} (h : PS X s t) (i : ∀ D σ H, t' D σ H → t D σ H) : PS X s t' := ⟨fun pins s σ H D I q => h.run pins s σ H D I (i D σ H q)⟩
theorem pss_imp {s : List Stmt} {t t' : TS} (h : PSs X s t) (i : ∀ D σ H, t' D σ H → t D σ H) : PSs X s t' := ⟨fun pins s σ H D I q => h.run pins s σ H D I (i D σ H q)⟩
theorem PostS.at {r : Fl} (h : PostS K dp W cls ω H r D) (x : Ext dp ω H ω' H') : PostS K dp W cls ω' H' r D := by
  cases r with
  | nx ρ' st' => exact fun ω2 σ2 H2 x2 l2 s2 => h ω2 σ2 H2 (x.trans x2) l2 s2
  | rt d st' => exact fun ω2 v H2 x2 s2 r2 => h ω2 v H2 (x.trans x2) s2 r2
  | ex c ρ' st' => exact fun ω2 σ2 H2 x2 l2 s2 => h ω2 σ2 H2 (x.trans x2) l2 s2
  | fail => exact h
theorem PostS.mono {r : Fl} {D' : Ends} (h : PostS K dp W cls ω H r D) (h1 : ∀ σ H, D.nx σ H → D'.nx σ H) (h2 : ∀ v H, D.rt v H → D'.rt v H) : PostS K dp W cls ω H r D' := by
  cases r with
  | nx ρ' st' => exact fun ω2 σ2 H2 x2 l2 s2 => h1 _ _ (h ω2 σ2 H2 x2 l2 s2)
  | rt d st' => exact fun ω2 v H2 x2 s2 r2 => h2 _ _ (h ω2 v H2 x2 s2 r2)
  | ex c ρ' st' => exact h
  | fail => exact h
/-- an expression, then the rest -/
theorem PostS.of {r : R TL.D} {f : TL.D → Sto → Fl} (hl : Loc K ω dp ρ σ H) (h : PostS K dp W cls ω H (Fl.of ρ r f) D) :
    Post K dp W cls σ ω H r fun d st1 ω1 H1 => PostS K dp W cls ω1 H1 (f d st1) D := by
  cases r with
  | ok d st1 => exact fun ω1 H1 x1 s1 => PostS.at h (x1.mono (Nat.le_succ _))
  | exc c st1 => exact fun ω1 H1 x1 s1 => h ω1 σ H1 (x1.mono (Nat.le_succ _)) (hl.ext x1) s1
  | fail => exact h
theorem PostS.ofs {r : R (List TL.D)} {f : List TL.D → Sto → Fl} (hl : Loc K ω dp ρ σ H) (h : PostS K dp W cls ω H (Fl.ofs ρ r f) D) :
    Post K dp W cls σ ω H r fun d st1 ω1 H1 => PostS K dp W cls ω1 H1 (f d st1) D := by
  cases r with
  | ok d st1 => exact fun ω1 H1 x1 s1 => PostS.at h (x1.mono (Nat.le_succ _))
  | exc c st1 => exact fun ω1 H1 x1 s1 => h ω1 σ H1 (x1.mono (Nat.le_succ _)) (hl.ext x1) s1
  | fail => exact h
/-- one statement, then the rest -/
theorem PostS.seq {r : Fl} {f : Env → Sto → Fl} (h : PostS K dp W cls ω H (r.seq f) D) : PostS K dp W cls ω H r { D with nx := fun σ H => tS K dp W cls f D σ H } := by
  cases r with
  | nx ρ' st' => exact fun ω2 σ2 H2 x2 l2 s2 => ⟨ω2, ρ', st', l2, s2, PostS.at h x2⟩
  | rt d st' => exact h
  | ex c ρ' st' => exact h
  | fail => exact h

theorem snd_ret : SndS N G k C cls dp (.ret m) := by
  intro X sc W st c h
  unfold chkS at h
  split at h
  · refine ps_imp (ps_ret (snd (dp := dp) m X sc W _ c.toCok h).1) ?_
    rintro D σ H ⟨ω, ρ, st, hl, hs, hp⟩
    unfold exec at hp
    refine ⟨ω, ρ, st, hl, hs, (PostS.of hl hp).mono fun d st1 ω1 H1 x1 s1 q1 v r1 => ?_⟩
    split at q1
    · exact q1.elim
    · exact q1 ω1 v H1 .refl s1 r1
  · cases h
theorem snd_retN : SndS N G k C cls dp .retN := by
  intro X sc W st c h
  unfold chkS at h
  split at h
  · refine ps_imp ps_retN ?_
    rintro D σ H ⟨ω, ρ, st, hl, hs, hp⟩
    unfold exec at hp
    exact hp ω _ H .refl hs rfl
  · cases h
theorem snd_expr : SndS N G k C cls dp (.expr m) := by
  intro X sc W st c h
  unfold chkS at h
  split at h
  · simp only [Bool.and_eq_true] at h
    refine ps_imp (ps_expr (snd (dp := dp) m X sc W _ c.toCok h.2).1 (swap_ok h.1 _ _ _)) ?_
    rintro D σ H ⟨ω, ρ, st, hl, hs, hp⟩
    unfold exec at hp
    refine ⟨ω, ρ, st, hl, hs, (PostS.of hl hp).mono fun d st1 ω1 H1 x1 s1 q1 v r1 => ?_⟩
    exact q1 ω1 σ H1 .refl (hl.ext x1) s1
  · cases h
theorem set_post {σ : L2.St} {i : Nat} (h : tS K dp W cls (fun ρ s => exec C (.set i m) ρ s) D σ H) : tAsg (tE K C dp W cls m) (gName i) D σ H := by
  obtain ⟨ω, ρ, st, hl, hs, hp⟩ := h
  unfold exec at hp
  refine ⟨ω, ρ, st, hl, hs, (PostS.of hl hp).mono fun d st1 ω1 H1 x1 s1 q1 v r1 => ?_⟩
  split at q1
  · exact q1.elim
  · exact q1 ω1 _ H1 .refl ((hl.ext x1).set (OwnR.of r1)) s1
theorem sw_false {x : Str} {p : Pos} {elt : Expr} {gs : List Comprehension} {scope : Scope} {pos : Pos} {ln : Nat} (hsc : X.env.scope = sc) (h : lcl false sc x = false) : swapsWith (.ListComp elt gs scope pos) (some (.Name x p)) ln X.env = pure false := by
  have q : (X.env.kindOf x == some .local) = false := by
    unfold Env.kindOf
    rw [hsc]
    unfold lcl at h
    revert h
    cases sc.names.lookup x with
    | none => intro _; rfl
    | some q => cases q <;> first | (intro h; cases h; done) | (intro _; rfl)
  unfold swapsWith
  show (pure _ : Sem Bool) = _
  simp only [q, Bool.and_false, Bool.false_and]
theorem snd_set {i : Nat} : SndS N G k C cls dp (.set i m) := by
  intro X sc W st c h
  unfold chkS at h
  split at h
  · rename_i x p v pos
    simp only [Bool.and_eq_true, decide_eq_true_eq] at h
    obtain ⟨⟨⟨h1, h2⟩, h3⟩, h4⟩ := h
    obtain ⟨q1, q2⟩ := lcl_of (X := X) c.hsc (fun _ => c.fn) h2
    have hN : X.N.Nodup := by rw [c.hN]; exact c.nd
    have hi : X.N[i]? = some x := by rw [c.hN]; exact h1
    split at h4
    · rename_i elt t it ifs scope pos'
      simp only [Bool.and_eq_true, Bool.or_eq_true, Bool.not_eq_true'] at h4
      obtain ⟨h5, h6⟩ := h4
      rcases h6 with h6 | h6
      · cases m <;> first | (cases h5; done) | skip
        rename_i elt' tg ik ie cond own
        obtain ⟨ownN, wi, g, tt, te, A, B, D, E, F, I, J⟩ := snd_lc_core (dp := dp) (snd elt') (snds ie) (snds cond) c.toCok h3
        unfold swLine at h6
        simp only [Bool.and_eq_true, Bool.not_eq_true'] at h6
        obtain ⟨⟨⟨k1, k2⟩, k3⟩, k4⟩ := h6
        have hl : X.env.scope.names.lookup x = some .local := by
          rw [c.hsc]
          unfold lcl at k2
          revert k2
          cases sc.names.lookup x with
          | none => intro h; cases h
          | some q => cases q <;> first | (intro _; rfl) | (intro h; cases h)
        have hk : X.env.scope.kind = .function := by
          rw [c.hsc]
          revert k1
          cases sc.kind <;> first | (intro _; rfl) | (intro h; cases h)
        refine ps_imp (ps_setLc (i := i) c.calm hN hi hl (sw_true hk hl k3 k4) A B D E F I) ?_
        rintro D σ H q
        exact J σ H _ (set_post q)
      · exact ps_imp (ps_set (i := i) hN hi q1 (snd (dp := dp) m X sc W _ c.toCok h3).1 (sw_false c.hsc h6) q2) fun D σ H q => set_post q
    · exact ps_imp (ps_set (i := i) hN hi q1 (snd (dp := dp) m X sc W _ c.toCok h3).1 (swap_ok h4 _ _ _) q2) fun D σ H q => set_post q
  · cases h
theorem snd_own {i : Nat} : SndS N G k C cls dp (.own i ms) := by
  intro X sc W st c h
  unfold chkS at h
  split at h
  · rename_i x p es p2 pos
    simp only [Bool.and_eq_true, decide_eq_true_eq] at h
    obtain ⟨⟨⟨h1, h2⟩, h3⟩, h4⟩ := h
    obtain ⟨q1, q2⟩ := lcl_of (X := X) c.hsc (fun _ => c.fn) h2
    have hN : X.N.Nodup := by rw [c.hN]; exact c.nd
    have hi : X.N[i]? = some x := by rw [c.hN]; exact h1
    obtain ⟨A, B⟩ := snd_es (dp := dp) (snds ms) X sc W es c.toCok h4
    have ln := chkEs_length h4
    refine ps_imp (ps_set (i := i) hN hi q1 (pe_lst A) (swap_ok rfl _ _ _) q2) ?_
    rintro D σ H ⟨ω, ρ, st, hl, hs, hp⟩
    unfold exec at hp
    refine ⟨ω, ρ, st, hl, hs, (PostS.ofs hl hp).len.mono fun ds st1 ω1 H1 x1 s1 ⟨l1, q1⟩ vs r1 => ⟨?_, fun a ha => ?_⟩⟩
    · rw [r1.length, l1, ← ln]
      exact le_line h3
    · have xp : Ext (dp + 1) ω1 H1 (ω1.put a (.slot dp i, [])) (upd H1 a (.lst vs)) := .put s1.trk ha
      refine q1 (ω1.put a (.slot dp i, [])) _ _ (xp.mono (Nat.le_succ _)) (((hl.ext x1).ext xp).set ?_) (s1.put ha)
      exact ⟨a, vs, rfl, upd_same, Wd.put_same, r1.ext xp⟩
  · cases h

end
open AutoSeq1 in
theorem extend_list_tup (l : Addr) (items : Array Value) (n : Nat) (b : Addr) (items2 : Array Value) (n2 : Nat) (dd2 : Option Addr) (sl2 : Array (Option Value)) (hs0 : ¬(!items.isEmpty && Builtin.List.listTooLong (items.size + items2.size)) = true) (hs1 : items.size ≤ sizeLine) (hs2 : items.size + items2.size ≤ sizeLine + 1) :
    Meets (Builtin.«list.extend» ⟨[.ref l, .ref b], []⟩) (fun _ R s => s.heap.get? l = some { cls := .type "list", dict := none, data := .seq items n, slots := #[] } ∧ s.heap.get? b = some { cls := .type "tuple", dict := dd2, data := .seq items2 n2, slots := sl2 } ∧ R (.ok (.ret Value.none)) { s with heap := s.heap.update l (Obj.mapSeq fun x => x ++ items2), toks := s.toks }) :=
  .of_wp fun prog w A R s h => by
    obtain ⟨hp, g, d, tk, os⟩ := s; obtain ⟨hl, hb, h⟩ := h; have f1 := idx_int; have f2 := AutoSeq1.sub_tuple_tuple; have f3 := AutoSeq1.sub_list_list; have f4 := AutoSeq1.sub_tuple_list; have f5 := AutoSeq1.sub_list_tuple;
    have hz' : (items ++ items2).size ≤ sizeLine + 1 := by rw [Array.size_append]; exact hs2
    wp_walk using (wpAny_updateSeq hl rfl (hz := hs1) (_hz' := hz')), wpAny_loadPart' hl, wpAny_loadPart' hb; exact ⟨_, rfl, h⟩
section
variable {X : Cx} {N : List Str} {G : GT} {k : Nat} {C : Cal} {cls : Nat → Value} {dp : Nat} {sc : Scope} {W : WX} {e : Expr} {es : List Expr} {m n l a b : E} {ms : List E}
variable {K : KW} {ω ω' ω'' : Wd} {H H' H'' : Hp} {D : Ends} {ρ : Env} {σ : L2.St} {st : Sto}
theorem Ext.write {d i : Nat} {p : List Str} {a : Addr} {o : HO} {xs : List V} (w : ω.wr a = some (.slot d i, p)) (h : H a = some (.lst xs)) : Ext d ω H ω (upd H a o) where
  kept := .write w h
  fix := fun b k j q e hk => by
    have ne : b ≠ a := fun z => by
      rw [z, w] at e
      cases e
      exact absurd hk (Nat.lt_irrefl _)
    exact ⟨rfl, upd_ne ne⟩
theorem Loc.write {i : Nat} {a : Addr} {vs xs : List V} {ds : List TL.D} (hl : Loc K ω dp ρ σ H) (hs : σ[i]? = some (some (.ref a))) (w : ω.wr a = some (.slot dp i, [])) (h : H a = some (.lst xs)) (r : Reps K ω H ds vs) :
    Loc K ω dp (ρ.set i (some (.mlst ds))) σ (upd H a (.lst vs)) :=
  ⟨by rw [List.length_set]; exact hl.len, fun j d e => by
    have kw : Kept ω H ω (upd H a (.lst vs)) := .write w h
    by_cases hj : j = i
    · subst hj
      by_cases hlt : j < ρ.length
      · rw [List.getElem?_set_self hlt] at e
        cases e
        exact ⟨_, hs, a, vs, rfl, upd_same, w, Reps.kept kw _ _ r⟩
      · rw [List.getElem?_eq_none (by rw [List.length_set]; omega)] at e
        cases e
    · rw [List.getElem?_set_ne (Ne.symm hj)] at e
      obtain ⟨v', e', r'⟩ := hl.at_ j d e
      refine ⟨v', e', ?_⟩
      cases d with
      | mlst ds' =>
        obtain ⟨a', vs', e1, h1, w1, r1⟩ := r'
        have ne : a' ≠ a := fun z => by
          rw [z, w] at w1
          cases w1
          exact hj rfl
        exact ⟨a', vs', e1, by rw [upd_ne ne]; exact h1, w1, Reps.kept kw _ _ r1⟩
      | mset ds' =>
        obtain ⟨a', vs', e1, h1, w1, r1⟩ := r'
        have ne : a' ≠ a := fun z => by
          rw [z, w] at w1
          cases w1
          exact hj rfl
        exact ⟨a', vs', e1, by rw [upd_ne ne]; exact h1, w1, KeysR.kept kw r1⟩
      | _ => first | exact Rep.kept kw _ _ r' | exact r'.elim⟩
theorem few_of {a : Expr} {cpos : Pos} (h : notStar a = true) : ((backTo cpos (starEach [a] X.env)).all (fun x => !x.1) && (backToKw cpos (keywordEach [] X.env)).all (fun x => x.1.isSome)
      && decide (([a] : List Expr).length + ([] : List Keyword).length + (if ([] : List Keyword).isEmpty then 0 else 1) < 30)) = true := by
  rw [star_of h [] X.env]; rfl
theorem snd_app {i : Nat} : SndS N G k C cls dp (.app i m) := by
  intro X sc W st c h
  unfold chkS at h
  split at h
  · rename_i x p y apos a cpos pos
    simp only [Bool.and_eq_true, decide_eq_true_eq] at h
    obtain ⟨⟨⟨⟨⟨⟨h1, h2⟩, h3⟩, rfl⟩, h5⟩, h6⟩, h7⟩ := h
    have nm := nameOk_of h3
    have B : PE X (.Name x p) (tVar i) := pe_var (X := X) (i := i) (by rw [c.hN]; exact h1) (vis_of c.hsc h2) nm.d nm.c
    have P : PA X [a] (tCons (tE X.kw C dp W cls m) tNil) := pa_cons (snd (dp := dp) m X sc W _ c.toCok h6).1 pa_nil (star_of h7 [] X.env)
    refine ps_imp (ps_expr (pe_bm PySem.F.plainAttrs_list PySem.F.slot_list_append PySem.F.type_list_append mt_append B P (attr_ok rfl _ _) (few_of h7) h5 (star_of h7 [] X.env) rfl) (swap_ok rfl _ _ _)) ?_
    rintro D σ H ⟨ω, ρ, st, hl, hs, hp⟩
    unfold exec at hp
    dsimp only at hp
    split at hp
    · rename_i ds hd
      obtain ⟨v, e1, ad, vs, rfl, h2, w2, r2⟩ := hl.at_ i _ hd
      refine ⟨_, e1, .inl ⟨rfl, _, SqL.of h2⟩, ω, ρ, st, hl, hs, (PostS.of hl hp).mono fun d st1 ω1 H1 x1 s1 q1 w r1 => ?_⟩
      obtain ⟨f1, f2⟩ := x1.fix ad dp i [] w2 (Nat.lt_succ_self _)
      have h3 : H1 ad = some (.lst vs) := f2.trans h2
      have w3 := f1.trans w2
      have r3 := r2.ext x1
      split at q1
      · exact q1.elim
      · split at q1
        · rename_i hlen
          refine ⟨ad, vs, w, rfl, rfl, h3, by rw [r3.length]; exact hlen, ?_⟩
          exact q1 ω1 σ _ (.write w3 h3) ((hl.ext x1).write e1 w3 h3 (r3.append ⟨w, [], rfl, r1, rfl⟩)) (s1.write w3 (.write w3 h3))
        · exact q1.elim
    · exact hp.elim
  · cases h
theorem mt_extendT : MtR X "list.extend" (fun x vs H Q => ∃ l b xs zs, x = .ref l ∧ vs = [.ref b] ∧ H l = some (.lst xs) ∧ SqT X.kw H b zs ∧ xs.length + zs.length ≤ sizeLine ∧ Q .non (upd H l (.lst (xs ++ zs)))) := by
  intro pins s σ H x vs v us Q I rx rv h
  obtain ⟨l, b, xs, zs, rfl, rfl, hH, hB, hz, q⟩ := h
  cases rx
  obtain ⟨u, rfl, ru⟩ := rv.one
  cases ru
  obtain ⟨z, its, n, r, hl, e⟩ := I.lstM hH
  obtain ⟨its2, r2, ⟨⟨cls2, dd2, dt2, sl2⟩, e2, c2, n2, d2⟩, hl2⟩ := I.tuple hB
  simp only at c2 d2
  subst c2 d2
  have le2 := r2.length
  have hsz : its.toArray.size + its2.toArray.size ≤ sizeLine := by rw [List.size_toArray, List.size_toArray]; omega
  have hlong : ¬ (!its.toArray.isEmpty && Builtin.List.listTooLong (its.toArray.size + its2.toArray.size)) = true := by
    rw [L2.notLongL hsz, Bool.and_false]
    exact Bool.false_ne_true
  refine call_meets F.slot_list_extend ⟨_, e, rfl⟩ F.entry_list_extend (F.args_list_extend_2 _ _)
    (extend_list_tup l its.toArray n b its2.toArray n2 dd2 sl2 hlong (by rw [List.size_toArray]; omega) (by omega)) ⟨e, e2, ?_⟩
  refine ⟨.non, _, I.lset (its' := its ++ its2) hH e (by simp) (r.append r2) ?_, rfl, q⟩
  rw [List.length_append]
  omega
theorem snd_ext {i : Nat} : SndS N G k C cls dp (.ext i m) := by
  intro X sc W st c h
  unfold chkS at h
  split at h
  · rename_i x p y apos a cpos pos
    simp only [Bool.and_eq_true, decide_eq_true_eq] at h
    obtain ⟨⟨⟨⟨⟨⟨h1, h2⟩, h3⟩, rfl⟩, h5⟩, h6⟩, h7⟩ := h
    have nm := nameOk_of h3
    have B : PE X (.Name x p) (tVar i) := pe_var (X := X) (i := i) (by rw [c.hN]; exact h1) (vis_of c.hsc h2) nm.d nm.c
    have P : PA X [a] (tCons (tE X.kw C dp W cls m) tNil) := pa_cons (snd (dp := dp) m X sc W _ c.toCok h6).1 pa_nil (star_of h7 [] X.env)
    refine ps_imp (ps_expr (pe_bm PySem.F.plainAttrs_list PySem.F.slot_list_extend PySem.F.type_list_extend (MtR.or mt_extend mt_extendT) B P (attr_ok rfl _ _) (few_of h7) h5 (star_of h7 [] X.env) rfl) (swap_ok rfl _ _ _)) ?_
    rintro D σ H ⟨ω, ρ, st, hl, hs, hp⟩
    unfold exec at hp
    dsimp only at hp
    split at hp
    · rename_i ds hd
      obtain ⟨v, e1, ad, vs, rfl, h2, w2, r2⟩ := hl.at_ i _ hd
      refine ⟨_, e1, .inl ⟨rfl, _, SqL.of h2⟩, ω, ρ, st, hl, hs, (PostS.of hl hp).mono fun d st1 ω1 H1 x1 s1 q1 w r1 => ?_⟩
      obtain ⟨f1, f2⟩ := x1.fix ad dp i [] w2 (Nat.lt_succ_self _)
      have h3 : H1 ad = some (.lst vs) := f2.trans h2
      have w3 := f1.trans w2
      have r3 := r2.ext x1
      split at q1
      · split at q1
        · rename_i hlen
          obtain ⟨_, a2, ws, rfl, h4, w4, r4⟩ := r1
          refine .inl ⟨ad, a2, vs, ws, rfl, rfl, h3, h4, by rw [r3.length, r4.length]; exact hlen, ?_⟩
          exact q1 ω1 σ _ (.write w3 h3) ((hl.ext x1).write e1 w3 h3 (r3.append r4)) (s1.write w3 (.write w3 h3))
        · exact q1.elim
      · split at q1
        · rename_i hlen
          obtain ⟨_, a2, ws, rfl, h4, r4⟩ := r1
          refine .inr ⟨ad, a2, vs, ws, rfl, rfl, h3, h4, by rw [r3.length, r4.length]; exact hlen, ?_⟩
          exact q1 ω1 σ _ (.write w3 h3) ((hl.ext x1).write e1 w3 h3 (r3.append r4)) (s1.write w3 (.write w3 h3))
        · exact q1.elim
      · exact q1.elim
    · exact hp.elim
  · cases h
theorem Kept.writeM {a : Addr} {w₀ : World} {xs : List (NestedKey × Addr)} {t : Root × List Str} {o : HO} (w : ω.wr a = some t) (h : H a = some (msetO w₀ a xs)) : Kept ω H ω (upd H a o) where
  mu := List.prefix_refl _
  cell := fun _ _ _ e => e
  tup := fun b ys e => by
    have ne : b ≠ a := fun z => by rw [z, h] at e; cases e
    rw [upd_ne ne]; exact e
  frz := fun b o u e => by
    have ne : b ≠ a := fun z => by rw [z, h] at e; cases e
    rw [upd_ne ne]; exact e
  lst := fun b ys e w' => by
    have ne : b ≠ a := fun z => by rw [z, w] at w'; cases w'
    rw [upd_ne ne]; exact ⟨e, w'⟩
  dic := fun b ys e w' => by
    have ne : b ≠ a := fun z => by rw [z, w] at w'; cases w'
    rw [upd_ne ne]; exact ⟨e, w'⟩
theorem Ext.writeM {d i : Nat} {p : List Str} {a : Addr} {o : HO} {w₀ : World} {xs : List (NestedKey × Addr)} (w : ω.wr a = some (.slot d i, p)) (h : H a = some (msetO w₀ a xs)) : Ext d ω H ω (upd H a o) where
  kept := .writeM w h
  fix := fun b k j q e hk => by
    have ne : b ≠ a := fun z => by
      rw [z, w] at e
      cases e
      exact absurd hk (Nat.lt_irrefl _)
    exact ⟨rfl, upd_ne ne⟩
theorem Loc.writeM {i : Nat} {a : Addr} {xs ys : List (NestedKey × Addr)} {ds : List TL.D} (hl : Loc K ω dp ρ σ H) (hs : σ[i]? = some (some (.ref a))) (w : ω.wr a = some (.slot dp i, [])) (h : H a = some (msetO K.w a xs)) (r : KeysR K ω H ds ys) :
    Loc K ω dp (ρ.set i (some (.mset ds))) σ (upd H a (msetO K.w a ys)) :=
  ⟨by rw [List.length_set]; exact hl.len, fun j d e => by
    have kw : Kept ω H ω (upd H a (msetO K.w a ys)) := .writeM w h
    by_cases hj : j = i
    · subst hj
      by_cases hlt : j < ρ.length
      · rw [List.getElem?_set_self hlt] at e
        cases e
        exact ⟨_, hs, a, ys, rfl, upd_same, w, r.kept kw⟩
      · rw [List.getElem?_eq_none (by rw [List.length_set]; omega)] at e
        cases e
    · rw [List.getElem?_set_ne (Ne.symm hj)] at e
      obtain ⟨v', e', r'⟩ := hl.at_ j d e
      refine ⟨v', e', ?_⟩
      cases d with
      | mlst ds' =>
        obtain ⟨a', vs', e1, h1, w1, r1⟩ := r'
        have ne : a' ≠ a := fun z => by
          rw [z, w] at w1
          cases w1
          exact hj rfl
        exact ⟨a', vs', e1, by rw [upd_ne ne]; exact h1, w1, Reps.kept kw _ _ r1⟩
      | mset ds' =>
        obtain ⟨a', vs', e1, h1, w1, r1⟩ := r'
        have ne : a' ≠ a := fun z => by
          rw [z, w] at w1
          cases w1
          exact hj rfl
        exact ⟨a', vs', e1, by rw [upd_ne ne]; exact h1, w1, KeysR.kept kw r1⟩
      | _ => first | exact Rep.kept kw _ _ r' | exact r'.elim⟩
theorem keysR_app {d : TL.D} {b : Addr} (i : isKey d = true) (h : Rep K ω H d (.ref b)) : ∀ {ds : List TL.D} {xs : List (NestedKey × Addr)}, KeysR K ω H ds xs → KeysR K ω H (ds ++ [d]) (xs ++ [(nk d, b)])
  | [], xs, r => by
    rw [show xs = [] from r]
    exact ⟨b, [], rfl, i, h, rfl⟩
  | e :: ds, xs, r => by
    obtain ⟨b', r', rfl, i', h1, h2⟩ := r
    exact ⟨b', r' ++ [(nk d, b)], rfl, i', h1, keysR_app i h h2⟩
theorem rep_key {d : TL.D} {v : V} (hk : isKey d = true) (r : Rep K ω H d v) : ∃ b, v = .ref b := by
  obtain ⟨ts, rfl⟩ := isKey_tup hk
  obtain ⟨l1, b, vs, rfl, q0⟩ := r
  exact ⟨b, rfl⟩
theorem snd_ownd {i : Nat} : SndS N G k C cls dp (.ownd i m) := by
  intro X sc W st c h
  unfold chkS at h
  split at h
  · rename_i x p kx j p2 p3 pos
    simp only [Bool.and_eq_true, decide_eq_true_eq] at h
    obtain ⟨⟨h1, h2⟩, h3⟩ := h
    obtain ⟨q1, q2⟩ := lcl_of (X := X) c.hsc (fun _ => c.fn) h2
    have hN : X.N.Nodup := by rw [c.hN]; exact c.nd
    have hi : X.N[i]? = some x := by rw [c.hN]; exact h1
    have u := units_of c.toCok
    refine ps_imp (ps_set (i := i) hN hi q1 (pe_dispM u (snd (dp := dp) m X sc W _ c.toCok h3).1) (swap_ok rfl _ _ _) q2) ?_
    rintro D σ H ⟨ω, ρ, st, hl, hs, hp⟩ a ha
    unfold exec at hp
    have x0 : Ext (dp + 1) ω H (ω.put a (.slot dp i, [])) (upd H a (msetO X.w a [])) := .put hs.trk ha
    refine ⟨_, ρ, st, hl.ext x0, hs.put ha, ((PostS.of hl hp).ext x0).mono fun d st1 ω1 H1 x1 s1 q1 v r1 => ?_⟩
    split at q1
    · rename_i hk
      obtain ⟨b, rfl⟩ := rep_key hk r1
      have fx := x1.fix a dp i [] Wd.put_same (Nat.lt_succ_self _)
      have w1 := fx.1.trans Wd.put_same
      have h1p : H1 a = some (msetO X.w a []) := fx.2.trans upd_same
      have x2 := x0.trans x1
      refine ⟨ω1, d, b, rfl, r1, hk, h1p, ?_⟩
      have x3 : Ext dp ω1 H1 ω1 (upd H1 a (msetO X.w a [(nk d, b)])) := .writeM w1 h1p
      refine q1 ω1 _ _ x3 ?_ (s1.write w1 (.writeM w1 h1p))
      have hl2 : Loc X.kw ω1 dp ρ σ H1 := hl.ext x2
      have hl3 : Loc X.kw ω1 dp ρ σ (upd H1 a (msetO X.w a [(nk d, b)])) := ⟨hl2.len, fun j d' e => by
        obtain ⟨v', e', r'⟩ := hl.at_ j d' e
        have kw : Kept ω1 H1 ω1 (upd H1 a (msetO X.w a [(nk d, b)])) := .writeM w1 h1p
        refine ⟨v', e', ?_⟩
        have nea : ∀ b', H b' ≠ none → b' ≠ a := fun b' z e => z (by rw [e]; exact ha)
        cases d' with
        | mlst ds' =>
          obtain ⟨a', vs', e1, g1, g2, g3⟩ := r'
          have ne := nea a' (by rw [g1]; simp)
          obtain ⟨f1, f2⟩ := x2.fix a' dp j [] g2 (Nat.lt_succ_self _)
          exact ⟨a', vs', e1, by rw [upd_ne ne]; exact f2.trans g1, f1.trans g2, Reps.kept kw _ _ (g3.ext x2)⟩
        | mset ds' =>
          obtain ⟨a', vs', e1, g1, g2, g3⟩ := r'
          have ne := nea a' (by rw [g1]; simp)
          obtain ⟨f1, f2⟩ := x2.fix a' dp j [] g2 (Nat.lt_succ_self _)
          exact ⟨a', vs', e1, by rw [upd_ne ne]; exact f2.trans g1, f1.trans g2, KeysR.kept kw (g3.kept x2.kept)⟩
        | _ => first | exact Rep.kept kw _ _ (Rep.ext x2 r') | exact r'.elim⟩
      exact hl3.set ⟨a, [(nk d, b)], rfl, upd_same, w1, b, [], rfl, hk, Rep.kept (.writeM w1 h1p) _ _ r1, rfl⟩
    · exact q1.elim
  · cases h
end
end TL

namespace TL
open PySem L2 PyProof.Rows
section
variable {X : Cx} {N : List Str} {G : GT} {k : Nat} {C : Cal} {cls : Nat → Value} {dp : Nat} {sc : Scope} {W : WX} {e : Expr} {es : List Expr} {m n l a b : E} {ms : List E}
variable {K : KW} {ω ω' ω'' : Wd} {H H' H'' : Hp} {D : Ends} {ρ : Env} {σ : L2.St} {st : Sto}
theorem lcl_local {x : Str} (hsc : X.env.scope = sc) (h : lcl false sc x = true) : X.env.kindOf x = some .local := by
  unfold Env.kindOf
  rw [hsc]
  unfold lcl at h
  revert h
  cases sc.names.lookup x with
  | none => intro h; cases h
  | some q => cases q <;> first | (intro _; rfl) | (intro h; cases h)
theorem par_of {ts vs : List Expr} {kt k2 : Nat} {pt p2 : Pos} (hsc : X.env.scope = sc) (h : parOk sc ts vs = true) : ∃ x px y py a b, ts = [.Name x px, .Name y py] ∧ vs = [a, b] ∧ X.env.scope.names.lookup x = some .local ∧ X.env.scope.names.lookup y = some .local ∧
    swappedStores [.Tuple ts kt pt] (.Tuple vs k2 p2) X.env = pure (some [x, y]) ∧ x ≠ y := by
  unfold parOk at h
  split at h
  · rename_i x px y py a b
    simp only [Bool.and_eq_true, Bool.not_eq_true', decide_eq_false_iff_not] at h
    obtain ⟨⟨⟨⟨⟨⟨⟨⟨h1, h2⟩, h3⟩, h4⟩, h5⟩, h6⟩, h7⟩, h8⟩, h9⟩ := h
    have k1 := lcl_local hsc h2
    have k2' := lcl_local hsc h3
    have hk : X.env.scope.kind = .function := by
      rw [hsc]
      revert h1
      cases sc.kind <;> first | (intro _; rfl) | (intro h; cases h)
    have hb : X.env.blockKind = .function := by unfold Env.blockKind; rw [hk]; rfl
    have e5 : px.line = py.line := by simpa using h5
    refine ⟨x, px, y, py, a, b, rfl, rfl, k1, k2', ?_, h4⟩
    unfold swappedStores
    have ha : ([a, b].any fun | .Starred .. => true | _ => false) = false := by
      rw [List.any_cons, List.any_cons, List.any_nil]
      cases a <;> cases b <;> first | rfl | (simp [notStar] at h6; done) | (simp [notStar] at h7; done)
    have hne : ¬ y = x := fun z => h4 z.symm
    have q1 : (y == x) = false := by simpa using hne
    have ed : ([x, y] : List Str).eraseDups = [x, y] := by
      simp [List.eraseDups, List.eraseDupsBy, List.eraseDupsBy.loop, q1]
    have fm : (([.Name x px, .Name y py] : List Expr).filterMap fun
        | .Name id pos => if X.env.kindOf id == some .local && pos.line == ((([.Name x px, .Name y py] : List Expr).head?.map (·.pos.line)).getD 0) then some id else none
        | _ => none) = [x, y] := by
      simp [k1, k2', e5, Expr.pos]
    have hb' : (X.env.blockKind != ScopeKind.function) = false := by rw [hb]; rfl
    have key : ∀ names : List Str, names = [x, y] → ¬ ((names.length != 2 || names.eraseDups.length != names.length) = true) := by
      rintro _ rfl
      rw [ed]
      simp
    first | unfold swappedStores | skip
    refine (if_neg ?_).trans ((if_neg ?_).trans ((if_neg ?_).trans ((if_neg ?_).trans ((if_neg ?_).trans ?_))))
    · rw [hb']
      simp
    · rw [Bool.not_eq_true]
      exact ha
    · exact key _ fm
    · rw [h8]
      simp
    · rw [h9]
      simp
    · exact congrArg (fun z => (pure (some z) : Sem (Option (List Str)))) fm
  · cases h
theorem cell_none {ts vs : List Expr} {kt k2 : Nat} {pt p2 : Pos} (hsc : X.env.scope = sc) (h : someCell sc ts = true) : swappedStores [.Tuple ts kt pt] (.Tuple vs k2 p2) X.env = pure none := by
  have key : ∀ (ts : List Expr) (ln : Nat), someCell sc ts = true → ((ts.filterMap fun
        | .Name id pos => if X.env.kindOf id == some .local && pos.line == ln then some id else none
        | _ => none).length != ts.length) = true := by
    intro ts ln h
    have le : ∀ ts : List Expr, (ts.filterMap fun
        | .Name id pos => if X.env.kindOf id == some .local && pos.line == ln then some id else none
        | _ => none).length ≤ ts.length := fun ts => List.length_filterMap_le _ _
    have lt : ∀ ts : List Expr, someCell sc ts = true → (ts.filterMap fun
        | .Name id pos => if X.env.kindOf id == some .local && pos.line == ln then some id else none
        | _ => none).length < ts.length := by
      intro ts
      induction ts with
      | nil => intro h; simp [someCell] at h
      | cons t ts ih =>
        intro h
        cases t <;> first | (simp [someCell] at h; done) | skip
        rename_i x p
        simp only [someCell, Bool.or_eq_true] at h
        rw [List.length_cons]
        by_cases hx : (X.env.kindOf x == some .local && p.line == ln) = true
        · rcases h with h | h
          · exfalso
            simp only [Bool.and_eq_true, beq_iff_eq] at hx
            have q := hx.1
            unfold Env.kindOf at q
            rw [hsc] at q
            rw [q] at h
            cases h
          · rw [List.filterMap_cons]
            simp only [hx, if_true, List.length_cons]
            exact Nat.succ_lt_succ (ih h)
        · rw [List.filterMap_cons]
          simp only [hx, if_false]
          exact Nat.lt_succ_of_le (le ts)
    have := lt ts h
    rw [bne_iff_ne]
    omega
  have q := key ts ((ts.head?.map (·.pos.line)).getD 0) h
  first | unfold swappedStores | skip
  split
  · rename_i heq
    cases heq
    split
    · rfl
    · split
      · rfl
      · refine (if_pos ?_).trans rfl
        rw [Bool.or_eq_true]
        exact .inl q
  · rename_i hno
    exact (hno ts vs rfl).elim
theorem swappedE {tg e : Expr} (h : notTuple e = true) (env : PySem.Env) : swappedStores [tg] e env = pure none := by
  unfold swappedStores
  split
  · rename_i heq
    revert heq
    cases e <;> cases tg <;> first | (intro h; cases h; done) | (simp [notTuple] at h)
  · rfl
theorem swapSole {t v : Expr} {l : Nat} {env : PySem.Env} (h : swapsWith v (some t) l env = pure false) : swapsWithSole [t] v l env = pure false := by
  unfold swapsWithSole
  exact h
theorem setAll_two {ρ : Env} {i j : Nat} {d e : TL.D} : setAll [i, j] [d, e] ρ = (ρ.set i (some d)).set j (some e) := rfl
theorem snd_unpack {is : List Nat} : SndS N G k C cls dp (.unpack is m) := by
  intro X sc W st c h
  unfold chkS at h
  split at h
  · rename_i ts kt pt v pos
    simp only [Bool.and_eq_true] at h
    obtain ⟨⟨⟨h1, h2⟩, h3⟩, h4⟩ := h
    have hN : X.N.Nodup := by rw [c.hN]; exact c.nd
    obtain ⟨A, B, D, F, L⟩ := tgs_of (X := X) c.hN c.nd c.hsc (fun _ => c.fn) h1
    have E := (snd (dp := dp) m X sc W v c.toCok h3).1
    have gen : swappedStores [.Tuple ts kt pt] v X.env = pure none → PS X (.Assign [.Tuple ts kt pt] v pos) (tS X.kw dp W cls fun ρ s => exec C (.unpack is m) ρ s) := by
      intro hw
      refine ps_imp (ps_asg E (pg_tup c.calm A L F) (swapSole (swap_ok h2 _ _ _)) hw rfl) ?_
      rintro D σ H ⟨ω, ρ, st, hl, hs, hp⟩
      unfold exec at hp
      refine ⟨ω, ρ, st, hl, hs, (PostS.of hl hp).mono fun d st1 ω1 H1 x1 s1 q1 v r1 => ?_⟩
      split at q1
      · rename_i ρ1 hb
        exact gT_of (tg := .tp is) (hl.ext x1) r1 hb fun σ' hl' _ => q1 ω1 σ' H1 .refl hl' s1
      · exact q1.elim
    split at h4
    · rename_i vs k2 p2
      simp only [Bool.or_eq_true, Bool.and_eq_true, decide_eq_true_eq] at h4
      rcases h4 with ⟨⟨⟨h5, h6⟩, h7⟩, h8⟩ | h5
      · obtain ⟨x, px, y, py, a, b, rfl, rfl, l1, l2, hw, ne⟩ := par_of (kt := kt) (k2 := k2) (pt := pt) (p2 := p2) c.hsc h5
        cases m <;> first | (cases h6; done) | skip
        rename_i ms
        match is, B with
        | [i, j], _ =>
          simp only [tgOk.tgs, Bool.and_eq_true, decide_eq_true_eq] at h1
          obtain ⟨⟨⟨e1, _⟩, _⟩, ⟨⟨⟨e2, _⟩, _⟩, _⟩⟩ := h1
          unfold chkE at h3
          simp only [Bool.and_eq_true, decide_eq_true_eq] at h3
          obtain ⟨P, _⟩ := snd_es (dp := dp) (snds ms) X sc W [a, b] c.toCok h3.2
          have hij : i ≠ j := by
            intro z
            rw [z] at h8
            simp at h8
          refine ps_imp (ps_par (i := i) (j := j) c.calm hN (by rw [c.hN]; exact e1) (by rw [c.hN]; exact e2) hij l1 l2 P hw (swapSole (swap_ok h2 _ _ _))) ?_
          rintro D σ H ⟨ω, ρ, st, hl, hs, hp⟩
          unfold exec at hp
          have hp := PostS.of hl hp
          unfold ev at hp
          refine ⟨ω, ρ, st, hl, hs, (Post.bind hp).len.mono fun ds st1 ω1 H1 x1 s1 ⟨ln, q1⟩ vs r1 => ?_⟩
          have q1 : ∀ ω' H', Ext (dp + 1) ω1 H1 ω' H' → StoOk X.kw ω' st1 H' → PostS X.kw dp W cls ω' H' (match bindT (.tp [i, j]) (.tup ds) ρ with
            | some ρ1 => .nx ρ1 st1
            | none => .fail) D := q1
          have q2 := q1 ω1 H1 .refl s1
          have l2 : ds.length = 2 := by
            rw [ln]
            have := chkEs_length h3.2
            exact this.symm
          match ds, l2 with
          | [d, e], _ =>
            obtain ⟨v, w, rfl, rv, rw'⟩ := r1.two
            refine ⟨v, w, rfl, ?_⟩
            exact q2 ω1 _ H1 .refl (((hl.ext x1).set (OwnR.of rv)).set (OwnR.of rw')) s1
      · exact gen (cell_none c.hsc h5)
    · cases h4
    · rename_i n1 n2
      refine gen (swappedE ?_ _)
      cases v <;> first | rfl | exact absurd rfl (n1 _ _ _) | exact absurd rfl (n2 _ _)
  · cases h

theorem snd_unpackL {is : List Nat} : SndS N G k C cls dp (.unpackL is m) := by
  intro X sc W st c h
  unfold chkS at h
  split at h
  · rename_i ts kt pt v pos
    simp only [Bool.and_eq_true] at h
    obtain ⟨⟨h1, h2⟩, h3⟩ := h
    obtain ⟨A, B, D, F, L⟩ := tgs_of (X := X) c.hN c.nd c.hsc (fun _ => c.fn) h1
    have E := (snd (dp := dp) m X sc W v c.toCok h3).1
    have sw : swapsWithSole [.Tuple ts kt pt] v pos.line X.env = pure false := by
      unfold swapsWithSole swapsWith
      cases v <;> rfl
    refine ps_imp (ps_asg E (pg_unl c.calm A L F) sw (swappedE h2 _) rfl) ?_
    rintro D σ H ⟨ω, ρ, st, hl, hs, hp⟩
    unfold exec at hp
    refine ⟨ω, ρ, st, hl, hs, (PostS.of hl hp).mono fun d st1 ω1 H1 x1 s1 q1 v r1 => ?_⟩
    split at q1
    · rename_i ds
      split at q1
      · rename_i hlen
        obtain ⟨l1, a1, ws, rfl, sq, w1, r1⟩ := r1
        exact ⟨a1, ws, rfl, SqL.of sq, r1.length.trans hlen, gNames_of (hl.ext x1) r1 hlen fun σ' hl' _ => q1 ω1 σ' H1 .refl hl' s1⟩
      · exact q1.elim
    · exact q1.elim
  · cases h
theorem snd_ifs {ca cb : List S} (ha : SndSs N G k C cls dp ca) (hb : SndSs N G k C cls dp cb) : SndS N G k C cls dp (.ifs m ca cb) := by
  intro X sc W st c h
  unfold chkS at h
  split at h
  · simp only [Bool.and_eq_true] at h
    refine ps_imp (ps_if (snd (dp := dp) m X sc W _ c.toCok h.1.1).2 (ha X sc W _ c h.1.2) (hb X sc W _ c h.2)) ?_
    rintro D σ H ⟨ω, ρ, st, hl, hs, hp⟩
    unfold exec at hp
    refine ⟨ω, ρ, st, hl, hs, (PostS.of hl hp).mono fun d st1 ω1 H1 x1 s1 q1 => ?_⟩
    split at q1
    · rename_i kk
      refine ⟨kk, rfl, ?_⟩
      cases kk with
      | true => exact ⟨ω1, ρ, st1, hl.ext x1, s1, q1⟩
      | false => exact ⟨ω1, ρ, st1, hl.ext x1, s1, q1⟩
    · exact q1.elim
  · cases h
theorem snd_while {body : List S} (hb : SndSs N G k C cls dp body) : SndS N G k C cls dp (.while m body) := by
  intro X sc W st c h
  unfold chkS at h
  split at h
  · simp only [Bool.and_eq_true] at h
    refine ps_imp (ps_while c.po (snd (dp := dp) m X sc W _ c.toCok h.1).2 (hb X sc W _ c h.2)) ?_
    rintro D σ H ⟨ω, ρ, st, hl, hs, hp⟩
    unfold exec at hp
    refine ⟨fun n σ H => ∃ ω ρ st, Loc X.kw ω dp ρ σ H ∧ StoOk X.kw ω st H ∧ PostS X.kw dp W cls ω H (whileGo (fun ρ st => ev C m ρ st) (fun ρ st => execs C body ρ st) n ρ st) D, ⟨FU, ω, ρ, st, hl, hs, hp⟩, ?_⟩
    rintro n σ H ⟨ω, ρ, st, hl, hs, hp⟩
    cases n with
    | zero => exact hp.elim
    | succ n =>
      unfold whileGo at hp
      refine ⟨ω, ρ, st, hl, hs, (PostS.of hl hp).mono fun d st1 ω1 H1 x1 s1 q1 => ?_⟩
      split at q1
      · refine ⟨true, rfl, ?_⟩
        show ite _ _ _
        rw [if_pos rfl]
        refine ⟨fun σ H => tS X.kw dp W cls (whileGo (fun ρ st => ev C m ρ st) (fun ρ st => execs C body ρ st) n) D σ H, fun σ' H' ⟨ω', ρ', st', a, b, q⟩ => ⟨n, Nat.lt_succ_self _, ω', ρ', st', a, b, q⟩, ω1, ρ, st1, hl.ext x1, s1, ?_⟩
        refine (PostS.seq q1).mono (fun _ _ q => q) fun _ _ q => q
      · refine ⟨false, rfl, ?_⟩
        show ite _ _ _
        rw [if_neg Bool.false_ne_true]
        exact q1 ω1 σ H1 .refl (hl.ext x1) s1
      · exact q1.elim
  · cases h
theorem snd_for {tg : T} {ik : IK} {ie : List E} {body : List S} (hb : SndSs N G k C cls dp body) : SndS N G k C cls dp (.for tg ik ie body) := by
  intro X sc W st c h
  unfold chkS at h
  split at h
  · rename_i t it bx pos
    simp only [Bool.and_eq_true] at h
    obtain ⟨⟨⟨h1, h2⟩, h3⟩, h4⟩ := h
    cases qi : itArgs G sc ik tg it with
    | none => rw [qi] at h4; cases h4
    | some es =>
      rw [qi] at h4
      have I := snd_it (dp := dp) (own := (match tg with | .nm i => [i] | .tp is => is)) (snds ie) c.toCok qi h4 (tg_shape h1)
      refine ps_imp (ps_for c.po c.calm I (tg_of c.hN c.nd c.hsc (fun _ => c.fn) c.calm h1) (hb X sc W _ c h3) (fold_ok h2 X.env)) ?_
      rintro D σ H ⟨ω, ρ, st, hl, hs, hp⟩
      unfold exec at hp
      refine ⟨ω, ρ, st, hl, hs, (PostS.ofs hl hp).mono fun ds st1 ω1 H1 x1 s1 q1 => ?_⟩
      cases qx : items ik ds with
      | none => rw [qx] at q1; exact q1.elim
      | some xs =>
        rw [qx] at q1
        refine ⟨xs, rfl, fun J F => ?_⟩
        refine ⟨fun i mm σ H => mm = xs.length - i ∧ i ≤ xs.length ∧ ∃ ω' ρ' st', Kept ω1 H1 ω' H ∧ Loc X.kw ω' dp ρ' σ H ∧ StoOk X.kw ω' st' H ∧ PostS X.kw dp W cls ω' H (forGo (bindT tg) (fun ρ st => execs C body ρ st) (xs.drop i) ρ' st') D,
          ⟨xs.length, by simp, Nat.zero_le _, ω1, ρ, st1, .refl, hl.ext x1, s1, q1⟩, ?_⟩
        rintro i mm σ H2 ⟨rfl, hi, ω2, ρ2, st2, k2, l2, s2, p2⟩
        by_cases hlt : i < xs.length
        · rw [List.drop_eq_getElem_cons hlt] at p2
          unfold forGo at p2
          refine .inr ⟨F.go ω2 H2 k2 i hlt, fun σ H => ∃ ω' ρ' st', Kept ω1 H1 ω' H ∧ Loc X.kw ω' dp ρ' σ H ∧ StoOk X.kw ω' st' H ∧ PostS X.kw dp W cls ω' H (forGo (bindT tg) (fun ρ st => execs C body ρ st) (xs.drop (i + 1)) ρ' st') D,
            fun σ' H' h => ⟨xs.length - (i + 1), by omega, rfl, hlt, h⟩, fun x H3 y => ?_⟩
          obtain ⟨gr, rx⟩ := F.yld ω2 H2 k2 i x H3 xs[i] (List.getElem?_eq_getElem hlt) y
          have x3 : Ext (dp + 1) ω2 H2 ω2 H3 := .ofGrow s2 gr
          have p3 := PostS.at p2 (x3.mono (Nat.le_succ _))
          cases qb : bindT tg xs[i] ρ2 with
          | none => rw [qb] at p3; exact p3.elim
          | some ρ3 =>
            rw [qb] at p3
            refine gT_of (l2.ext x3) rx qb fun σ4 l4 _ => ⟨ω2, ρ3, st2, l4, s2.grow gr, ?_⟩
            have kk : Kept ω1 H1 ω2 H3 := k2.trans x3.kept
            have p3 : PostS X.kw dp W cls ω2 H3 ((execs C body ρ3 st2).seq fun ρ2 st2 => forGo (bindT tg) (fun ρ st => execs C body ρ st) (xs.drop (i + 1)) ρ2 st2) D := p3
            revert p3
            show PostS X.kw dp W cls ω2 H3 _ D → PostS X.kw dp W cls ω2 H3 (execs C body ρ3 st2) _
            cases execs C body ρ3 st2 with
            | nx ρ' st' =>
              intro p3 ω5 σ5 H5 x5 l5 s5
              have p3 : PostS X.kw dp W cls ω2 H3 (forGo (bindT tg) (fun ρ st => execs C body ρ st) (xs.drop (i + 1)) ρ' st') D := p3
              exact ⟨ω5, ρ', st', kk.trans x5.kept, l5, s5, PostS.at p3 x5⟩
            | rt d st' => exact fun p4 => p4
            | ex cc ρ' st' => exact fun p4 => p4
            | fail => exact fun p4 => p4
        · have e1 : i = xs.length := by omega
          subst e1
          rw [List.drop_length] at p2
          unfold forGo at p2
          exact .inl ⟨F.stop ω2 H2 k2, p2 ω2 σ H2 .refl l2 s2⟩
  · cases h
theorem chkSs_cons {s : S} {ms : List S} {sts : List Stmt} (nf : ∀ i, s ≠ .freeze i) : chkSs N G (s :: ms) sc sts = (match sts with
    | st :: sts => chkS N G s sc st && chkSs N G ms sc sts
    | [] => false) := by
  cases s <;> first | exact absurd rfl (nf _) | (cases sts <;> simp only [chkSs])
theorem snd_ss_cons {s : S} {ms : List S} (h1 : SndS N G k C cls dp s) (h2 : SndSs N G k C cls dp ms) (nf : ∀ i, s ≠ .freeze i) : SndSs N G k C cls dp (s :: ms) := by
  intro X sc W sts c h
  have h' := h
  rw [chkSs_cons nf] at h'
  cases sts with
  | nil => cases h'
  | cons st sts =>
    simp only [Bool.and_eq_true] at h'
    refine pss_imp (pss_cons (h1 X sc W st c h'.1) (h2 X sc W sts c h'.2)) ?_
    rintro D σ H ⟨ω, ρ, st, hl, hs, hp⟩
    unfold execs at hp
    exact ⟨ω, ρ, st, hl, hs, PostS.seq hp⟩
theorem Loc.freeze {i : Nat} {a : Addr} {vs : List V} {ds : List TL.D} (hl : Loc K ω dp ρ σ H) (s : StoOk K ω st H) (hs : σ[i]? = some (some (.ref a))) (h : H a = some (.lst vs)) (w : ω.wr a = some (.slot dp i, [])) (r : Reps K ω H ds vs) (l : ds.length ≤ sizeLine) :
    Loc K (ω.free a) dp (ρ.set i (some (.lst ds))) σ H :=
  ⟨by rw [List.length_set]; exact hl.len, fun j d e => by
    by_cases hj : j = i
    · subst hj
      by_cases hlt : j < ρ.length
      · rw [List.getElem?_set_self hlt] at e
        cases e
        refine ⟨_, hs, OwnR.of ⟨l, a, vs, rfl, h, ?_, Reps.kept (.free w) _ _ r⟩⟩
        show (if a = a then none else ω.wr a) = none
        rw [if_pos rfl]
      · rw [List.getElem?_eq_none (by rw [List.length_set]; omega)] at e
        cases e
    · rw [List.getElem?_set_ne (Ne.symm hj)] at e
      obtain ⟨v', e', r'⟩ := hl.at_ j d e
      refine ⟨v', e', ?_⟩
      cases d with
      | mlst ds' =>
        obtain ⟨a', vs', e1, h1, w1, r1⟩ := r'
        have ne : a' ≠ a := fun z => by
          rw [z, w] at w1
          cases w1
          exact hj rfl
        refine ⟨a', vs', e1, h1, ?_, Reps.kept (.free w) _ _ r1⟩
        show (if a' = a then none else ω.wr a') = _
        rw [if_neg ne]
        exact w1
      | mset ds' =>
        obtain ⟨a', vs', e1, h1, w1, r1⟩ := r'
        have ne : a' ≠ a := fun z => by
          rw [z, w] at w1
          cases w1
          exact hj rfl
        refine ⟨a', vs', e1, h1, ?_, KeysR.kept (.free w) r1⟩
        show (if a' = a then none else ω.wr a') = _
        rw [if_neg ne]
        exact w1
      | _ => first | exact Rep.kept (.free w) _ _ r' | exact r'.elim⟩
theorem Ext.freeOwn {d i : Nat} {p : List Str} {a : Addr} (w : ω.wr a = some (.slot d i, p)) : Ext d ω H (ω.free a) H where
  kept := .free w
  fix := fun b k j q e hk => by
    have ne : b ≠ a := fun z => by
      rw [z, w] at e
      cases e
      exact absurd hk (Nat.lt_irrefl _)
    refine ⟨?_, rfl⟩
    show (if b = a then none else ω.wr b) = _
    rw [if_neg ne]
theorem snd_put {i : Nat} : SndS N G k C cls dp (.put i m) := by
  intro X sc W st c h
  unfold chkS at h
  split at h
  · rename_i x p kx p1 j p2 pos
    simp only [Bool.and_eq_true, decide_eq_true_eq] at h
    obtain ⟨⟨⟨⟨h1, h2⟩, h3⟩, h4⟩, h5⟩ := h
    have nm := nameOk_of h3
    have B : PE X (.Name x p) (tVar i) := pe_var (X := X) (i := i) (by rw [c.hN]; exact h1) (vis_of c.hsc h2) nm.d nm.c
    have u := units_of c.toCok
    have ha : ∀ v, assign (.Subscript (.Name x p) kx p1) X.env v = (do
      let ov ← holding [v] (eval (.Name x p) X.env)
      let iv ← holding [v, ov] (eval kx X.env)
      standAt p1
      holding [v, ov, iv] (setItem ov iv v)
      release [v, ov, iv] []) := by
      intro v
      cases kx <;> first | rfl | (simp [notSlice] at h4)
    refine ps_imp (ps_asg pe_bl (pg_sub B (snd (dp := dp) m X sc W _ c.toCok h5).1 (pset_mset u) ha) (swapSole (swap_ok rfl _ _ _)) (swappedE rfl _) rfl) ?_
    rintro D σ H ⟨ω, ρ, st, hl, hs, hp⟩
    unfold exec at hp
    dsimp only at hp
    split at hp
    · rename_i ks hd
      obtain ⟨v, e1, ad, xs, rfl, h2, w2, r2⟩ := hl.at_ i _ hd
      refine ⟨_, e1, ω, ρ, st, hl, hs, (PostS.of hl hp).mono fun d st1 ω1 H1 x1 s1 q1 w r1 => ?_⟩
      obtain ⟨f1, f2⟩ := x1.fix ad dp i [] w2 (Nat.lt_succ_self _)
      have h3 : H1 ad = some (msetO X.w ad xs) := f2.trans h2
      have w3 := f1.trans w2
      have r3 := r2.kept x1.kept
      split at q1
      · rename_i hh
        simp only [Bool.and_eq_true, decide_eq_true_eq] at hh
        obtain ⟨hk, hlen⟩ := hh
        obtain ⟨b, rfl⟩ := rep_key hk r1
        refine ⟨ω1, d, ks, ad, b, xs, rfl, rfl, rfl, r1, hk, h3, r3, hlen, ?_⟩
        refine q1 ω1 σ _ (.writeM w3 h3) ((hl.ext x1).writeM e1 w3 h3 ?_) (s1.write w3 (.writeM w3 h3))
        split
        · exact r3
        · exact keysR_app hk r1 r3
      · exact q1.elim
    · exact hp.elim
  · cases h
theorem FldsR.put {l : Nat} {f : Str} {d : TL.D} {y : V} (o : d.own = false) (r : Rep K ω H d y) : ∀ {fs : List (Str × TL.D)} {vs : List (Str × V)}, FldsR K ω H l fs vs → FldsR K ω H l (putD f d fs) (putF f y vs)
  | [], vs, h => by
    rw [show vs = [] from h]
    exact ⟨y, [], rfl, OwnAt.of r, rfl⟩
  | (g, x) :: fs, vs, h => by
    obtain ⟨v, r', rfl, h1, h2⟩ := h
    unfold putD putF
    by_cases e : g = f
    · rw [if_pos e, if_pos e]
      subst e
      exact ⟨y, r', rfl, OwnAt.of r, h2⟩
    · rw [if_neg e, if_neg e]
      exact ⟨v, _, rfl, h1, FldsR.put o r h2⟩
theorem putD_keys (f : Str) (d : TL.D) : ∀ (fs : List (Str × TL.D)), (fs.map (·.1)).Nodup → ((putD f d fs).map (·.1)).Nodup ∧ ∀ g, g ∈ (putD f d fs).map (·.1) → g = f ∨ g ∈ fs.map (·.1)
  | [], _ => by simp [putD]
  | (g, x) :: fs, h => by
    rw [List.map_cons, List.nodup_cons] at h
    obtain ⟨i1, i2⟩ := putD_keys f d fs h.2
    unfold putD
    by_cases e : g = f
    · rw [if_pos e]
      refine ⟨by rw [List.map_cons, List.nodup_cons]; exact h, fun a ha => .inr ha⟩
    · rw [if_neg e]
      refine ⟨by
        rw [List.map_cons, List.nodup_cons]
        refine ⟨fun z => ?_, i1⟩
        rcases i2 _ z with q | q
        · exact e q
        · exact h.1 q, fun a ha => ?_⟩
      rw [List.map_cons] at ha ⊢
      rcases List.mem_cons.mp ha with q | q
      · exact .inr (by rw [q]; exact List.mem_cons_self ..)
      · exact (i2 a q).imp id (List.mem_cons_of_mem _)
theorem putD_sub (f : Str) (d : TL.D) : ∀ (fs : List (Str × TL.D)) (g : Str), g ∈ fs.map (·.1) → g ∈ (putD f d fs).map (·.1)
  | [], _, h => by cases h
  | (j, x) :: fs, g, h => by
    unfold putD
    by_cases e : j = f
    · rw [if_pos e]
      exact h
    · rw [if_neg e]
      rw [List.map_cons] at h ⊢
      rcases List.mem_cons.mp h with q | q
      · rw [q]; exact List.mem_cons_self
      · exact List.mem_cons_of_mem _ (putD_sub f d fs g q)
theorem FldsR.len {l : Nat} : ∀ {fs : List (Str × TL.D)} {vs : List (Str × V)}, FldsR K ω H l fs vs → vs.length = fs.length
  | [], vs, h => by rw [show vs = [] from h]; rfl
  | (f, d) :: fs, vs, h => by
    obtain ⟨v, r, rfl, h1, h2⟩ := h
    rw [List.length_cons, List.length_cons, h2.len]
theorem chg_cell {a C dx : Addr} {vs : List (Str × V)} {t : Root × List Str} (h : H a = some (.ins C dx vs)) (w : ω.wr a = some t) : Chg ω H a := ⟨fun xs e => (by rw [h] at e; cases e), fun o u e => (by rw [h] at e; cases e), (by rw [w]; simp)⟩
theorem Ext.cell {d l : Nat} {p : List Str} {a : Addr} {o : HO} (c : Chg ω H a) (w : ω.wr a = some (.cell l, p)) : Ext d ω H ω (upd H a o) :=
  ⟨c.kept, fun b k i q e _ => ⟨rfl, upd_ne fun z => by rw [z, w] at e; cases e⟩⟩
theorem snd_setF {c₀ f : Str} : SndS N G k C cls dp (.setF c₀ m f n) := by
  intro X sc W st c h
  unfold chkS at h
  split at h
  · rename_i a f' p' ex pos
    simp only [Bool.and_eq_true, decide_eq_true_eq] at h
    obtain ⟨⟨⟨⟨rfl, h2⟩, h3⟩, h4⟩, h5⟩ := h
    obtain ⟨ct, hct, hc⟩ := cls_of c.toCok h3
    simp only [Bool.and_eq_true, decide_eq_true_eq] at hc
    obtain ⟨rfl, hf⟩ := hc
    obtain ⟨Ca, hmg, hns, hcl, hna, _, _⟩ := c.clss ct hct
    refine ps_imp (ps_fld (snd (dp := dp) m X sc W a c.toCok h4).1 (snd (dp := dp) n X sc W ex c.toCok h5).1 (swap_ok h2 _ _ _)) ?_
    rintro D σ H ⟨ω, ρ, st, hl, hs, hp⟩
    unfold exec at hp
    refine ⟨ω, ρ, st, hl, hs, (PostS.of hl hp).mono fun d st1 ω1 H1 x1 s1 q1 y ry => ?_⟩
    refine ⟨ω1, ρ, st1, hl.ext x1, s1, (PostS.of (hl.ext x1) q1).mono fun x st2 ω2 H2 x2 s2 q2 v r2 => ?_⟩
    split at q2
    · rename_i st' hset
      unfold setFD at hset
      split at hset
      · rename_i l
        split at hset
        · rename_i c' fs hst
          split at hset
          · rename_i hcond
            cases hset
            obtain ⟨hc', hlen, ho⟩ := hcond
            subst hc'
            obtain ⟨a2, C2, dx, vs, m2, Ha, w2, n2, nd, fr⟩ := s2.at_ l _ hst
            obtain ⟨a3, m3, rfl⟩ := r2
            rw [m2] at m3
            cases m3
            have hns' := hns
            rw [n2] at hns'
            cases hns'
            have ch : Chg ω2 H2 a2 := chg_cell Ha w2
            have ry2 : Rep X.kw ω2 H2 d y := Rep.ext x2 ry
            have xw : Ext (dp + 1) ω2 H2 ω2 (upd H2 a2 (.ins Ca dx (putF f' y vs))) := .cell ch w2
            refine ⟨a2, Ca, dx, vs, rfl, Ha, hcl, hna _ hf, by rw [fr.len]; exact hlen, ?_⟩
            refine q2 ω2 σ _ (.cell ch w2) (((hl.ext x1).ext x2).ext xw) ⟨?_, fun b e => ?_, fun l' d' e => ?_, s2.inj, fun b l' p e => ?_⟩
            · rw [List.length_set]; exact s2.len
            · by_cases q : b = a2
              · rw [q, upd_same]; simp
              · rw [upd_ne q]; exact s2.trk b e
            · by_cases ql : l' = l
              · subst ql
                rw [List.getElem?_set_self (List.getElem?_eq_some_iff.mp hst).1] at e
                cases e
                refine ⟨a2, Ca, dx, _, m2, upd_same, w2, hns, (putD_keys f' d fs nd).1, ?_⟩
                refine FldsR.frame ch.kept (fun b j q _ e => ⟨rfl, upd_ne fun z => ?_⟩) (fr.put ho ry2)
                rw [z, w2] at e
                cases e
              · rw [List.getElem?_set_ne (fun z => ql z.symm)] at e
                refine (s2.at_ l' d' e).kept ⟨ch.kept, fun b p e => ⟨rfl, upd_ne fun z => ?_⟩⟩
                rw [z, w2] at e
                cases e
                exact ql rfl
            · obtain ⟨d1, e1, k1⟩ := s2.dom b l' p e
              by_cases ql : l' = l
              · subst ql
                rw [hst] at e1
                cases e1
                refine ⟨_, List.getElem?_set_self (List.getElem?_eq_some_iff.mp hst).1, ?_⟩
                rcases k1 with k1 | ⟨g, q, k1, k2⟩
                · exact .inl k1
                · exact .inr ⟨g, q, k1, putD_sub f' d fs g k2⟩
              · exact ⟨d1, by rw [List.getElem?_set_ne (fun z => ql z.symm)]; exact e1, k1⟩
          · cases hset
        · cases hset
      · cases hset
    · exact q2.elim
  · cases h
theorem snd_raise {j : Nat} : SndS N G k C cls dp (.raise j) := by
  intro X sc W st c h
  unfold chkS at h
  split at h
  · rename_i x p m jj p2 p3 pos
    simp only [Bool.and_eq_true, decide_eq_true_eq] at h
    obtain ⟨⟨h1, h2⟩, h3⟩ := h
    obtain ⟨Ca, B, newId, initId, bmB, ec, hmg, F, q, kp, sb, ty⟩ := c.exc j x h1
    refine ps_imp (ps_raise c.calm c.tk (pmk_own F q hmg kp (raises_own sb ty) (glb_of c.hsc h2) (nameOk_of h3).d)) ?_
    rintro D σ H ⟨ω, ρ, st, hl, hs, hp⟩
    unfold exec at hp
    have z := hp ω σ H .refl hl hs
    rw [ec] at z
    exact z
  · cases h
theorem pe_k {X : Cx} {d : TL.D} {e : Expr} (h : kst d e = true) : ∃ v, (∀ ω H, Rep X.kw ω H d v) ∧ PE X e (tC v) ∧ d.own = false ∧ notStar e = true ∧ notComp e = true := by
  unfold kst at h
  split at h
  · rename_i cc j pos
    cases d <;> cases cc <;> first | (simp [conOk] at h; done) | skip
    · exact ⟨.non, fun _ _ => rfl, pe_non, rfl, rfl, rfl⟩
    · simp only [conOk, beq_iff_eq] at h
      subst h
      exact ⟨.bl _, fun _ _ => rfl, pe_bl, rfl, rfl, rfl⟩
    · simp only [conOk, beq_iff_eq] at h
      subst h
      exact ⟨.int _, fun _ _ => rfl, pe_int, rfl, rfl, rfl⟩
    · simp only [conOk, Bool.and_eq_true, decide_eq_true_eq] at h
      obtain ⟨h1, h2⟩ := h
      subst h1
      exact ⟨.str _, fun _ _ => ⟨rfl, h2⟩, pe_str, rfl, rfl, rfl⟩
  · cases h
theorem pa_ks {X : Cx} : ∀ {ds : List TL.D} {es : List Expr}, ksts ds es = true → ∃ vs, (∀ ω H, Reps X.kw ω H ds vs) ∧ PA X es (fun _ H Q => Q vs H) ∧ ds.length = es.length
  | [], es, h => by
    have e : es = [] := by cases es <;> first | rfl | simp [ksts] at h
    subst e
    exact ⟨[], fun _ _ => rfl, pa_imp pa_nil fun _ _ _ q => q, rfl⟩
  | d :: ds, es, h => by
    unfold ksts at h
    split at h
    · rename_i e es
      rw [Bool.and_eq_true] at h
      obtain ⟨v, r, p, _, ns, _⟩ := pe_k (X := X) h.1
      obtain ⟨vs, rs, ps, ln⟩ := pa_ks (X := X) h.2
      exact ⟨v :: vs, fun ω H => ⟨v, vs, rfl, r ω H, rs ω H⟩, pa_imp (pa_cons p ps (star_of ns es X.env)) fun _ _ _ q => q, by rw [List.length_cons, List.length_cons, ln]⟩
    · cases h
/-- what a suite's value asks -/
def tK (K : KW) (dp : Nat) (d : TL.D) : TE := fun _ H Q => ∃ ω st, StoOk K ω st H ∧ ∀ v H', Ext (dp + 1) ω H ω H' → StoOk K ω st H' → Rep K ω H' d v → Q v H'
theorem pe_kE {X : Cx} {d : TL.D} {e : Expr} (h : kE d e = true) : PE X e (tK X.kw dp d) ∧ notComp e = true := by
  unfold kE at h
  split at h
  · split at h
    · rw [Bool.and_eq_true, decide_eq_true_eq] at h
      obtain ⟨vs, rs, ps, ln⟩ := pa_ks (X := X) h.1
      refine ⟨pe_imp (pe_tup ps) ?_, rfl⟩
      rintro σ H Q ⟨ω, st, hs, hp⟩
      refine ⟨by rw [(rs ω H).length, ln]; exact le_line h.2, fun p hp' => ?_⟩
      exact hp _ _ (.ofGrow hs (same_new hp' _)) (hs.grow (same_new hp' _)) (rep_new_tup hp' (rs ω H) (by rw [ln]; exact le_line h.2))
    · cases h
  · obtain ⟨v, r, p, _, _, nc⟩ := pe_k (X := X) h
    refine ⟨pe_imp p ?_, nc⟩
    rintro σ H Q ⟨ω, st, hs, hp⟩
    exact hp v H .refl hs (r ω H)
theorem kst_own {d : TL.D} {e : Expr} (h : kE d e = true) : d.own = false := by
  unfold kE at h
  split at h
  · split at h
    · rfl
    · cases h
  · unfold kst at h
    split at h
    · cases d <;> first | rfl | (simp [conOk] at h)
    · cases h
theorem try_post {cs ncs : List Nat} {ret : Bool} {i : Nat} {d : TL.D} {r : Fl} {W' : WX} (hp : PostS K dp W cls ω H (Fl.catch cs ncs ret i d r) D)
    (h1 : ∀ c ∈ cs, ∀ σ' H', (∃ ω' ρ' st', Ext dp ω H ω' H' ∧ Loc K ω' dp ρ' σ' H' ∧ StoOk K ω' st' H' ∧ PostS K dp W cls ω' H' (if ret then .rt d st' else .nx (ρ'.set i (some d)) st') D) → W' (cls c) none σ' H')
    (h2 : ∀ c ∈ ncs, ∀ σ' H', W (cls c) none σ' H' → W' (cls c) none σ' H') : PostS K dp W' cls ω H r D := by
  cases r with
  | nx ρ' st' => exact hp
  | rt d' st' => exact hp
  | fail => exact hp
  | ex c ρ' st' =>
    intro ω' σ' H' x l s
    unfold Fl.catch at hp
    dsimp only at hp
    by_cases q : c ∈ cs
    · rw [if_pos q] at hp
      exact h1 c q σ' H' ⟨ω', ρ', st', x, l, s, hp.at x⟩
    · rw [if_neg q] at hp
      by_cases q2 : c ∈ ncs
      · rw [if_pos q2] at hp
        exact h2 c q2 σ' H' (hp ω' σ' H' x l s)
      · rw [if_neg q2] at hp
        exact hp.elim
theorem CokS.tr {pn : List (Addr × Obj)} {xe : Value → Shared → Prop} {W' : WX} (c : CokS X G k C cls N sc W) (tk : Takes (X.tr pn xe) W') (po : PassesOwn (model X.prog X.w) X.A X.env xe) : CokS (X.tr pn xe) G k C cls N sc W' where
  hN := c.hN
  nd := c.nd
  hsc := c.hsc
  calm := c.calm
  room := c.room
  tk := tk
  fns := c.fns
  cst := c.cst
  blt := c.blt
  room1 := c.room1
  clss := c.clss
  fn := c.fn
  po := po
  stk := c.stk
  frm := c.frm
  exc := c.exc
  exm := c.exm
theorem snd_try {body : List S} {j : Nat} {cs ncs : List Nat} {ret : Bool} {i : Nat} {d : TL.D} (hb : SndSs N G k C cls dp body) : SndS N G k C cls dp (.tryS body j cs ncs ret i d) := by
  intro X sc W st c h
  unfold chkS at h
  split at h
  · rename_i bx x np b₀ suite hpos pos
    simp only [Bool.and_eq_true, decide_eq_true_eq, List.all_eq_true] at h
    obtain ⟨⟨⟨⟨⟨⟨h1, h2⟩, h3⟩, h4⟩, h5⟩, h6⟩, h7⟩ := h
    obtain ⟨Ca, B, newId, initId, bmB, ec, hmg, F, q, kp, sb, ty⟩ := c.exc j x h1
    have nm : Names X x (cls j) := ⟨glb_of c.hsc h2, (nameOk_of h3).d, .inl (by rw [ec]; exact hmg)⟩
    unfold sui at h7
    split at h7
    · rename_i e pos2 he
      cases he
      rw [Bool.and_eq_true] at h7
      obtain ⟨rfl, h8⟩ := h7
      refine ps_imp (ps_try_only (tb := fun W' => tS X.kw dp W' cls fun ρ s => execs C body ρ s) (ts := fun _ _ _ => tRet (tK X.kw dp d)) (Wout := W) c.stk c.frm nm c.tk (fun W' pn xe tk po => hb (X.tr pn xe) sc W' bx (c.tr tk po) h6) (fun a oe cls' d0 pn _ _ => pss_one (ps_ret (pe_kE h8).1))) ?_
      rintro D σ H ⟨ω, ρ, st, hl, hs, hp⟩
      unfold exec at hp
      refine ⟨ω, ρ, st, hl, hs, try_post hp (fun c' hc' σ' H' z => ⟨true, c.exm _ _ _ (h4 _ hc'), fun _ a ha => ?_, fun z => nomatch z⟩) (fun c' hc' σ' H' z => ⟨false, c.exm _ _ _ (h5 _ hc'), fun z => (nomatch z), fun _ => z⟩)⟩
      obtain ⟨ω', ρ', st', x1, l1, s1, hq⟩ := z
      exact ⟨ω', st', s1, fun v H2 x2 s2 r2 => hq ω' v H2 (x2.mono (Nat.le_succ _)) s2 r2⟩
    · rename_i y p e pos2 he
      cases he
      simp only [Bool.and_eq_true, decide_eq_true_eq, Bool.not_eq_true'] at h7
      obtain ⟨⟨⟨rfl, h8⟩, h9⟩, h10⟩ := h7
      obtain ⟨q1, q2⟩ := lcl_of (X := X) c.hsc (fun _ => c.fn) h9
      have hN : X.N.Nodup := by rw [c.hN]; exact c.nd
      have hi : X.N[i]? = some y := by rw [c.hN]; exact h8
      refine ps_imp (ps_try_only (tb := fun W' => tS X.kw dp W' cls fun ρ s => execs C body ρ s) (ts := fun _ _ _ => tAsg (tK X.kw dp d) (gName i)) (Wout := W) c.stk c.frm nm c.tk (fun W' pn xe tk po => hb (X.tr pn xe) sc W' bx (c.tr tk po) h6)
        (fun a oe cls' d0 pn _ _ => pss_one (ps_set (i := i) hN hi q1 (pe_kE h10).1 (swap_ok (pe_kE (X := X) (dp := dp) h10).2 _ _ _) q2))) ?_
      rintro D σ H ⟨ω, ρ, st, hl, hs, hp⟩
      unfold exec at hp
      refine ⟨ω, ρ, st, hl, hs, try_post hp (fun c' hc' σ' H' z => ⟨true, c.exm _ _ _ (h4 _ hc'), fun _ a ha => ?_, fun z => nomatch z⟩) (fun c' hc' σ' H' z => ⟨false, c.exm _ _ _ (h5 _ hc'), fun z => (nomatch z), fun _ => z⟩)⟩
      obtain ⟨ω', ρ', st', x1, l1, s1, hq⟩ := z
      exact ⟨ω', st', s1, fun v H2 x2 s2 r2 => hq ω' (σ'.set i (some v)) H2 (x2.mono (Nat.le_succ _)) ((l1.ext x2).set (OwnR.of r2)) s2⟩
    · cases h7
  · cases h
end
end TL

namespace TL
open PySem L2 PyProof.Rows
section
variable {X : Cx} {N : List Str} {G : GT} {k : Nat} {C : Cal} {cls : Nat → Value} {dp : Nat} {sc : Scope} {W : WX} {e : Expr} {es : List Expr} {m n l a b : E} {ms : List E}
variable {K : KW} {ω ω' ω'' : Wd} {H H' H'' : Hp} {D : Ends} {ρ : Env} {σ : L2.St} {st : Sto} {t : Root}
theorem PostS.opt {o : Option Sto} (h : PostS K dp W cls ω H (Fl.opt ρ o) D) : ∃ st', o = some st' ∧ PostS K dp W cls ω H (.nx ρ st') D := by
  cases o with
  | some st' => exact ⟨st', rfl, h⟩
  | none => exact h.elim
theorem chg_lst {a : Addr} {vs : List V} {z : Root × List Str} (h : H a = some (.lst vs)) (w : ω.wr a = some z) : Chg ω H a := ⟨fun xs e => (by rw [h] at e; cases e), fun o u e => (by rw [h] at e; cases e), (by rw [w]; simp)⟩
theorem chg_dk {a : Addr} {vs : List (Key × V)} {z : Root × List Str} (h : H a = some (.dK vs)) (w : ω.wr a = some z) : Chg ω H a := ⟨fun xs e => (by rw [h] at e; cases e), fun o u e => (by rw [h] at e; cases e), (by rw [w]; simp)⟩
theorem isML_of {x : TL.D} (h : ¬ isML st x = false) : ∃ ds, look st x = some (.mlst ds) := by
  unfold isML at h
  split at h
  · exact ⟨_, by assumption⟩
  · exact absurd rfl h
theorem isMD_of {x : TL.D} (h : ¬ isMD st x = false) : ∃ ds, look st x = some (.mdic ds) := by
  unfold isMD at h
  split at h
  · exact ⟨_, by assumption⟩
  · exact absurd rfl h
theorem snd_papp : SndS N G k C cls dp (.papp m n) := by
  intro X sc W st c h
  unfold chkS at h
  split at h
  · rename_i a y apos b cpos pos
    simp only [Bool.and_eq_true, decide_eq_true_eq] at h
    obtain ⟨⟨⟨⟨⟨rfl, h2⟩, h3⟩, h4⟩, h5⟩, h6⟩ := h
    have B := (snd (dp := dp) m X sc W _ c.toCok h4).1
    have P : PA X [b] (tCons (tE X.kw C dp W cls n) tNil) := pa_cons (snd (dp := dp) n X sc W _ c.toCok h5).1 pa_nil (star_of h6 [] X.env)
    refine ps_imp (ps_expr (pe_bm PySem.F.plainAttrs_list PySem.F.slot_list_append PySem.F.type_list_append mt_append B P (attr_ok h2 _ _) (few_of h6) h3 (star_of h6 [] X.env) rfl) (swap_ok rfl _ _ _)) ?_
    rintro D σ H ⟨ω, ρ, st, hl, hs, hp⟩
    unfold exec at hp
    refine ⟨ω, ρ, st, hl, hs, (PostS.of hl hp).mono fun x st1 ω1 H1 x1 s1 q1 v r1 => ?_⟩
    split at q1
    · exact q1.elim
    rename_i hml
    obtain ⟨ds1, hlk1⟩ := isML_of hml
    obtain ⟨l1, p1, ad, rfl, wr1, own1, hx1⟩ := look_at s1 r1 hlk1 rfl
    obtain ⟨vs1, ha1, rs1⟩ := own1.mlst
    refine ⟨.inl ⟨rfl, _, SqL.of ha1⟩, ω1, ρ, st1, hl.ext x1, s1, (PostS.of (hl.ext x1) q1).mono fun d st2 ω2 H2 x2 s2 q2 w r2 => ?_⟩
    obtain ⟨st', e, qq⟩ := PostS.opt q2
    unfold pappD at e
    split at e
    · rename_i ds hlk
      split at e
      · rename_i hc
        obtain ⟨ho, hlen⟩ := hc
        obtain ⟨l, p, ad2, ea, wr, own, hx⟩ := look_at s2 (r1.ext x2) hlk rfl
        cases ea
        obtain ⟨vs2, ha2, rs2⟩ := own.mlst
        have ch : Chg ω2 H2 ad := chg_lst ha2 wr
        refine ⟨ad, vs2, w, rfl, rfl, ha2, by rw [rs2.length]; exact hlen, ?_⟩
        refine qq ω2 σ _ (.cell ch wr) (((hl.ext x1).ext x2).ext (.cell ch wr)) (stow_ok s2 hlk rfl wr hx ch e ?_)
        exact ⟨ad, vs2 ++ [w], rfl, upd_same, wr, (Reps.kept ch.kept _ _ rs2).append ⟨w, [], rfl, Rep.kept ch.kept _ _ r2, rfl⟩⟩
      · cases e
    · cases e
  · cases h
theorem EntsR.drop {p : List Str} {s : Str} : ∀ {kvs : List (Str × TL.D)} {kws : List (Key × V)}, EntsR K ω H t p kvs kws → EntsR K ω H t p (kvs.filter fun kv => decide (kv.1 ≠ s)) (dropK kws (.inr s))
  | [], kws, r => by cases r; rfl
  | (k', d) :: kvs, kws, r => by
    obtain ⟨v, r', rfl, l1, h1, h2⟩ := r
    have ih := EntsR.drop (s := s) h2
    unfold dropK at ih ⊢
    rw [List.filter_cons, List.filter_cons]
    by_cases e : k' = s
    · subst e
      rw [if_neg (by simp), if_neg (by simp)]
      exact ih
    · rw [if_pos (by simpa using e), if_pos (by simpa using e)]
      exact ⟨v, _, rfl, l1, h1, ih⟩
theorem drop_nodup {s : Str} {kvs : List (Str × TL.D)} (h : (kvs.map (·.1)).Nodup) : ((kvs.filter fun kv => decide (kv.1 ≠ s)).map (·.1)).Nodup := by
  exact List.Nodup.sublist (List.Sublist.map _ List.filter_sublist) h
theorem putK_eq {k : Key} {v v' : V} {r : List (Key × V)} (h : k ∉ r.map (·.1)) : putK ((k, v) :: r) k v' = (k, v') :: r := by
  unfold putK
  rw [if_pos (by simp), List.map_cons, if_pos rfl]
  congr 1
  have : ∀ l : List (Key × V), k ∉ l.map (·.1) → l.map (fun kv => if kv.1 = k then (kv.1, v') else kv) = l := by
    intro l
    induction l with
    | nil => intro _; rfl
    | cons x l ih =>
      intro h
      rw [List.map_cons, List.mem_cons, not_or] at h
      rw [List.map_cons, if_neg (fun z => h.1 z.symm), ih h.2]
  exact this r h
theorem putK_ne {k k' : Key} {v v' : V} {r : List (Key × V)} (h : k' ≠ k) : putK ((k', v) :: r) k v' = (k', v) :: putK r k v' := by
  unfold putK
  rw [List.any_cons, decide_eq_false h, Bool.false_or]
  by_cases q : (r.any fun kv => decide (kv.1 = k)) = true
  · rw [if_pos q, if_pos q, List.map_cons, if_neg h]
  · rw [if_neg q, if_neg q]
    rfl
theorem EntsR.put {p : List Str} {s : Str} {d : TL.D} {v : V} (ls : s.length ≤ sizeLine) (o : d.own = false) (rv : Rep K ω H d v) : ∀ {kvs : List (Str × TL.D)} {kws : List (Key × V)}, (kvs.map (·.1)).Nodup → EntsR K ω H t p kvs kws → EntsR K ω H t p (putD s d kvs) (putK kws (.inr s) v)
  | [], kws, _, r => by
    cases r
    exact ⟨v, [], rfl, ls, OwnAt.of rv, rfl⟩
  | (k', d') :: kvs, kws, nd, r => by
    obtain ⟨v', r', rfl, l1, h1, h2⟩ := r
    rw [List.map_cons, List.nodup_cons] at nd
    unfold putD
    by_cases e : k' = s
    · subst e
      rw [if_pos rfl, putK_eq]
      · exact ⟨v, r', rfl, l1, OwnAt.of rv, h2⟩
      · rw [(h2.keys).1]
        intro z
        obtain ⟨x, hx, ex⟩ := List.mem_map.mp z
        cases ex
        exact nd.1 hx
    · rw [if_neg e, putK_ne (fun z => e (Sum.inr.inj z))]
      exact ⟨v', _, rfl, l1, h1, EntsR.put ls o rv nd.2 h2⟩
theorem snd_ppop : SndS N G k C cls dp (.ppop m n) := by
  intro X sc W st c h
  unfold chkS at h
  split at h
  · rename_i a y apos b cpos pos
    simp only [Bool.and_eq_true, decide_eq_true_eq] at h
    obtain ⟨⟨⟨⟨⟨rfl, h2⟩, h3⟩, h4⟩, h5⟩, h6⟩ := h
    have B := (snd (dp := dp) m X sc W _ c.toCok h4).1
    have P := (snd (dp := dp) n X sc W _ c.toCok h5).1
    have tr : backTo cpos (starEach [b] X.env) = [(false, eval b X.env)] := by
      rw [star_of h6 [] X.env]; rfl
    have M : M1 X a "pop" apos b cpos := ⟨attr_ok h2 _ _, by rw [tr]; rfl, h3, tr⟩
    refine ps_imp (ps_expr (pe_dpop1 B P M) (swap_ok rfl _ _ _)) ?_
    rintro D σ H ⟨ω, ρ, st, hl, hs, hp⟩
    unfold exec at hp
    refine ⟨ω, ρ, st, hl, hs, (PostS.of hl hp).mono fun x st1 ω1 H1 x1 s1 q1 v r1 => ?_⟩
    split at q1
    · exact q1.elim
    rename_i hmd
    obtain ⟨ds1, hlk1⟩ := isMD_of hmd
    obtain ⟨l1, p1, ad, rfl, wr1, own1, hx1⟩ := look_at s1 r1 hlk1 rfl
    obtain ⟨kws1, ha1, nd1, en1⟩ := own1.mdic
    refine ⟨ad, rfl, .inl ⟨_, .inl ha1⟩, ω1, ρ, st1, hl.ext x1, s1, (PostS.of (hl.ext x1) q1).mono fun y st2 ω2 H2 x2 s2 q2 w r2 => ?_⟩
    obtain ⟨st', e, qq⟩ := PostS.opt q2
    unfold ppopD at e
    split at e
    · rename_i kvs hlk
      split at e
      · rename_i s
        obtain ⟨l, p, ad2, ea, wr, own, hx⟩ := look_at s2 (r1.ext x2) hlk rfl
        cases ea
        obtain ⟨kws, ha, nd, ents⟩ := own.mdic
        have lk := ents.lookup (k := s)
        cases ql : kvs.lookup s with
        | none => rw [ql] at e; cases e
        | some d0 =>
          rw [ql] at e lk
          dsimp only at e
          split at e
          · rename_i od
            obtain ⟨v0, hv, ho⟩ := lk
            obtain ⟨rfl, ls⟩ := r2
            have ch : Chg ω2 H2 ad := chg_dk ha wr
            refine ⟨kws, .inr s, v0, ha, rfl, hv, ?_⟩
            refine qq ω2 σ _ (.cell ch wr) (((hl.ext x1).ext x2).ext (.cell ch wr)) (stow_ok s2 hlk rfl wr hx ch e ?_)
            refine ⟨ad, _, rfl, upd_same, wr, drop_nodup nd, ?_⟩
            refine EntsR.frame ch.kept _ _ _ (fun b j q _ wb => ⟨rfl, upd_ne fun z => ?_⟩) ents.drop
            rw [z, wr] at wb
            exact path_ne (Prod.ext_iff.mp (Option.some.inj wb)).2
          · cases e
      · cases e
    · cases e
  · cases h
theorem snd_pput : SndS N G k C cls dp (.pput m n l) := by
  intro X sc W st c h
  unfold chkS at h
  split at h
  · rename_i a b p1 ex pos
    simp only [Bool.and_eq_true] at h
    obtain ⟨⟨⟨⟨⟨h1, h2⟩, h3⟩, h4⟩, h5⟩, h6⟩ := h
    have u := units_of c.toCok
    refine ps_imp (ps_dput (by omega) (snd (dp := dp) m X sc W _ c.toCok h4).1 (snd (dp := dp) n X sc W _ c.toCok h5).1 (snd (dp := dp) l X sc W _ c.toCok h6).1 (swap_ok h2 _ _ _)) ?_
    rintro D σ H ⟨ω, ρ, st, hl, hs, hp⟩
    unfold exec at hp
    refine ⟨ω, ρ, st, hl, hs, (PostS.of hl hp).mono fun d st1 ω1 H1 x1 s1 q1 w r1 => ?_⟩
    refine ⟨ω1, ρ, st1, hl.ext x1, s1, (PostS.of (hl.ext x1) q1).mono fun x st2 ω2 H2 x2 s2 q2 v r2 => ?_⟩
    refine ⟨ω2, ρ, st2, (hl.ext x1).ext x2, s2, (PostS.of ((hl.ext x1).ext x2) q2).mono fun y st3 ω3 H3 x3 s3 q3 z r3 => ?_⟩
    obtain ⟨st', e, qq⟩ := PostS.opt q3
    unfold pputD at e
    split at e
    · rename_i kvs hlk
      split at e
      · rename_i s
        simp only [Option.ite_none_right_eq_some] at e
        · have od := e.1.1
          have hlen := e.1.2.1
          replace e := e.2
          obtain ⟨l, p, ad, rfl, wr, own, hx⟩ := look_at s3 (r2.ext x3) hlk rfl
          obtain ⟨kws, ha, nd, ents⟩ := own.mdic
          obtain ⟨rfl, ls⟩ := r3
          have ch : Chg ω3 H3 ad := chg_dk ha wr
          refine ⟨ad, _, rfl, DPut.k (k := .inr s) ha (by rw [ents.length]; exact hlen), ?_⟩
          refine qq ω3 σ _ (.cell ch wr) ((((hl.ext x1).ext x2).ext x3).ext (.cell ch wr)) (stow_ok s3 hlk rfl wr hx ch e ?_)
          refine ⟨ad, _, rfl, upd_same, wr, (putD_keys s d kvs nd).1, ?_⟩
          refine EntsR.frame ch.kept _ _ _ (fun b j q _ wb => ⟨rfl, upd_ne fun z => ?_⟩) (ents.put ls od ((r1.ext x2).ext x3) nd)
          rw [z, wr] at wb
          exact path_ne (Prod.ext_iff.mp (Option.some.inj wb)).2
      · cases e
    · cases e
  · cases h
theorem Reps.setAt {ds : List TL.D} {vs : List V} {d : TL.D} {v : V} (rv : Rep K ω H d v) : ∀ {ds : List TL.D} {vs : List V} (j : Nat), Reps K ω H ds vs → Reps K ω H (ds.set j d) (vs.set j v)
  | [], vs, j, h => by cases h; exact rfl
  | x :: ds, vs, 0, h => by
    obtain ⟨v', r, rfl, h1, h2⟩ := h
    exact ⟨v, r, rfl, rv, h2⟩
  | x :: ds, vs, j + 1, h => by
    obtain ⟨v', r, rfl, h1, h2⟩ := h
    exact ⟨v', _, rfl, h1, Reps.setAt (ds := ds) (vs := r) rv j h2⟩
theorem snd_plset : SndS N G k C cls dp (.plset m n l) := by
  intro X sc W st c h
  unfold chkS at h
  split at h
  · rename_i a b p1 ex pos
    simp only [Bool.and_eq_true] at h
    obtain ⟨⟨⟨⟨⟨h1, h2⟩, h3⟩, h4⟩, h5⟩, h6⟩ := h
    have hh : ∀ v, assign (.Subscript a b p1) X.env v = (do
      let ov ← holding [v] (eval a X.env)
      let iv ← holding [v, ov] (eval b X.env)
      standAt p1
      holding [v, ov, iv] (setItem ov iv v)
      release [v, ov, iv] []) := by
      intro v
      cases b <;> first | rfl | (simp [notSlice] at h1)
    refine ps_imp (ps_asg (snd (dp := dp) l X sc W _ c.toCok h6).1 (pg_sub (snd (dp := dp) m X sc W _ c.toCok h4).1 (snd (dp := dp) n X sc W _ c.toCok h5).1 set_list hh) (swapSole (swap_ok h2 _ _ _)) (swappedE h3 _) rfl) ?_
    rintro D σ H ⟨ω, ρ, st, hl, hs, hp⟩
    unfold exec at hp
    refine ⟨ω, ρ, st, hl, hs, (PostS.of hl hp).mono fun d st1 ω1 H1 x1 s1 q1 w r1 => ?_⟩
    refine ⟨ω1, ρ, st1, hl.ext x1, s1, (PostS.of (hl.ext x1) q1).mono fun x st2 ω2 H2 x2 s2 q2 v r2 => ?_⟩
    refine ⟨ω2, ρ, st2, (hl.ext x1).ext x2, s2, (PostS.of ((hl.ext x1).ext x2) q2).mono fun y st3 ω3 H3 x3 s3 q3 z r3 => ?_⟩
    obtain ⟨st', e, qq⟩ := PostS.opt q3
    unfold plsetD at e
    split at e
    · rename_i ds hlk
      split at e
      · rename_i i
        split at e
        · rename_i hc
          obtain ⟨od, h0, hlen⟩ := hc
          obtain ⟨l, p, ad, rfl, wr, own, hx⟩ := look_at s3 (r2.ext x3) hlk rfl
          obtain ⟨vs, ha, rs⟩ := own.mlst
          cases r3
          have ch : Chg ω3 H3 ad := chg_lst ha wr
          have hix : ixN vs.length i = some i.toNat := by
            unfold ixN
            rw [rs.length, if_pos h0, if_pos hlen]
          refine ⟨ad, vs, i, i.toNat, rfl, rfl, ha, hix, ?_⟩
          refine qq ω3 σ _ (.cell ch wr) ((((hl.ext x1).ext x2).ext x3).ext (.cell ch wr)) (stow_ok s3 hlk rfl wr hx ch e ?_)
          exact ⟨ad, _, rfl, upd_same, wr, Reps.kept ch.kept _ _ (Reps.setAt (ds := ds) (vs := vs) ((r1.ext x2).ext x3) i.toNat rs)⟩
        · cases e
      · cases e
    · cases e
  · cases h
end
end TL

namespace TL
open PySem L2 PyProof.Rows
section
variable {X : Cx} {N : List Str} {G : GT} {k : Nat} {C : Cal} {cls : Nat → Value} {dp : Nat} {sc : Scope} {W : WX} {e : Expr} {es : List Expr} {m n l a b : E} {ms : List E}
variable {K : KW} {ω ω' ω'' : Wd} {H H' H'' : Hp} {D : Ends} {ρ : Env} {σ : L2.St} {st : Sto} {t : Root}
/-- what is new at v: by its places xs -/
structure NewAt (K : KW) (ω : Wd) (H : Hp) (dp : Nat) (d : TL.D) (v : V) (xs : List (Addr × List Str)) : Prop where
  own : ∀ z ∈ xs, ∃ q, q ≠ [] ∧ ω.wr z.1 = some (.slot dp 0, q)
  adr : (xs.map (·.1)).Nodup
  pth : (xs.map (·.2)).Nodup
  at_ : ∀ (ω' : Wd) (H' : Hp) (l : Nat) (f : Str), (∀ z ∈ xs, H' z.1 = H z.1 ∧ ω'.wr z.1 = some (.cell l, f :: z.2)) → OwnAt K ω' H' (.cell l) [f] d v
def tNew (K : KW) (C : Cal) (dp : Nat) (W : WX) (cls : Nat → Value) (w : NK) (ie : List E) : TE := fun σ H Q => ∃ ω ρ st, Loc K ω dp ρ σ H ∧ StoOk K ω st H ∧
  Post K dp W cls σ ω H (evs C ie ρ st) fun ds st1 ω1 H1 => ∃ d, newD w ds = some d ∧ okN w ρ = true ∧ ∀ ω' H' v xs, Ext (dp + 1) ω1 H1 ω' H' → StoOk K ω' st1 H' → NewAt K ω' H' dp d v xs → Q v H'
theorem cntD_at : ∀ {xs : List TL.D} {kvs : List (Str × TL.D)}, cntD xs = some kvs → kvs.length = xs.length ∧ ∀ (i : Nat) (x : TL.D), xs[i]? = some x → ∃ n r, x = .tup (.str n :: r) ∧ kvs[i]? = some (n, .mlst [.int 0, .int 0, .int 0])
  | [], kvs, h => by cases h; exact ⟨rfl, fun i x h => by simp at h⟩
  | y :: xs, kvs, h => by
    unfold cntD at h
    split at h
    · cases ‹_ :: _ = []›
    · rename_i n r xs' e
      cases e
      cases q : cntD xs with
      | none => rw [q] at h; cases h
      | some l =>
        rw [q] at h
        cases h
        obtain ⟨h1, h2⟩ := cntD_at q
        refine ⟨by rw [List.length_cons, List.length_cons, h1], fun i x hx => ?_⟩
        cases i with
        | zero =>
          cases hx
          exact ⟨n, r, rfl, rfl⟩
        | succ i => exact h2 i x hx
    · cases h
abbrev Z3 : List V := [.int 0, .int 0, .int 0]
theorem pe_row {X : Cx} {e : Expr} {te : TE} {j1 j2 j3 : _} {p1 p2 p3 p4 p5 : Pos} {kk : _} (h : PE X e te) (hn : notStar e = true) :
    PE X (.Tuple [e, .List [.Constant (.int 0) j1 p1, .Constant (.int 0) j2 p2, .Constant (.int 0) j3 p3] p4] kk p5) (tTup (tCons te (tCons (tLst (tCons (tC (.int 0)) (tCons (tC (.int 0)) (tCons (tC (.int 0)) tNil)))) tNil))) :=
  pe_tup (pa_cons h (pa_cons (pe_lst (pa_cons pe_int (pa_cons pe_int (pa_cons pe_int pa_nil)))) pa_nil rfl) (star_of hn _ X.env))
abbrev zero3 : TL.D := .mlst [.int 0, .int 0, .int 0]
/-- rows made so far: a name, its tuple, its list -/
structure Acc (K : KW) (ω : Wd) (H : Hp) (H₀ : Hp) (dp : Nat) (z : Str × Addr × Addr) : Prop where
  tup : H z.2.1 = some (.tup [.str z.1, .ref z.2.2])
  lst : H z.2.2 = some (.lst Z3)
  own : ω.wr z.2.2 = some (.slot dp 0, [z.1])
  len : z.1.length ≤ sizeLine
theorem Acc.ext {H₀ : Hp} {z : Str × Addr × Addr} (x : Ext (dp + 1) ω H ω' H') (h : Acc K ω H H₀ dp z) : Acc K ω' H' H₀ dp z := by
  obtain ⟨e1, e2⟩ := x.fix _ _ _ _ h.own (Nat.lt_succ_self _)
  exact ⟨x.kept.tup _ _ h.tup, e2.trans h.lst, e1.trans h.own, h.len⟩
theorem merge_acc : ∀ (acc : List (Str × Addr × Addr)), (acc.map (·.1)).Nodup → mergeK [] (acc.map fun z => ((Sum.inr z.1 : Key), V.ref z.2.2)) = acc.map fun z => (Sum.inr z.1, V.ref z.2.2) := by
  intro acc nd
  have e : acc.map (fun z => ((Sum.inr z.1 : Key), V.ref z.2.2)) = kvV (acc.map (·.1)) (acc.map fun z => V.ref z.2.2) := by
    clear nd
    induction acc with
    | nil => rfl
    | cons z acc ih => rw [List.map_cons, List.map_cons, List.map_cons, kvV, ih]
  rw [e, merge_new nd (by simp), List.nil_append]
theorem if_tr {c : Prop} [Decidable c] {p q : Prop} (hc : c) (h : p) : ite c p q := by rw [if_pos hc]; exact h
theorem wipe_wipe (own : List Nat) (σ : L2.St) : L2.wipe (L2.wipe σ own) own = L2.wipe σ own := by
  induction own generalizing σ with
  | nil => rfl
  | cons o own ih =>
    show (L2.wipe ((L2.wipe σ own).set o none) own).set o none = (L2.wipe σ own).set o none
    by_cases ho : o ∈ own
    · rw [wipe_set ho, ih]
    · rw [wipe_off ho, ih, List.set_set]
theorem cnt_run {J : It} {xs : List TL.D} {i₀ : Nat} {kvs : List (Str × TL.D)} {Q : VK} (hi : i₀ < ρ.length) (hl : Loc K ω dp ρ σ H) (s : StoOk K ω st H) (F : Feeds K J xs ω H) (hk : cntD xs = some kvs) (nd : (kvs.map (·.1)).Nodup)
    (q : ∀ (ω' : Wd) (H' : Hp) (Da : Addr) (acc : List (Str × Addr × Addr)), Ext (dp + 1) ω H ω' H' → StoOk K ω' st H' → (∀ z ∈ acc, Acc K ω' H' H dp z) → (acc.map (·.2.2)).Nodup → acc.map (fun z => (z.1, zero3)) = kvs → H' Da = some (.lst (acc.map fun z => V.ref z.2.1)) → Q (.ref Da) H') :
    ∀ D, H D = none → ∃ Wv : Nat → Nat → Hp → Prop, (∃ m, Wv 0 m (upd H D (.lst []))) ∧ ∀ i m H, Wv i m H →
      (J.stop i H ∧ Q (.ref D) H) ∨ (J.go i H ∧ ∃ Nx : Hp → Prop, (∀ H', Nx H' → ∃ m', m' < m ∧ Wv (i + 1) m' H') ∧ ∀ x H', J.yld i H x H' → gT K (.nm i₀) x (L2.wipe σ [i₀]) H' fun σ2 H2 => L2.wipe σ2 [i₀] = L2.wipe σ [i₀] ∧
        tYes σ2 H2 fun b H3 => if b = true then tTup (tCons (tE K C dp (fun _ _ _ _ => False) cls (.o2 .ix (.var i₀) (.con (.int 0)))) (tCons (tLst (tCons (tC (.int 0)) (tCons (tC (.int 0)) (tCons (tC (.int 0)) tNil)))) tNil)) σ2 H3 fun y H4 => ∃ acc, H4 D = some (.lst acc) ∧ acc.length < sizeLine ∧ Nx (upd H4 D (.lst (acc ++ [y]))) else Nx H3) := by
  intro D hD
  obtain ⟨hkl, hka⟩ := cntD_at hk
  let IV : Nat → Hp → Prop := fun i H2 => ∃ (ω2 : Wd) (acc : List (Str × Addr × Addr)), Ext (dp + 1) ω H ω2 H2 ∧ StoOk K ω2 st H2 ∧ ω2.wr D = some (.slot dp 0, [("" : Str)]) ∧ H2 D = some (.lst (acc.map fun z => V.ref z.2.1)) ∧
      (∀ z ∈ acc, Acc K ω2 H2 H dp z) ∧ (acc.map (·.2.2)).Nodup ∧ acc.map (fun z => (z.1, zero3)) = kvs.take i ∧ acc.length = i
  refine ⟨fun i mm H2 => mm = xs.length - i ∧ i ≤ xs.length ∧ IV i H2, ⟨xs.length, by simp, Nat.zero_le _, ω.put D (.slot dp 0, [("" : Str)]), [], .put s.trk hD, s.put hD, Wd.put_same, upd_same, by simp, by simp, by simp, rfl⟩, ?_⟩
  rintro i mm H2 ⟨rfl, hi2, ω2, acc, x2, s2, w2, h2, ac, adr, ke, al⟩
  by_cases hlt : i < xs.length
  · obtain ⟨n, r, ex, ek⟩ := hka i xs[i] (List.getElem?_eq_getElem hlt)
    have qb : bindT (.nm i₀) xs[i] (wipeE ρ [i₀]) = some ((wipeE ρ [i₀]).set i₀ (some xs[i])) := by
      rw [ex]
      rfl
    refine .inr ⟨F.go ω2 H2 x2.kept i hlt, IV (i + 1), fun H3 h3 => ⟨xs.length - (i + 1), by omega, rfl, hlt, h3⟩, fun x H3 y => ?_⟩
    obtain ⟨gr, rx⟩ := F.yld ω2 H2 x2.kept i x H3 xs[i] (List.getElem?_eq_getElem hlt) y
    have s3 := s2.grow gr
    have x3 : Ext (dp + 1) ω2 H2 ω2 H3 := .ofGrow s2 gr
    have l3 : Loc K ω2 dp (wipeE ρ [i₀]) (L2.wipe σ [i₀]) H3 := (hl.ext (x2.trans x3)).wipe [i₀]
    refine gT_of l3 rx qb fun σ4 l4 hw => ⟨?_, ?_⟩
    · rw [hw [i₀] (by simp)]
      exact wipe_wipe _ _
    · suffices hh : tTup (tCons (tE K C dp (fun _ _ _ _ => False) cls (.o2 .ix (.var i₀) (.con (.int 0)))) (tCons (tLst (tCons (tC (.int 0)) (tCons (tC (.int 0)) (tCons (tC (.int 0)) tNil)))) tNil)) σ4 H3 (fun y H4 => ∃ acc, H4 D = some (.lst acc) ∧ acc.length < sizeLine ∧ IV (i + 1) (upd H4 D (.lst (acc ++ [y])))) from hh
      refine ⟨ω2, _, st, l4, s3, ?_⟩
      have ev1 : ev C (.o2 .ix (.var i₀) (.con (.int 0))) ((wipeE ρ [i₀]).set i₀ (some xs[i])) st = .ok (.str n) st := by
        have hlen : i₀ < (wipeE ρ [i₀]).length := by
          show i₀ < (ρ.set i₀ none).length
          rw [List.length_set]
          exact hi
        unfold ev
        have e1 : ev C (.var i₀) ((wipeE ρ [i₀]).set i₀ (some xs[i])) st = .ok xs[i] st := by
          unfold ev
          rw [List.getElem?_set_self hlen]
          dsimp only
          rw [ex]
          rfl
        have e2 : ev C (.con (.int 0)) ((wipeE ρ [i₀]).set i₀ (some xs[i])) st = .ok (.int 0) st := by
          unfold ev
          rfl
        rw [e1]
        unfold R.bind
        dsimp only
        rw [e2]
        dsimp only
        rw [ex]
        show R.lift st (atI (TL.D.str n :: r) ((0 : Nat) : Int)) = _
        rw [L2.atI_nat (xs := TL.D.str n :: r) (j := 0) (v := TL.D.str n) rfl]
        rfl
      rw [ev1]
      intro ω5 H5 x5 s5 v rv
      obtain ⟨rfl, ln⟩ := rv
      have x15 : Ext (dp + 1) ω H ω5 H5 := (x2.trans x3).trans x5
      have x25 : Ext (dp + 1) ω2 H2 ω5 H5 := x3.trans x5
      obtain ⟨f1, f2⟩ := x25.fix D dp 0 _ w2 (Nat.lt_succ_self _)
      have w5 := f1.trans w2
      have h5 := f2.trans h2
      refine ⟨by show 3 ≤ sizeLine; decide, fun p hp => ⟨by show 2 ≤ sizeLine; decide, fun qa hq => ?_⟩⟩
      have nDp : D ≠ p := ne_of_none h5 hp
      have h6 : (upd H5 p (.lst Z3)) D = some (.lst (acc.map fun z => V.ref z.2.1)) := (upd_ne nDp).trans h5
      have nDq : D ≠ qa := ne_of_none h6 hq
      have npq : p ≠ qa := ne_of_none (show (upd H5 p (.lst Z3)) p = some (.lst Z3) from upd_same) hq
      have h7 : (upd (upd H5 p (.lst Z3)) qa (.tup [.str n, .ref p])) D = some (.lst (acc.map fun z => V.ref z.2.1)) := (upd_ne nDq).trans h6
      have xp : Ext (dp + 1) ω5 H5 (ω5.put p (.slot dp 0, [n])) (upd H5 p (.lst Z3)) := .put s5.trk hp
      have sp : StoOk K (ω5.put p (.slot dp 0, [n])) st (upd H5 p (.lst Z3)) := s5.put hp
      have xq : Ext (dp + 1) (ω5.put p (.slot dp 0, [n])) (upd H5 p (.lst Z3)) (ω5.put p (.slot dp 0, [n])) (upd (upd H5 p (.lst Z3)) qa (.tup [.str n, .ref p])) := .ofGrow sp (same_new hq _)
      have sq : StoOk K (ω5.put p (.slot dp 0, [n])) st (upd (upd H5 p (.lst Z3)) qa (.tup [.str n, .ref p])) := sp.grow (same_new hq _)
      have x57 := xp.trans xq
      obtain ⟨f3, f4⟩ := x57.fix D dp 0 _ w5 (Nat.lt_succ_self _)
      have w7 := f3.trans w5
      refine ⟨_, h7, ?_, ω5.put p (.slot dp 0, [n]), acc ++ [(n, qa, p)], ((x15.trans x57)).writeNew s.trk hD, sq.write w7 (.write w7 h7), w7, ?_, fun z hz => ?_, ?_, ?_, ?_⟩
      · rw [List.length_map, al]
        have := F.len
        omega
      · rw [upd_same, List.map_append]
        rfl
      · rcases List.mem_append.mp hz with hz | hz
        · have a7 := ((ac z hz).ext x25).ext x57
          have n1 : z.2.1 ≠ D := fun e => by rw [← e, a7.tup] at h7; cases h7
          have n2 : z.2.2 ≠ D := fun e => by
            have := a7.lst
            rw [e, h7] at this
            have hz0 := List.ne_nil_of_mem hz
            cases acc with
            | nil => cases hz
            | cons z0 acc => simp [Z3] at this
          exact ⟨(upd_ne n1).trans a7.tup, (upd_ne n2).trans a7.lst, a7.own, a7.len⟩
        · rw [List.mem_singleton.mp hz]
          refine ⟨(upd_ne (Ne.symm nDq)).trans upd_same, ((upd_ne (Ne.symm nDp)).trans (upd_ne npq)).trans upd_same, Wd.put_same, ln⟩
      · rw [List.map_append, List.nodup_append]
        refine ⟨adr, by simp, fun a ha b hb => ?_⟩
        obtain ⟨z, hz, rfl⟩ := List.mem_map.mp ha
        have hb : b = p := by simpa using hb
        rw [hb]
        exact ne_of_none ((ac z hz).ext x25).lst hp
      · rw [List.map_append, ke, List.take_succ, ek]
        rfl
      · rw [List.length_append, al]
        rfl
  · have e1 : i = xs.length := by omega
    subst e1
    refine .inl ⟨F.stop ω2 H2 x2.kept, q ω2 H2 D acc x2 s2 ac adr ?_ h2⟩
    rw [ke, ← hkl, List.take_length]
theorem boot_dict2 : bootBuiltins "dict" = some (.type "dict") := by decide +kernel
theorem paired_acc {acc : List (Str × Addr × Addr)} (h : ∀ z ∈ acc, Acc K ω H H'' dp z) : Paired (fun (p : Addr) (kv : Key × V) => SqT K.K H p [kV kv.1, kv.2]) (acc.map fun z => z.2.1) (acc.map fun z => ((Sum.inr z.1 : Key), V.ref z.2.2)) := by
  induction acc with
  | nil => exact .nil
  | cons z acc ih => exact .cons (SqT.of (h z List.mem_cons_self).tup) (ih fun y hy => h y (List.mem_cons_of_mem _ hy))
theorem snd_new {w : NK} {ie : List E} {ex : Expr} (c : Cok X G k C cls N sc W) (h : chkNew N G w ie sc ex = true) : PE X ex (tNew X.kw C dp W cls w ie) ∧ notComp ex = true := by
  unfold chkNew at h
  split at h
  · rw [Bool.and_eq_true] at h
    obtain ⟨h1, h2⟩ := h
    have e1 : ie = [] := List.isEmpty_iff.mp h1
    subst e1
    split at h2
    · refine ⟨pe_imp pe_dnewK ?_, rfl⟩
      rintro σ H Q ⟨ω, ρ, st, hl, hs, hp⟩ p hpn
      unfold evs at hp
      obtain ⟨d, e, _, q⟩ := hp ω H .refl hs
      cases e
      refine q (ω.put p (.slot dp 0, [("" : Str)])) _ _ [(p, [])] (.put hs.trk hpn) (hs.put hpn) ⟨fun z hz => ?_, by simp, by simp, fun ω' H' l f hz => ?_⟩
      · rw [List.mem_singleton.mp hz]
        exact ⟨_, by simp, Wd.put_same⟩
      · obtain ⟨a1, a2⟩ := hz (p, []) (by simp)
        exact ⟨p, [], rfl, a1.trans upd_same, a2, by simp, rfl⟩
    · cases h2
  · rw [Bool.and_eq_true] at h
    obtain ⟨h1, h2⟩ := h
    have e1 : ie = [] := List.isEmpty_iff.mp h1
    subst e1
    split at h2
    · refine ⟨pe_imp (pe_lst pa_nil) ?_, rfl⟩
      rintro σ H Q ⟨ω, ρ, st, hl, hs, hp⟩
      unfold evs at hp
      obtain ⟨d, e, _, q⟩ := hp ω H .refl hs
      cases e
      refine ⟨Nat.zero_le _, fun p hpn => ?_⟩
      refine q (ω.put p (.slot dp 0, [("" : Str)])) _ _ [(p, [])] (.put hs.trk hpn) (hs.put hpn) ⟨fun z hz => ?_, by simp, by simp, fun ω' H' l f hz => ?_⟩
      · rw [List.mem_singleton.mp hz]
        exact ⟨_, by simp, Wd.put_same⟩
      · obtain ⟨a1, a2⟩ := hz (p, []) (by simp)
        exact ⟨p, [], rfl, a1.trans upd_same, a2, rfl⟩
    · cases h2
  · split at h
    · rename_i i ik ex0 x p0 r p1 j0 p2 p3 j1 q1 j2 q2 j3 q3 q4 kk p4 t it scope pos p5
      simp only [Bool.and_eq_true, decide_eq_true_eq] at h
      obtain ⟨⟨⟨⟨⟨⟨rfl, h2⟩, h3⟩, h4⟩, h5⟩, h6⟩, h7⟩ := h
      have F := fre_of c h2
      cases qi : itArgs G sc ik (.nm i) it with
      | none => rw [qi] at h7; cases h7
      | some es =>
        rw [qi] at h7
        have LC : PE X (.ListComp (.Tuple [.Subscript (.Name r p1) (.Constant (.int 0) j0 p2) p3, .List [.Constant (.int 0) j1 q1, .Constant (.int 0) j2 q2, .Constant (.int 0) j3 q3] q4] kk p4) [⟨t, it, [], 0⟩] scope pos)
            (tLc (tI X.kw C dp W cls ik ie) (gT X.kw (.nm i)) tYes (tTup (tCons (tE X.kw C dp (fun _ _ _ _ => False) cls (.o2 .ix (.var i) (.con (.int 0)))) (tCons (tLst (tCons (tC (.int 0)) (tCons (tC (.int 0)) (tCons (tC (.int 0)) tNil)))) tNil))) [i]) :=
          pe_lc (own := [((N[i]?).getD ("" : Str), i)]) c.calm (by rw [c.hN]; exact c.nd) (snd_it (own := [i]) (fun m _ => snd m) c qi h7 (fun is e => nomatch e)) (by rw [c.hN, c.hsc]; exact blkOk_by h3)
            (fun s H Cc cl fp => tg_of (X := X.blk s H scope (compEnvC scope cl Cc X.env) fp) (c.blk s H scope Cc cl fp).hN c.nd (c.blk s H scope Cc cl fp).hsc (fun z => by cases z) c.calm h4)
            (fun s H Cc cl fp => pts_nil) (fun s H Cc cl fp => pe_row ((snd (dp := dp) (.o2 .ix (.var i) (.con (.int 0)))) _ _ _ _ (c.blk s H scope Cc cl fp) h6).1 rfl) (fold_ok h5 X.env)
        refine ⟨pe_imp (pe_callTy (T := "dict") (call_dictP c.calm) F.g F.m boot_dict2 (pa_cons LC pa_nil rfl) F.n.n F.n.d rfl rfl) ?_, rfl⟩
        rintro σ H Q ⟨ω, ρ, st, hl, hs, hp⟩
        refine ⟨ω, ρ, st, hl, hs, hp.mono fun ds st1 ω1 H1 x1 s1 ⟨d, e, ok, q⟩ => ?_⟩
        unfold newD at e
        dsimp only at e
        cases qx : items ik ds with
        | none => rw [qx] at e; cases e
        | some xs =>
          rw [qx] at e
          dsimp only at e
          cases qk : cntD xs with
          | none => rw [qk] at e; cases e
          | some kvs =>
            rw [qk] at e
            dsimp only at e
            split at e
            · rename_i hc
              cases e
              refine ⟨xs, rfl, fun J F => ?_⟩
              refine cnt_run (C := C) (cls := cls) (Q := fun x H1 => ∃ (a : Addr) (ps : List Addr) (kvs : List (Key × V)), [x] = [V.ref a] ∧ SqL X.K H1 a (ps.map V.ref) ∧ Paired (fun p kv => SqT X.K H1 p [kV kv.1, kv.2]) ps kvs ∧ ∀ (p : Addr), H1 p = none → Q (V.ref p) (upd H1 p (.dK (mergeK [] kvs)))) (of_decide_eq_true ok) (hl.ext x1) s1 F qk hc.1 fun ω2 H2 Da acc x2 s2 ac adr ke hD => ?_
              have keys : acc.map (·.1) = kvs.map (·.1) := by rw [← ke, List.map_map]; rfl
              have ndk : (acc.map (·.1)).Nodup := by rw [keys]; exact hc.1
              refine ⟨Da, acc.map fun z => z.2.1, acc.map fun z => (Sum.inr z.1, V.ref z.2.2), rfl, SqL.of (by rw [List.map_map]; exact hD), paired_acc ac, fun p hpn => ?_⟩
              rw [merge_acc acc ndk]
              have xp : Ext (dp + 1) ω2 H2 (ω2.put p (.slot dp 0, [("" : Str)])) (upd H2 p (.dK (acc.map fun z => (Sum.inr z.1, V.ref z.2.2)))) := .put s2.trk hpn
              refine q (ω2.put p (.slot dp 0, [("" : Str)])) _ _ ((p, []) :: acc.map fun z => (z.2.2, [z.1])) (x2.trans xp) (s2.put hpn) ⟨fun z hz => ?_, ?_, ?_, fun ω' H' l f hz => ?_⟩
              · rcases List.mem_cons.mp hz with rfl | hz
                · exact ⟨_, by simp, Wd.put_same⟩
                · obtain ⟨z0, hz0, rfl⟩ := List.mem_map.mp hz
                  exact ⟨[z0.1], by simp, ((ac z0 hz0).ext xp).own⟩
              · rw [List.map_cons, List.map_map, List.nodup_cons]
                refine ⟨fun hm => ?_, adr⟩
                obtain ⟨z0, hz0, e0⟩ := List.mem_map.mp hm
                have := (ac z0 hz0).lst
                rw [show z0.2.2 = p from e0, hpn] at this
                cases this
              · rw [List.map_cons, List.map_map, List.nodup_cons]
                refine ⟨fun hm => ?_, ?_⟩
                · obtain ⟨z0, hz0, e0⟩ := List.mem_map.mp hm
                  cases e0
                · have e2 : acc.map ((fun z : Addr × List Str => z.2) ∘ fun z : Str × Addr × Addr => (z.2.2, [z.1])) = (acc.map (·.1)).map fun s => [s] := by rw [List.map_map]; rfl
                  rw [e2]
                  exact List.Pairwise.map _ (fun a b h e => h (by cases e; rfl)) ndk
              · obtain ⟨a1, a2⟩ := hz (p, []) List.mem_cons_self
                refine ⟨p, _, rfl, a1.trans upd_same, a2, hc.1, ?_⟩
                rw [← ke]
                have key : ∀ acc' : List (Str × Addr × Addr), (∀ z ∈ acc', z ∈ acc) → EntsR X.kw ω' H' (.cell l) [f] (acc'.map fun z => (z.1, zero3)) (acc'.map fun z => ((Sum.inr z.1 : Key), V.ref z.2.2)) := by
                  intro acc'
                  induction acc' with
                  | nil => intro _; rfl
                  | cons z acc' ih =>
                    intro hh
                    have az := (ac z (hh z List.mem_cons_self)).ext xp
                    obtain ⟨b1, b2⟩ := hz (z.2.2, [z.1]) (List.mem_cons_of_mem _ (List.mem_map.mpr ⟨z, hh z List.mem_cons_self, rfl⟩))
                    exact ⟨V.ref z.2.2, _, rfl, az.len, ⟨z.2.2, Z3, rfl, b1.trans az.lst, b2, .int 0, _, rfl, rfl, .int 0, _, rfl, rfl, .int 0, _, rfl, rfl, rfl⟩, ih fun y hy => hh y (List.mem_cons_of_mem _ hy)⟩
                exact key acc fun _ h => h
            · cases e
    · cases h
end
end TL

namespace TL
open PySem L2 PyProof.Rows
section
variable {X : Cx} {N : List Str} {G : GT} {k : Nat} {C : Cal} {cls : Nat → Value} {dp : Nat} {sc : Scope} {W : WX} {e : Expr} {es : List Expr} {m n l a b : E} {ms : List E}
variable {K : KW} {ω ω' ω'' : Wd} {H H' H'' : Hp} {D : Ends} {ρ : Env} {σ : L2.St} {st : Sto} {t : Root}
/-- the places xs become the field f of the cell l -/
def Wd.puts (ω : Wd) (l : Nat) (f : Str) (xs : List (Addr × List Str)) : Wd := { ω with wr := fun b => match xs.lookup b with | some p => some (.cell l, f :: p) | none => ω.wr b }
theorem lookup_of : ∀ {xs : List (Addr × List Str)} {z : Addr × List Str}, (xs.map (·.1)).Nodup → z ∈ xs → xs.lookup z.1 = some z.2
  | y :: xs, z, nd, h => by
    rw [List.map_cons, List.nodup_cons] at nd
    rw [List.lookup_cons]
    rcases List.mem_cons.mp h with rfl | h
    · rw [beq_self_eq_true]
    · have ne : z.1 ≠ y.1 := fun e => nd.1 (List.mem_map.mpr ⟨z, h, e⟩)
      rw [show (z.1 == y.1) = false from by simpa using ne]
      exact lookup_of nd.2 h
theorem lookup_mem : ∀ {xs : List (Addr × List Str)} {b : Addr} {p : List Str}, xs.lookup b = some p → (b, p) ∈ xs
  | [], b, p, h => by cases h
  | y :: xs, b, p, h => by
    rw [List.lookup_cons] at h
    by_cases e : b = y.1
    · subst e
      rw [beq_self_eq_true] at h
      cases h
      exact List.mem_cons_self
    · rw [show (b == y.1) = false from by simpa using e] at h
      exact List.mem_cons_of_mem _ (lookup_mem h)
section
variable {l : Nat} {f : Str} {xs : List (Addr × List Str)} (own : ∀ z ∈ xs, ∃ q, q ≠ [] ∧ ω.wr z.1 = some (.slot dp 0, q)) (adr : (xs.map (·.1)).Nodup)
theorem puts_at (adr : (xs.map (·.1)).Nodup) {z : Addr × List Str} (h : z ∈ xs) : (ω.puts l f xs).wr z.1 = some (.cell l, f :: z.2) := by
  show (match xs.lookup z.1 with | some p => some (Root.cell l, f :: p) | none => ω.wr z.1) = _
  rw [lookup_of adr h]
theorem puts_off {b : Addr} (h : ∀ z ∈ xs, z.1 ≠ b) : (ω.puts l f xs).wr b = ω.wr b := by
  show (match xs.lookup b with | some p => some (Root.cell l, f :: p) | none => ω.wr b) = _
  cases q : xs.lookup b with
  | none => rfl
  | some p => exact absurd rfl (h _ (lookup_mem q))
theorem puts_inv {b : Addr} {r : Root × List Str} (h : (ω.puts l f xs).wr b = some r) : (∃ p, (b, p) ∈ xs ∧ r = (.cell l, f :: p)) ∨ ω.wr b = some r := by
  have h : (match xs.lookup b with | some p => some (Root.cell l, f :: p) | none => ω.wr b) = some r := h
  cases q : xs.lookup b with
  | none => rw [q] at h; exact .inr h
  | some p =>
    rw [q] at h
    cases h
    exact .inl ⟨p, lookup_mem q, rfl⟩
include own in
theorem puts_cell {b : Addr} {l' : Nat} {p : List Str} (h : ω.wr b = some (.cell l', p)) : (ω.puts l f xs).wr b = ω.wr b := puts_off fun z hz e => by
  obtain ⟨q, _, w⟩ := own z hz
  rw [e, h] at w
  cases w
include own in
theorem Kept.puts : Kept ω H (ω.puts l f xs) H where
  mu := List.prefix_refl _
  tup := fun _ _ e => e
  frz := fun _ _ _ e => e
  lst := fun a ys e w => ⟨e, (puts_off fun z hz ez => by
    obtain ⟨q, _, w'⟩ := own z hz
    rw [ez, w] at w'
    cases w').trans w⟩
  dic := fun a ys e w => ⟨e, (puts_off fun z hz ez => by
    obtain ⟨q, _, w'⟩ := own z hz
    rw [ez, w] at w'
    cases w').trans w⟩
  cell := fun a l' p e => (puts_cell own e).trans e
include own in
theorem Ext.puts : Ext dp ω H (ω.puts l f xs) H where
  kept := .puts own
  fix := fun a k i p e hk => by
    refine ⟨puts_off fun z hz ez => ?_, rfl⟩
    obtain ⟨q, _, w'⟩ := own z hz
    rw [ez, e] at w'
    cases w'
    exact absurd hk (Nat.lt_irrefl _)
include own in
theorem Loc.puts (hl : Loc K ω dp ρ σ H) : Loc K (ω.puts l f xs) dp ρ σ H :=
  ⟨hl.len, fun j d e => by
    obtain ⟨v', e', r'⟩ := hl.at_ j d e
    have kw : Kept ω H (ω.puts l f xs) H := .puts own
    have off : ∀ a, ω.wr a = some (.slot dp j, []) → (ω.puts l f xs).wr a = some (.slot dp j, []) := fun a wa => (puts_off fun z hz ez => by
      obtain ⟨q, hq, w'⟩ := own z hz
      rw [ez, wa] at w'
      cases w'
      exact hq rfl).trans wa
    refine ⟨v', e', ?_⟩
    cases d with
    | mlst ds' =>
      obtain ⟨a', vs', e1, h1, w1, r1⟩ := r'
      exact ⟨a', vs', e1, h1, off a' w1, Reps.kept kw _ _ r1⟩
    | mset ds' =>
      obtain ⟨a', vs', e1, h1, w1, r1⟩ := r'
      exact ⟨a', vs', e1, h1, off a' w1, KeysR.kept kw r1⟩
    | _ => first | exact Rep.kept kw _ _ r' | exact r'.elim⟩
end
theorem FldsR.snoc {l : Nat} {f : Str} {d : TL.D} {v : V} (h : OwnAt K ω H (.cell l) [f] d v) : ∀ {fs : List (Str × TL.D)} {vs : List (Str × V)}, fs.lookup f = none → FldsR K ω H l fs vs → FldsR K ω H l (fs ++ [(f, d)]) (putF f v vs)
  | [], vs, _, r => by
    rw [show vs = [] from r]
    exact ⟨v, [], rfl, h, rfl⟩
  | (g, x) :: fs, vs, hn, r => by
    obtain ⟨v', r', rfl, h1, h2⟩ := r
    rw [List.lookup_cons] at hn
    by_cases e : f = g
    · subst e
      rw [beq_self_eq_true] at hn
      cases hn
    · rw [show (f == g) = false from by simpa using e] at hn
      unfold putF
      rw [if_neg (fun z => e z.symm)]
      exact ⟨v', _, rfl, h1, FldsR.snoc h hn h2⟩
theorem lookup_none_mem : ∀ {fs : List (Str × TL.D)} {f : Str}, fs.lookup f = none → f ∉ fs.map (·.1)
  | [], _, _ => by simp
  | (g, x) :: fs, f, h => by
    rw [List.lookup_cons] at h
    by_cases e : f = g
    · subst e
      rw [beq_self_eq_true] at h
      cases h
    · rw [show (f == g) = false from by simpa using e] at h
      rw [List.map_cons, List.mem_cons, not_or]
      exact ⟨e, lookup_none_mem h⟩
theorem snd_setN {c₀ f : Str} {w : NK} {ie : List E} : SndS N G k C cls dp (.setN c₀ m f w ie) := by
  intro X sc W st c h
  unfold chkS at h
  split at h
  · rename_i a f' p' ex pos
    simp only [Bool.and_eq_true, decide_eq_true_eq] at h
    obtain ⟨⟨⟨rfl, h3⟩, h4⟩, h5⟩ := h
    obtain ⟨ct, hct, hc⟩ := cls_of c.toCok h3
    simp only [Bool.and_eq_true, decide_eq_true_eq] at hc
    obtain ⟨rfl, hf⟩ := hc
    obtain ⟨Ca, hmg, hns, hcl, hna, _, _⟩ := c.clss ct hct
    obtain ⟨NE, nc⟩ := snd_new (dp := dp) c.toCok h5
    refine ps_imp (ps_fld (snd (dp := dp) m X sc W a c.toCok h4).1 NE (swap_ok nc _ _ _)) ?_
    rintro D σ H ⟨ω, ρ, st, hl, hs, hp⟩
    unfold exec at hp
    refine ⟨ω, ρ, st, hl, hs, (PostS.ofs hl hp).mono fun ds st1 ω1 H1 x1 s1 q1 => ?_⟩
    cases hd : newD w ds with
    | none => rw [hd] at q1; exact q1.elim
    | some d =>
      rw [hd] at q1
      dsimp only at q1
      split at q1
      · exact q1.elim
      rename_i hok
      refine ⟨d, rfl, by simpa using hok, fun ω' H' y xs x' s' nw => ?_⟩
      have q1' := PostS.at q1 (x'.mono (Nat.le_succ _))
      have l' := hl.ext (x1.trans x')
      refine ⟨ω', ρ, st1, l', s', (PostS.of l' q1').mono fun x st2 ω2 H2 x2 s2 q2 v r2 => ?_⟩
      obtain ⟨st', hset, qq⟩ := PostS.opt q2
      unfold setND at hset
      split at hset
      · rename_i l
        split at hset
        · rename_i c' fs hst
          split at hset
          · rename_i hcond
            cases hset
            obtain ⟨hc', hlen, hno⟩ := hcond
            subst hc'
            obtain ⟨a2, C2, dx, vs, m2, Ha, w2, n2, nd, fr⟩ := s2.at_ l _ hst
            obtain ⟨a3, m3, rfl⟩ := r2
            rw [m2] at m3
            cases m3
            have hns' := hns
            rw [n2] at hns'
            cases hns'
            have l2 := l'.ext x2
            -- the new places, as they are now
            have same : ∀ z ∈ xs, H2 z.1 = H' z.1 ∧ ω2.wr z.1 = ω'.wr z.1 := fun z hz => by
              obtain ⟨q, _, w⟩ := nw.own z hz
              obtain ⟨e1, e2⟩ := x2.fix _ _ _ _ w (Nat.lt_succ_self _)
              exact ⟨e2, e1⟩
            have own2 : ∀ z ∈ xs, ∃ q, q ≠ [] ∧ ω2.wr z.1 = some (.slot dp 0, q) := fun z hz => by
              obtain ⟨q, hq, w⟩ := nw.own z hz
              exact ⟨q, hq, (same z hz).2.trans w⟩
            have xp : Ext dp ω2 H2 (ω2.puts l f' xs) H2 := .puts own2
            have w3 : (ω2.puts l f' xs).wr a2 = some (.cell l, []) := (puts_cell own2 w2).trans w2
            have ch : Chg (ω2.puts l f' xs) H2 a2 := chg_cell Ha w3
            have xw : Ext dp (ω2.puts l f' xs) H2 (ω2.puts l f' xs) (upd H2 a2 (.ins Ca dx (putF f' y vs))) := .cell ch w3
            have kall : Kept ω2 H2 (ω2.puts l f' xs) (upd H2 a2 (.ins Ca dx (putF f' y vs))) := (xp.trans xw).kept
            have nz : ∀ z ∈ xs, z.1 ≠ a2 := fun z hz e => by
              obtain ⟨q, _, w⟩ := own2 z hz
              rw [e, w2] at w
              cases w
            refine ⟨a2, Ca, dx, vs, rfl, Ha, hcl, hna _ hf, by rw [fr.len]; exact hlen, ?_⟩
            refine qq (ω2.puts l f' xs) σ _ (xp.trans xw) ((Loc.puts own2 l2).ext (.cell ch w3)) ⟨?_, fun b e => ?_, fun l1 d1 e => ?_, fun b b' l1 p e e' => ?_, fun b l1 p e => ?_⟩
            · rw [List.length_set]; exact s2.len
            · by_cases q : b = a2
              · rw [q, upd_same]; simp
              · rw [upd_ne q]
                by_cases hz : ∃ z ∈ xs, z.1 = b
                · obtain ⟨z, hz, rfl⟩ := hz
                  obtain ⟨q, _, w⟩ := own2 z hz
                  exact s2.trk _ (by rw [w]; simp)
                · rw [puts_off fun z hz' ez => hz ⟨z, hz', ez⟩] at e
                  exact s2.trk b e
            · by_cases ql : l1 = l
              · subst ql
                rw [List.getElem?_set_self (List.getElem?_eq_some_iff.mp hst).1] at e
                cases e
                refine ⟨a2, Ca, dx, _, m2, upd_same, w3, hns, ?_, ?_⟩
                · rw [List.map_append, List.nodup_append]
                  refine ⟨nd, by simp, fun a ha b hb => ?_⟩
                  have : b = f' := by simpa using hb
                  rw [this]
                  intro z
                  rw [z] at ha
                  exact lookup_none_mem hno ha
                · refine FldsR.snoc (nw.at_ _ _ _ _ fun z hz => ⟨(upd_ne (nz z hz)).trans (same z hz).1, puts_at nw.adr hz⟩) hno ?_
                  refine FldsR.frame kall (fun b j q _ e => ⟨puts_cell own2 e, upd_ne fun z => ?_⟩) fr
                  rw [z, w2] at e
                  cases e
              · rw [List.getElem?_set_ne (fun z => ql z.symm)] at e
                refine (s2.at_ l1 d1 e).kept ⟨kall, fun b p e => ⟨puts_cell own2 e, upd_ne fun z => ?_⟩⟩
                rw [z, w2] at e
                cases e
                exact ql rfl
            · have none_old : ∀ b p, ω2.wr b ≠ some (.cell l, f' :: p) := fun b p z => by
                obtain ⟨d1, e1, k1⟩ := s2.dom b l _ z
                rw [hst] at e1
                cases e1
                rcases k1 with k1 | ⟨g, q, k1, k2⟩
                · cases k1
                · cases k1
                  exact lookup_none_mem hno k2
              rcases puts_inv e with ⟨p1, m1, e1⟩ | e1
              · cases e1
                rcases puts_inv e' with ⟨p2, m2', e2⟩ | e2
                · cases e2
                  -- one path, one address
                  obtain ⟨i, hi⟩ := List.mem_iff_getElem?.mp m1
                  obtain ⟨j, hj⟩ := List.mem_iff_getElem?.mp m2'
                  have i1 : (xs.map (·.2))[i]? = some p1 := by rw [List.getElem?_map, hi]; rfl
                  have j1 : (xs.map (·.2))[j]? = some p1 := by rw [List.getElem?_map, hj]; rfl
                  have ij := (List.getElem?_inj (List.getElem?_eq_some_iff.mp i1).1 nw.pth).mp (i1.trans j1.symm)
                  subst ij
                  rw [hi] at hj
                  cases hj
                  rfl
                · exact absurd e2 (none_old _ _)
              · rcases puts_inv e' with ⟨p2, m2', e2⟩ | e2
                · cases e2
                  exact absurd e1 (none_old _ _)
                · exact s2.inj b b' l1 p e1 e2
            · rcases puts_inv e with ⟨p1, m1, e1⟩ | e1
              · cases e1
                exact ⟨_, List.getElem?_set_self (List.getElem?_eq_some_iff.mp hst).1, .inr ⟨f', p1, rfl, by simp [keysOf]⟩⟩
              · obtain ⟨d1, e2, k1⟩ := s2.dom b l1 p e1
                by_cases ql : l1 = l
                · subst ql
                  rw [hst] at e2
                  cases e2
                  refine ⟨_, List.getElem?_set_self (List.getElem?_eq_some_iff.mp hst).1, ?_⟩
                  rcases k1 with k1 | ⟨g, q, k1, k2⟩
                  · exact .inl k1
                  · refine .inr ⟨g, q, k1, ?_⟩
                    unfold keysOf at k2 ⊢
                    dsimp only at k2 ⊢
                    rw [List.map_append]
                    exact List.mem_append_left _ k2
                · exact ⟨d1, by rw [List.getElem?_set_ne (fun z => ql z.symm)]; exact e2, k1⟩
          · cases hset
        · cases hset
      · cases hset
  · cases h
end
end TL

namespace TL
open PySem L2 PyProof.Rows
section
variable {X : Cx} {N : List Str} {G : GT} {k : Nat} {C : Cal} {cls : Nat → Value} {dp : Nat} {sc : Scope} {W : WX} {e : Expr} {es : List Expr} {m n l a b : E} {ms : List E}
variable {K : KW} {ω ω' ω'' : Wd} {H H' H'' : Hp} {D : Ends} {ρ : Env} {σ : L2.St} {st : Sto}
theorem snd_ss_nil : SndSs N G k C cls dp [] := by
  intro X sc W sts c h
  unfold chkSs at h
  have e := List.isEmpty_iff.mp h
  subst e
  refine pss_imp pss_nil ?_
  rintro D σ H ⟨ω, ρ, st, hl, hs, hp⟩
  unfold execs at hp
  exact hp ω σ H .refl hl hs
theorem snd_ss_freeze {i : Nat} {ss : List S} (h2 : SndSs N G k C cls dp ss) : SndSs N G k C cls dp (.freeze i :: ss) := by
  intro X sc W sts c h
  unfold chkSs at h
  have P := h2 X sc W sts c h
  refine ⟨fun pins s σ H D I q => ?_⟩
  obtain ⟨ω, ρ, st, hl, hs, hp⟩ := q
  refine P.run pins s σ H D I ?_
  unfold execs exec at hp
  dsimp only at hp
  split at hp
  · rename_i ds hd
    obtain ⟨v, e1, ad, vs, rfl, h2, w2, r2⟩ := hl.at_ i _ hd
    have ln : ds.length ≤ sizeLine := by
      rw [← r2.length]
      obtain ⟨z, _⟩ := I.hok ad _ h2
      exact z
    have xf : Ext dp ω H (ω.free ad) H := .freeOwn w2
    exact ⟨ω.free ad, _, st, hl.freeze hs e1 h2 w2 r2 ln, hs.free w2, PostS.at (show PostS X.kw dp W cls ω H (execs C ss (ρ.set i (some (.lst ds))) st) D from hp) xf⟩
  · exact hp.elim
theorem snd_no {s : S} (h : ∀ sc st, chkS N G s sc st = false) : SndS N G k C cls dp s := by
  intro X sc W st c h'
  rw [h] at h'
  cases h'
mutual
theorem sndS : ∀ s : S, SndS N G k C cls dp s
  | .set i m => snd_set
  | .own i ms => snd_own
  | .ownd i m => snd_ownd
  | .unpack is m => snd_unpack
  | .app i m => snd_app
  | .ext i m => snd_ext
  | .put i m => snd_put
  | .freeze i => snd_no fun _ _ => by unfold chkS; rfl
  | .expr m => snd_expr
  | .ifs m a b => snd_ifs (sndSs a) (sndSs b)
  | .for tg ik ie body => snd_for (sndSs body)
  | .while m body => snd_while (sndSs body)
  | .ret m => snd_ret
  | .retN => snd_retN
  | .raise c => snd_raise
  | .tryS body j cs ncs ret i d => snd_try (sndSs body)
  | .unpackL is m => snd_unpackL
  | .setF c m f v => snd_setF
  | .papp m n => snd_papp
  | .pput m n l => snd_pput
  | .plset m n l => snd_plset
  | .ppop m n => snd_ppop
  | .setN c m f w ie => snd_setN
  | .tryA b j cs ncs i s => snd_no fun _ _ => by unfold chkS; rfl
theorem sndSs : ∀ ss : List S, SndSs N G k C cls dp ss
  | [] => snd_ss_nil
  | .freeze i :: ss => snd_ss_freeze (sndSs ss)
  | s :: ss => by
    by_cases h : ∃ i, s = .freeze i
    · obtain ⟨i, rfl⟩ := h
      exact snd_ss_freeze (sndSs ss)
    · exact snd_ss_cons (sndS s) (sndSs ss) fun i e => h ⟨i, e⟩
end
end

/-- a def: its name, its text, its names, its code -/
structure Tx where
  name : Str
  qual : Str
  names : List Str
  stmt : Stmt
  code : Fn
/-- a def, checked against its text -/
def chkFn (G : GT) (t : Tx) : Bool :=
  !t.code.lam && decide (t.code.ns = t.names.length) && chkSs t.names G t.code.body (defScope t.stmt) (defBody t.stmt) &&
  (match (defScope t.stmt).kind with | .function => true | _ => false) && !(defScope t.stmt).isCoroutine && !(defScope t.stmt).isGenerator && decide t.names.Nodup && decide (t.code.np ≤ t.names.length) &&
  ((t.names.take t.code.np).all fun x => match (defScope t.stmt).names.lookup x with | some .local | some .cell => true | _ => false) && ((defScope t.stmt).names.all fun y => match y.2 with | .free => false | _ => true)
theorem scope_of {G : GT} {t : Tx} (h : chkFn G t = true) : FnScope t.names (t.names.take t.code.np) (defScope t.stmt) ∧ t.code.ns = t.names.length ∧ t.code.np ≤ t.names.length ∧ chkSs t.names G t.code.body (defScope t.stmt) (defBody t.stmt) = true := by
  unfold chkFn at h
  simp only [Bool.and_eq_true, decide_eq_true_eq, Bool.not_eq_true'] at h
  obtain ⟨⟨⟨⟨⟨⟨⟨⟨⟨h0, h1⟩, h2⟩, h3⟩, h4⟩, h5⟩, h6⟩, h7⟩, h8⟩, h9⟩ := h
  refine ⟨⟨?_, h4, h5, h6, ?_, fun x hx => ?_, fun y hy z => ?_⟩, h1, h7, h2⟩
  · revert h3
    cases (defScope t.stmt).kind <;> first | (intro _; rfl) | (intro h; cases h)
  · rw [List.length_take, Nat.min_eq_left h7]
  · have q := List.all_eq_true.mp h8 x hx
    revert q
    cases (defScope t.stmt).names.lookup x with
    | none => intro q; cases q
    | some k => cases k <;> first | (intro _; exact .inl rfl) | (intro _; exact .inr rfl) | (intro q; cases q)
  · have q := List.all_eq_true.mp h9 y hy
    rw [z] at q
    cases q
/-- the name by which all know a def; a method has none -/
def Tx.gname (t : Tx) : Str := if t.qual = t.name then t.name else ""
structure ProgOk (K : PySem.W.Frag) (mg : Str → Option Value) (G : GT) (T : List Tx) (cls : Nat → Value) : Prop where
  fns : G.fns = T.map (·.gname)
  chk : ∀ t ∈ T, chkFn G t = true
  at_ : ∀ t ∈ T, t.qual = t.name → ∃ f fd, Fun K t.name t.qual t.stmt f fd ∧ mg t.name = some (.ref f) ∧ Binds K fd (t.names.take t.code.np) []
  cst : ∀ (x : Str) (d : TL.D), G.consts.lookup x = some d → ∃ u v, mg x = some u ∧ RelV v u ∧ ∀ (w : World) ω H, Rep ⟨K, w⟩ ω H d v
  blt : ∀ x ∈ G.blt, mg x = none
  exc : ExcF K mg cls G
  exm : ExmF K cls G
  clss : ∀ ct ∈ G.cls, ∃ Ca, mg ct.name = some (.ref Ca) ∧ PySem.W.nsIn K mainGlobals ct.name = some (some (.ref Ca)) ∧ Cls K Ca ∧ (∀ f ∈ ct.flds, NoAttr K Ca f) ∧
    (∀ m i, (m, i) ∈ ct.meths → ∃ (g : Addr) (fd : FuncData) (t : Tx), T[i]? = some t ∧ Meth K Ca m g ∧ Fun K t.name t.qual t.stmt g fd ∧ Binds K fd (t.names.take t.code.np) []) ∧
    ∃ (g : Addr) (fd : FuncData) (t : Tx), T[ct.init]? = some t ∧ Mk K Ca g ∧ Fun K t.name t.qual t.stmt g fd ∧ Binds K fd (t.names.take t.code.np) []
theorem enter_loc {K : KW} {ω : Wd} {H : Hp} {dp : Nat} {F : Fn} {N : List Str} {ds : List TL.D} {vs : List V} (r : Reps K ω H ds vs) (h : F.ns = N.length) : Loc K ω dp (enter F ds) (L2.start N vs) H where
  len := by
    unfold enter L2.start
    rw [List.length_append, List.length_append, List.length_map, List.length_map, List.length_replicate, List.length_replicate, r.length, h]
  at_ := fun i d e => by
    unfold enter at e
    unfold L2.start
    by_cases hi : i < ds.length
    · rw [List.getElem?_append_left (by rw [List.length_map]; exact hi), List.getElem?_map] at e
      cases q : ds[i]? with
      | none => rw [q] at e; cases e
      | some d' =>
        rw [q] at e
        cases e
        obtain ⟨v, e', rv⟩ := r.get q
        refine ⟨v, ?_, OwnR.of rv⟩
        rw [List.getElem?_append_left (by rw [List.length_map, r.length]; exact hi), List.getElem?_map, e']
        rfl
    · rw [List.getElem?_append_right (by rw [List.length_map]; omega), List.getElem?_replicate] at e
      split at e <;> cases e
/-- THE THEOREM: each def of a program that is checked does what its code does -/
theorem prog_ok {P : Program} {w : World} {K : PySem.W.Frag} {mg : Str → Option Value} {base : Heap} {G : GT} {T : List Tx} {cls : Nat → Value} (O : ProgOk K mg G T cls) :
    ∀ (n i : Nat) (t : Tx) (f : Addr) (fd : FuncData), T[i]? = some t → Fun K t.name t.qual t.stmt f fd → FnOk P w K mg base (L2.CX P w) (2 * n) f fd (t.names.take t.code.np) (spC ⟨K, w⟩ (run (T.map (·.code)) n) cls i)
  | 0, i, t, f, fd, ht, F => by
    have no : ∀ vs H Q E, ¬ spC ⟨K, w⟩ (run (T.map (·.code)) 0) cls i vs H Q E := fun vs H Q E ⟨ω, st, ds, dp, hs, r, h⟩ => h
    exact ⟨fun vs H Q E h => absurd h (no vs H Q E), fun A outer s H args us vs Q E _ _ _ _ h => absurd h (no vs H Q E)⟩
  | n + 1, i, t, f, fd, ht, F => by
    obtain ⟨S, hns, hnp, hck⟩ := scope_of (O.chk t (List.mem_of_getElem? ht))
    have hcode : (T.map (·.code))[i]? = some t.code := by rw [List.getElem?_map, ht]; rfl
    have hlam : t.code.lam = false := by
      have := O.chk t (List.mem_of_getElem? ht)
      unfold chkFn at this
      simp only [Bool.and_eq_true, Bool.not_eq_true'] at this
      exact this.1.1.1.1.1.1.1.1.1
    have ln : ∀ {ds : List TL.D} {st : Sto}, run (T.map (·.code)) (n + 1) i ds st ≠ .fail → ds.length = t.code.np ∧ run (T.map (·.code)) (n + 1) i ds st = finish (execs (run (T.map (·.code)) n) t.code.body (enter t.code ds) st) := by
      intro ds st h
      unfold run at h ⊢
      rw [hcode] at h ⊢
      dsimp only at h ⊢
      rw [hlam, if_neg Bool.false_ne_true] at h ⊢
      by_cases e : ds.length = t.code.np
      · rw [if_pos e]
        exact ⟨e, rfl⟩
      · rw [if_neg e] at h
        exact absurd rfl h
    refine F.okX S (fun vs H Q E h => ?_) (fun cdv A outer s H vs Q E hr h => ?_)
    · obtain ⟨ω, st, ds, dp, hs, r, h⟩ := h
      have q : run (T.map (·.code)) (n + 1) i ds st ≠ .fail := fun z => by rw [z] at h; exact h
      rw [r.length, (ln q).1, List.length_take, Nat.min_eq_left hnp]
    · obtain ⟨ω, st, ds, dp, hs, r, h⟩ := h
      have q : run (T.map (·.code)) (n + 1) i ds st ≠ .fail := fun z => by rw [z] at h; exact h
      rw [(ln q).2] at h
      have c : CokS (cxOf (L2.CX P w) P w K mg base t.names t.qual (defScope t.stmt) f cdv A outer s H E) G (2 * n) (run (T.map (·.code)) n) cls t.names (defScope t.stmt) (fun cc d _ H' => E cc d H') := {
        hN := rfl
        nd := S.nd
        hsc := rfl
        calm := rfl
        room := (show Room (2 * n + 1) _ from hr).mono (by omega)
        room1 := hr
        tk := takes_of rfl rfl rfl rfl
        fns := fun j x hj hx => by
          rw [O.fns, List.getElem?_map] at hj
          cases ht' : T[j]? with
          | none => rw [ht'] at hj; cases hj
          | some t' =>
            rw [ht'] at hj
            cases hj
            have hq : t'.qual = t'.name := by
              have hx : t'.gname ≠ "" := hx
              unfold Tx.gname at hx
              split at hx
              · assumption
              · exact (hx rfl).elim
            have hg : t'.gname = t'.name := by unfold Tx.gname; rw [if_pos hq]
            obtain ⟨f', fd', F', hm, hb⟩ := O.at_ t' (List.mem_of_getElem? ht') hq
            rw [← hg] at hm
            exact ⟨f', fd', _, prog_ok O n j t' f' fd' ht' F', hm, F'.kp, hb⟩
        cst := fun x d h => let ⟨u, v, a, b, q⟩ := O.cst x d h; ⟨u, v, a, b, q w⟩
        blt := O.blt
        clss := fun ct hct => by
          obtain ⟨Ca, h1, h2, h3, h4, h5, g, fd0, t0, i1, i2, i3, i4⟩ := O.clss ct hct
          refine ⟨Ca, h1, h2, h3, h4, fun m j hj => ?_, g, fd0, _, i2, prog_ok O n _ t0 g fd0 i1 i3, i4⟩
          obtain ⟨g1, fd1, t1, j1, j2, j3, j4⟩ := h5 m j hj
          exact ⟨g1, fd1, _, j2, prog_ok O n j t1 g1 fd1 j1 j3, j4⟩
        fn := fun _ => rfl
        po := passes_of rfl
        stk := rfl
        frm := rfl
        exc := O.exc
        exm := O.exm }
      refine ⟨_, sndSs (dp := dp) t.code.body _ _ _ _ c hck, ω, enter t.code ds, st, enter_loc r hns, hs, ?_⟩
      show PostS ⟨K, w⟩ dp _ cls ω H (execs (run (T.map (·.code)) n) t.code.body (enter t.code ds) st) _
      revert h
      cases execs (run (T.map (·.code)) n) t.code.body (enter t.code ds) st with
      | nx ρ' st' => exact fun h ω' σ' H' x _ s' => h ω' .non H' x s' rfl
      | rt d st' => exact fun h ω' v H' x s' r' => h ω' v H' x s' r'
      | ex cc ρ' st' => exact fun h ω' σ' H' x _ s' => h ω' H' x s'
      | fail => exact fun h => h
/-- the law's call -/
theorem law_sp {K : KW} {H : Hp} {C : Cal} {cls : Nat → Value} {i : Nat} {a : Addr} {ns : List Int} {st' : Sto} {E : XK} (hS : SqL K H a (ns.map V.int)) (hl : ns.length ≤ 63) (h : C i [.fls (ns.map .int)] [] = .ok (.bl true) st') :
    spC K C cls i [.ref a] H (fun v _ => v = .bl true) E := by
  have ri : ∀ ns : List Int, Reps K ⟨[], fun _ => none⟩ H (ns.map TL.D.int) (ns.map V.int) := by
    intro ns
    induction ns with
    | nil => rfl
    | cons n ns ih => exact ⟨_, _, rfl, rfl, ih⟩
  refine ⟨⟨[], fun _ => none⟩, [], [.fls (ns.map .int)], 0, ⟨rfl, fun _ h => absurd rfl h, (fun l d e => by simp at e), (fun _ _ _ _ e => nomatch e), fun _ _ _ e => nomatch e⟩, ⟨_, _, rfl, ⟨by rw [List.length_map]; exact Nat.le_trans hl (by decide), a, _, rfl, ?_, ri ns⟩, rfl⟩, ?_⟩
  · rcases hS with (h | ⟨o, h⟩) | h
    · exact .inl ⟨h, rfl⟩
    · exact .inr (.inl ⟨o, h⟩)
    · exact .inr (.inr h)
  · rw [h]
    exact fun ω' v H' x s r => r
/-- the end: the law's call, walked -/
theorem walk {l : PySem.W.OpenLaw} {q : Program} {loose : List Str} {XP : (Str → Option Value) → Heap → Prop} {YP : World → Heap → Prop} {d : DefRec} {K : Params → PySem.W.Frag} {G : GT} {T : List Tx} {t : Tx} {i n : Nat} {x : Str} (hn : l.most = some 63) (hdf : d.params.defaults = [])
    (hr : Room (2 * n) callerA) (hY : ∀ (w : World) (h : Heap), YP w h → (K w.params).In h) (ht : T[i]? = some t) (hx : t.names.take t.code.np = [x]) (hname : t.name = d.name) (hqual : t.qual = t.name)
    (F : ∀ (w : World) (mg : Str → Option Value) (h : Heap), (K w.params).In h → h.Ns mainGlobals mg → ∃ cls, ProgOk (K w.params) mg G T cls)
    (hb : ∀ (w : World) (fa : Addr) (fd : FuncData), Fun (K w.params) t.name t.qual t.stmt fa fd → ∀ (s : Shared) (u : Value), BindsTo s fd ⟨[u], []⟩ [(x, u)])
    (law : ∀ ns : List Int, ns.length ≤ 63 → ∃ st', run (T.map (·.code)) n i [.fls (ns.map .int)] [] = .ok (.bl true) st') :
    PySem.W.WalkO q loose XP YP l.row.toRowW d [] (fun f vs => PySem.call f vs) :=
  L2.walk_of (n := 63) (k := 2 * n) (x := x) (CX := fun w => L2.CX l.prog w) (sp := fun w vs H Q E => ∀ cls, spC ⟨K w.params, w⟩ (run (T.map (·.code)) n) cls i vs H Q E) hn (by decide) hdf hr hY
    (fun w mg fa h KX g hfa => by
      obtain ⟨cls, O⟩ := F w mg h KX g
      obtain ⟨f, fd, Fu, hm, _⟩ := O.at_ t (List.mem_of_getElem? ht) hqual
      rw [hname, hfa] at hm
      cases hm
      refine ⟨fd, hb w fa fd Fu, fun base KB gB => ?_⟩
      have z := prog_ok (P := l.prog) (w := w) (base := base) (cls := cls) O n i t fa fd ht Fu
      rw [hx] at z
      exact ⟨fun vs H Q E h => z.len vs H Q E (h cls), fun A outer s H args us vs Q E a b c d h => z.run A outer s H args us vs Q E a b c d (h cls)⟩)
    (fun w H a ns hl _ hS => let ⟨st', h⟩ := law ns hl; fun cls => law_sp hS hl h) fun w H s e s' h => by
      obtain ⟨_, _, _, _, _, _, _, _, _, _, _, _, z⟩ := h
      exact z.elim
end TL
namespace TL
open PySem
/-- what an except names -/
theorem exm_any {K : PySem.W.Frag} {S R : Addr} {b : Bool} (h1 : PySem.W.subIn K (.ref S) (.type "BaseException") = some true) (h2 : PySem.W.isClsIn K S = true) (h3 : PySem.W.typeIn K (.ref S) = some (.type "type")) (h4 : PySem.W.subIn K (.ref R) (.ref S) = some b) :
    PySem.W.exmOne K (.ref R) (.ref S) = some b := by
  have e1 : (PySem.W.subIn K (.ref S) (.type "BaseException") == some true) = true := by rw [h1] <;> rfl
  have e2 : ((PySem.W.clsIn K S).isSome && PySem.W.typeIn K (.ref S) == some (.type "type")) = true := by
    have h2' : (PySem.W.clsIn K S).isSome = true := h2
    rw [h2', h3] <;> rfl
  show (if (PySem.W.subIn K (.ref S) (.type "BaseException") == some true) = true then (if ((PySem.W.clsIn K S).isSome && PySem.W.typeIn K (.ref S) == some (.type "type")) = true then PySem.W.subIn K (.ref R) (.ref S) else none) else none) = some b
  rw [if_pos e1, if_pos e2]
  exact h4
end TL

namespace TP
open PySem L2 TL
def top (i : Nat) : Stmt := PySem.Challenge.pw_taletask_k55_whole_names_of_tasks.main.body.getD i (.Pass ⟨0, 0, 0, 0⟩)
def c_is_over : Fn := ⟨1, 1, [.ret (.o1 .isStr (.var 0))], false⟩
def c_grouped : Fn := ⟨2, 2, [.ifs (.o2 .eq (.o1 .len (.var 1)) (.con (.int 1))) [.ret (.o2 .ix (.var 1) (.con (.int 0)))] [], .ret (.tup [.var 0, .o1 .tuple (.var 1)])], false⟩
def c_group_behind : Fn := ⟨2, 8, [.unpack [4, 5] (.tup [.con (.str "done"), .con (.str "failed")]), .ifs (.o2 .eq (.o2 .ix (.var 0) (.con (.int 0))) (.con (.str "any"))) [.unpack [4, 5] (.tup [.con (.str "failed"), .con (.str "done")])] [], .set 2 (.lc (.call 4 [.var 6, .var 1]) (.nm 6) .tup [.o2 .ix (.var 0) (.con (.int 1))] [] [6]), .ifs (.o2 .isIn (.var 5) (.var 2)) [.ret (.var 5)] [], .set 3 (.lc (.var 7) (.nm 7) .lst [.var 2] [.o2 .ne (.var 7) (.var 4)] [7]), .ifs (.o2 .eq (.o1 .len (.var 3)) (.con (.int 0))) [.ret (.var 4)] [], .ret (.call 1 [.o2 .ix (.var 0) (.con (.int 0)), .var 3])], false⟩
def c_then_behind : Fn := ⟨2, 4, [.set 2 (.call 4 [.o2 .ix (.o2 .ix (.var 0) (.con (.int 1))) (.con (.int 0)), .var 1]), .ifs (.o2 .eq (.var 2) (.con (.str "failed"))) [.ret (.con (.str "failed"))] [], .set 3 (.o1 .list (.sl (.o2 .ix (.var 0) (.con (.int 1))) [.con (.int 1)] [])), .ifs (.o2 .ne (.var 2) (.con (.str "done"))) [.ret (.call 1 [.con (.str "then"), .o2 .add (.lst [.var 2]) (.var 3)])] [], .ifs (.o2 .eq (.o1 .len (.var 3)) (.con (.int 0))) [.ret (.con (.str "done"))] [], .ret (.call 1 [.con (.str "then"), .var 3])], false⟩
def c_behind : Fn := ⟨2, 4, [.set 2 (.o2 .ix (.var 0) (.con (.int 0))), .ifs (.o2 .eq (.var 2) (.con (.str "do"))) [.ifs (.o2 .ne (.var 1) (.o2 .ix (.var 0) (.con (.int 1)))) [.ret (.var 0)] [], .ifs (.o2 .eq (.o2 .ix (.var 0) (.con (.int 2))) (.con (.int 1))) [.ret (.con (.str "done"))] [], .ret (.tup [.var 2, .var 1, .o2 .sub (.o2 .ix (.var 0) (.con (.int 2))) (.con (.int 1))])] [], .ifs (.o2 .isIn (.var 2) (.tup [.con (.str "all"), .con (.str "any")])) [.ret (.call 2 [.var 0, .var 1])] [], .ifs (.o2 .eq (.var 2) (.con (.str "then"))) [.ret (.call 3 [.var 0, .var 1])] [], .ifs (.and [.o2 .eq (.var 2) (.con (.str "without")), .o2 .eq (.var 1) (.o2 .ix (.var 0) (.con (.int 1)))]) [.ret (.con (.str "failed"))] [], .set 3 (.call 4 [.o2 .ix (.var 0) (.con (.int 2)), .var 1]), .ifs (.call 0 [.var 3]) [.ret (.var 3)] [], .ifs (.o2 .eq (.var 2) (.con (.str "without"))) [.ret (.tup [.var 2, .o2 .ix (.var 0) (.con (.int 1)), .var 3])] [], .ifs (.o2 .eq (.o2 .ix (.var 0) (.con (.int 1))) (.con (.int 1))) [.ret (.con (.str "failed"))] [], .ret (.tup [.var 2, .o2 .sub (.o2 .ix (.var 0) (.con (.int 1))) (.con (.int 1)), .var 3])], false⟩
def c_told_again : Fn := ⟨2, 5, [.set 2 (.make 12 "Tale" [.var 0]), .for (.tp [3, 4]) .tup [.var 1] [.ifs (.o2 .eq (.var 3) (.con (.str "take"))) [.expr (.meth 14 "Tale" "take" (.var 2) [.var 4])] [.ifs (.o2 .eq (.var 3) (.con (.str "up"))) [.expr (.meth 15 "Tale" "give_up" (.var 2) [.var 4])] [.ifs (.o2 .eq (.var 3) (.con (.str "deed"))) [.expr (.meth 16 "Tale" "deed" (.var 2) [.var 4])] []]]], .ret (.var 2)], false⟩
def c__law_cell_at : Fn := ⟨2, 2, [.ifs (.o2 .lt (.var 1) (.o1 .len (.var 0))) [.ret (.o2 .ix (.var 0) (.var 1))] [], .ret (.con (.int 0))], false⟩
def c__law_mixed : Fn := ⟨2, 3, [.set 2 (.o2 .mod (.o2 .mul (.o2 .add (.o2 .add (.call 6 [.var 0, .var 1]) (.o2 .mul (.con (.int 7919)) (.var 1))) (.con (.int 1))) (.con (.int 48271))) (.con (.int 2147483647))), .ret (.o2 .mod (.o2 .add (.o2 .add (.o2 .mul (.var 2) (.var 2)) (.o2 .mul (.con (.int 7)) (.var 2))) (.var 1)) (.con (.int 2147483629)))], false⟩
def c__law_drawn : Fn := ⟨2, 3, [.set 2 (.o2 .mod (.o2 .mul (.o2 .add (.o2 .add (.var 0) (.o2 .mul (.con (.int 104729)) (.var 1))) (.con (.int 17))) (.con (.int 69621))) (.con (.int 2147483647))), .ret (.o2 .mod (.o2 .add (.o2 .add (.o2 .mul (.var 2) (.var 2)) (.o2 .mul (.con (.int 3)) (.var 2))) (.var 1)) (.con (.int 2147483629)))], false⟩
def c__law_task : Fn := ⟨3, 8, [.set 3 (.o2 .ix (.con (.str "abc")) (.o2 .mod (.o2 .div (.var 0) (.con (.int 8))) (.con (.int 3)))), .set 4 (.o2 .mod (.var 0) (.con (.int 8))), .ifs (.or [.o2 .eq (.var 1) (.con (.int 1)), .o2 .lt (.var 4) (.con (.int 2))]) [.ret (.tup [.con (.str "do"), .var 3, .o2 .add (.con (.int 1)) (.o2 .mod (.o2 .div (.var 0) (.con (.int 64))) (.var 2))])] [], .ifs (.o2 .eq (.var 4) (.con (.int 6))) [.ret (.tup [.con (.str "without"), .var 3, .call 9 [.o2 .div (.call 8 [.var 0, .con (.int 1)]) (.con (.int 4)), .o2 .sub (.var 1) (.con (.int 1)), .var 2]])] [], .ifs (.o2 .eq (.var 4) (.con (.int 7))) [.set 5 (.o2 .add (.con (.int 1)) (.o2 .mod (.o2 .div (.var 0) (.con (.int 64))) (.o2 .ix (.tup [.con (.int 9), .con (.int 4)]) (.o2 .mod (.o2 .div (.var 0) (.con (.int 1024))) (.con (.int 2)))))), .ret (.tup [.con (.str "within"), .var 5, .call 9 [.o2 .div (.call 8 [.var 0, .con (.int 2)]) (.con (.int 4)), .o2 .sub (.var 1) (.con (.int 1)), .var 2]])] [], .set 5 (.o2 .add (.con (.int 1)) (.o2 .mod (.o2 .div (.var 0) (.con (.int 64))) (.con (.int 3)))), .set 6 (.o2 .ix (.tup [.con (.str "all"), .con (.str "any"), .con (.str "then"), .con (.str "all")]) (.o2 .sub (.var 4) (.con (.int 2)))), .ifs (.o2 .eq (.var 6) (.con (.str "then"))) [.set 5 (.o2 .max (.con (.int 2)) (.var 5))] [], .ret (.tup [.var 6, .o1 .tuple (.lc (.call 9 [.o2 .div (.call 8 [.var 0, .o2 .add (.con (.int 3)) (.var 7)]) (.con (.int 4)), .o2 .sub (.var 1) (.con (.int 1)), .var 2]) (.nm 7) .rng [.var 5] [] [7])])], false⟩
def c__law_book : Fn := ⟨1, 8, [.set 1 (.tup []), .for (.nm 2) .rng [.o2 .add (.con (.int 1)) (.o2 .mod (.var 0) (.con (.int 5)))] [.set 3 (.o2 .div (.call 8 [.var 0, .var 2]) (.con (.int 4))), .set 4 (.tup []), .ifs (.o2 .eq (.o2 .mod (.o2 .div (.var 3) (.con (.int 128))) (.con (.int 2))) (.con (.int 0))) [.set 4 (.o1 .tuple (.lc (.o2 .ix (.var 7) (.con (.int 0))) (.tp [6, 7]) .enumT [.var 1] [.o2 .eq (.o2 .mod (.o2 .add (.o2 .div (.var 3) (.con (.int 4))) (.var 6)) (.con (.int 3))) (.con (.int 0))] [6, 7]))] [], .set 5 (.call 9 [.o2 .div (.var 3) (.con (.int 256)), .o2 .add (.con (.int 1)) (.o2 .mod (.var 3) (.con (.int 3))), .con (.int 2)]), .set 1 (.o2 .add (.var 1) (.tup [.tup [.o2 .ix (.tup [.con (.str "art"), .con (.str "bread"), .con (.str "coin"), .con (.str "dog"), .con (.str "end")]) (.var 2), .var 4, .var 5]]))], .ret (.var 1)], false⟩
def c_law : Fn := ⟨1, 18, [.set 1 (.call 10 [.call 7 [.var 0, .con (.int 0)]]), .set 2 (.dzip (.tup [.con (.str "art"), .con (.str "bread"), .con (.str "coin"), .con (.str "dog"), .con (.str "end")]) (.tup [.con (.str "b"), .con (.str "bb"), .con (.str "cat"), .con (.str "ccc"), .con (.str "zoo")])), .set 3 (.o1 .tuple (.lc (.tup [.o2 .ix (.var 2) (.var 11), .o1 .tuple (.lc (.o2 .ix (.var 2) (.var 17)) (.nm 17) .tup [.var 12] [] [17]), .var 13]) (.tp [11, 12, 13]) .tup [.var 1] [] [11, 12, 13])), .unpack [8, 9] (.tup [.make 12 "Tale" [.var 1], .make 12 "Tale" [.var 3]]), .set 4 (.call 7 [.var 0, .con (.int 1)]), .for (.nm 5) .rng [.o2 .mod (.var 4) (.con (.int 20))] [.set 10 (.o2 .div (.call 8 [.var 4, .var 5]) (.con (.int 4))), .ifs (.and [.o2 .eq (.o2 .mod (.var 10) (.con (.int 3))) (.con (.int 0)), .o2 .ne (.meth 13 "Tale" "offered" (.var 8) []) (.tup [])]) [.set 11 (.o2 .ix (.meth 13 "Tale" "offered" (.var 8) []) (.o2 .mod (.o2 .div (.var 10) (.con (.int 3))) (.o1 .len (.meth 13 "Tale" "offered" (.var 8) [])))), .expr (.meth 14 "Tale" "take" (.var 8) [.var 11]), .expr (.meth 14 "Tale" "take" (.var 9) [.o2 .ix (.var 2) (.var 11)])] [.ifs (.and [.o2 .eq (.o2 .mod (.var 10) (.con (.int 7))) (.con (.int 0)), .o2 .ne (.meth 17 "Tale" "going" (.var 8) []) (.tup [])]) [.set 11 (.o2 .ix (.o2 .ix (.meth 17 "Tale" "going" (.var 8) []) (.con (.int 0))) (.con (.int 0))), .expr (.meth 15 "Tale" "give_up" (.var 8) [.var 11]), .expr (.meth 15 "Tale" "give_up" (.var 9) [.o2 .ix (.var 2) (.var 11)])] [.set 14 (.o2 .ix (.con (.str "abcd")) (.o2 .mod (.o2 .div (.var 10) (.con (.int 3))) (.con (.int 4)))), .expr (.meth 16 "Tale" "deed" (.var 8) [.var 14]), .expr (.meth 16 "Tale" "deed" (.var 9) [.var 14])]], .ifs (.o2 .ne (.meth 13 "Tale" "offered" (.var 9) []) (.o1 .tuple (.lc (.o2 .ix (.var 2) (.var 11)) (.nm 11) .tup [.meth 13 "Tale" "offered" (.var 8) []] [] [11]))) [.ret (.con (.bl false))] [], .ifs (.o2 .ne (.meth 17 "Tale" "going" (.var 9) []) (.o1 .tuple (.lc (.tup [.o2 .ix (.var 2) (.var 11), .var 13]) (.tp [11, 13]) .tup [.meth 17 "Tale" "going" (.var 8) []] [] [11, 13]))) [.ret (.con (.bl false))] []], .for (.tp [11, 12, 13]) .tup [.var 1] [.ifs (.o2 .ne (.meth 18 "Tale" "counts" (.var 9) [.o2 .ix (.var 2) (.var 11)]) (.meth 18 "Tale" "counts" (.var 8) [.var 11])) [.ret (.con (.bl false))] []], .set 6 (.o1 .tuple (.lc (.ife (.o2 .eq (.var 15) (.con (.str "deed"))) (.tup [.var 15, .var 16]) (.tup [.var 15, .o2 .ix (.var 2) (.var 16)])) (.tp [15, 16]) .tup [.meth 19 "Tale" "rows" (.var 8) []] [] [15, 16])), .ifs (.o2 .ne (.meth 19 "Tale" "rows" (.var 9) []) (.var 6)) [.ret (.con (.bl false))] [], .set 7 (.call 5 [.var 3, .var 6]), .ret (.o2 .eq (.tup [.meth 17 "Tale" "going" (.var 7) [], .meth 13 "Tale" "offered" (.var 7) [], .meth 19 "Tale" "rows" (.var 7) []]) (.tup [.meth 17 "Tale" "going" (.var 9) [], .meth 13 "Tale" "offered" (.var 9) [], .var 6]))], false⟩
def c_Tale_init : Fn := ⟨2, 3, [.setF "Tale" (.var 0) "book" (.var 1), .setN "Tale" (.var 0) "current" .d [], .setN "Tale" (.var 0) "numbers" (.cnt 2 .tup) [.var 1], .setN "Tale" (.var 0) "log" .l []], false⟩
def c_Tale_offered : Fn := ⟨1, 6, [.own 1 [], .for (.tp [2, 3, 4]) .tup [.fld "Tale" (.var 0) "book"] [.ifs (.and [.pin true (.var 2) (.fld "Tale" (.var 0) "current"), .o1 .all (.lc (.o2 .gt (.pix (.pix (.fld "Tale" (.var 0) "numbers") (.var 5)) (.con (.int 1))) (.con (.int 0))) (.nm 5) .tup [.var 3] [] [5])]) [.app 1 (.var 2)] []], .freeze 1, .ret (.o1 .tuple (.var 1))], false⟩
def c_Tale_take : Fn := ⟨2, 3, [.ifs (.o2 .notIn (.var 1) (.meth 13 "Tale" "offered" (.var 0) [])) [.raise 1] [], .pput (.fld "Tale" (.var 0) "current") (.var 1) (.o2 .ix (.lc (.o2 .ix (.var 2) (.con (.int 2))) (.nm 2) .tup [.fld "Tale" (.var 0) "book"] [.o2 .eq (.o2 .ix (.var 2) (.con (.int 0))) (.var 1)] [2]) (.con (.int 0))), .plset (.pix (.fld "Tale" (.var 0) "numbers") (.var 1)) (.con (.int 0)) (.o2 .add (.pix (.pix (.fld "Tale" (.var 0) "numbers") (.var 1)) (.con (.int 0))) (.con (.int 1))), .papp (.fld "Tale" (.var 0) "log") (.tup [.con (.str "take"), .var 1])], false⟩
def c_Tale_give_up : Fn := ⟨2, 2, [.ifs (.pin true (.var 1) (.fld "Tale" (.var 0) "current")) [.raise 2] [], .ppop (.fld "Tale" (.var 0) "current") (.var 1), .papp (.fld "Tale" (.var 0) "log") (.tup [.con (.str "up"), .var 1])], false⟩
def c_Tale_deed : Fn := ⟨2, 5, [.papp (.fld "Tale" (.var 0) "log") (.tup [.con (.str "deed"), .var 1]), .for (.nm 2) .lst [.psort (.fld "Tale" (.var 0) "current")] [.set 3 (.call 4 [.pix (.fld "Tale" (.var 0) "current") (.var 2), .var 1]), .ifs (.call 0 [.var 3]) [.ppop (.fld "Tale" (.var 0) "current") (.var 2), .set 4 (.o2 .add (.con (.int 1)) (.o1 .int (.o2 .eq (.var 3) (.con (.str "failed"))))), .plset (.pix (.fld "Tale" (.var 0) "numbers") (.var 2)) (.var 4) (.o2 .add (.pix (.pix (.fld "Tale" (.var 0) "numbers") (.var 2)) (.var 4)) (.con (.int 1))), .papp (.fld "Tale" (.var 0) "log") (.tup [.var 3, .var 2])] [.pput (.fld "Tale" (.var 0) "current") (.var 2) (.var 3)]]], false⟩
def c_Tale_going : Fn := ⟨1, 1, [.ret (.o1 .tuple (.pitems (.fld "Tale" (.var 0) "current")))], false⟩
def c_Tale_counts : Fn := ⟨2, 2, [.ret (.ptup (.pix (.fld "Tale" (.var 0) "numbers") (.var 1)))], false⟩
def c_Tale_rows : Fn := ⟨1, 1, [.ret (.ptup (.fld "Tale" (.var 0) "log"))], false⟩
def Pg : List Fn := [c_is_over, c_grouped, c_group_behind, c_then_behind, c_behind, c_told_again, c__law_cell_at, c__law_mixed, c__law_drawn, c__law_task, c__law_book, c_law, c_Tale_init, c_Tale_offered, c_Tale_take, c_Tale_give_up, c_Tale_deed, c_Tale_going, c_Tale_counts, c_Tale_rows]
def t0 : Tx := ⟨"is_over", "is_over", ["state"], (top 7), c_is_over⟩
def t1 : Tx := ⟨"grouped", "grouped", ["word", "tasks"], (top 8), c_grouped⟩
def t2 : Tx := ⟨"group_behind", "group_behind", ["task", "deed", "states", "left", "gone", "whole", "part", "state"], (top 9), c_group_behind⟩
def t3 : Tx := ⟨"then_behind", "then_behind", ["task", "deed", "first", "rest"], (top 10), c_then_behind⟩
def t4 : Tx := ⟨"behind", "behind", ["task", "deed", "word", "state"], (top 11), c_behind⟩
def t5 : Tx := ⟨"told_again", "told_again", ["book", "rows", "tale", "word", "name"], (top 14), c_told_again⟩
def t6 : Tx := ⟨"_law_cell_at", "_law_cell_at", ["_law_script", "_law_k"], (top 16), c__law_cell_at⟩
def t7 : Tx := ⟨"_law_mixed", "_law_mixed", ["_law_script", "_law_k", "_law_drawn_here"], (top 17), c__law_mixed⟩
def t8 : Tx := ⟨"_law_drawn", "_law_drawn", ["_law_number", "_law_k", "_law_drawn_here"], (top 18), c__law_drawn⟩
def t9 : Tx := ⟨"_law_task", "_law_task", ["_law_number", "_law_deep", "_law_most", "_law_deed", "_law_kind", "_law_many", "_law_word", "_law_k"], (top 19), c__law_task⟩
def t10 : Tx := ⟨"_law_book", "_law_book", ["_law_number", "_law_found", "_law_k", "_law_drawn_here", "_law_wants", "_law_task_here", "_law_j", "_law_row"], (top 20), c__law_book⟩
def t11 : Tx := ⟨"law", "law", ["_law_script", "_law_book_here", "_law_names", "_law_led", "_law_number", "_law_turn", "_law_rows", "_law_again", "_law_one", "_law_other", "_law_drawn_here", "_law_name", "_law_wants", "_law_task_here", "_law_deed", "_law_word", "_law_what", "_law_want"], (top 21), c_law⟩
def t12 : Tx := ⟨"__init__", "Tale.__init__", ["self", "book", "row"], (inClass (top 13) 0), c_Tale_init⟩
def t13 : Tx := ⟨"offered", "Tale.offered", ["self", "found", "name", "wants", "task", "one"], (inClass (top 13) 1), c_Tale_offered⟩
def t14 : Tx := ⟨"take", "Tale.take", ["self", "name", "row"], (inClass (top 13) 2), c_Tale_take⟩
def t15 : Tx := ⟨"give_up", "Tale.give_up", ["self", "name"], (inClass (top 13) 3), c_Tale_give_up⟩
def t16 : Tx := ⟨"deed", "Tale.deed", ["self", "deed", "name", "state", "place"], (inClass (top 13) 4), c_Tale_deed⟩
def t17 : Tx := ⟨"going", "Tale.going", ["self"], (inClass (top 13) 5), c_Tale_going⟩
def t18 : Tx := ⟨"counts", "Tale.counts", ["self", "name"], (inClass (top 13) 6), c_Tale_counts⟩
def t19 : Tx := ⟨"rows", "Tale.rows", ["self"], (inClass (top 13) 7), c_Tale_rows⟩
def Ts : List Tx := [t0, t1, t2, t3, t4, t5, t6, t7, t8, t9, t10, t11, t12, t13, t14, t15, t16, t17, t18, t19]
def Gt : GT := ⟨["is_over", "grouped", "group_behind", "then_behind", "behind", "told_again", "_law_cell_at", "_law_mixed", "_law_drawn", "_law_task", "_law_book", "law", "", "", "", "", "", "", "", ""], [("DONE", .str "done"), ("FAILED", .str "failed")], ["all", "dict", "enumerate", "int", "isinstance", "len", "list", "max", "range", "sorted", "str", "tuple", "zip"], [⟨"Tale", ["book", "current", "numbers", "log"], [("offered", 13), ("take", 14), ("give_up", 15), ("deed", 16), ("going", 17), ("counts", 18), ("rows", 19)], 12⟩], ["TaleError", "NotOffered", "NotGoing"], []⟩
theorem k0 : chkFn Gt t0 = true := by decide +kernel
theorem k1 : chkFn Gt t1 = true := by decide +kernel
theorem k2 : chkFn Gt t2 = true := by decide +kernel
theorem k3 : chkFn Gt t3 = true := by decide +kernel
theorem k4 : chkFn Gt t4 = true := by decide +kernel
theorem k5 : chkFn Gt t5 = true := by decide +kernel
theorem k6 : chkFn Gt t6 = true := by decide +kernel
theorem k7 : chkFn Gt t7 = true := by decide +kernel
theorem k8 : chkFn Gt t8 = true := by decide +kernel
theorem k9 : chkFn Gt t9 = true := by decide +kernel
theorem k10 : chkFn Gt t10 = true := by decide +kernel
theorem k11 : chkFn Gt t11 = true := by decide +kernel
theorem k12 : chkFn Gt t12 = true := by decide +kernel
theorem k13 : chkFn Gt t13 = true := by decide +kernel
theorem k14 : chkFn Gt t14 = true := by decide +kernel
theorem k15 : chkFn Gt t15 = true := by decide +kernel
theorem k16 : chkFn Gt t16 = true := by decide +kernel
theorem k17 : chkFn Gt t17 = true := by decide +kernel
theorem k18 : chkFn Gt t18 = true := by decide +kernel
theorem k19 : chkFn Gt t19 = true := by decide +kernel
end TP

namespace TL
open PySem hiding run execs exec finish Env
open L2

def D.isS : TL.D → Bool
  | .str _ => true
  | _ => false
theorem eqv_str (x y : Str) : (TL.D.str x).eqv (.str y) = decide (x = y) := by
  unfold TL.D.eqv TL.D.py PyData.eqv
  by_cases h : x = y
  · simp [h]
  · simp [h]
theorem eqv_tup_str (ds : List TL.D) (y : Str) : (TL.D.tup ds).eqv (.str y) = false := by
  unfold TL.D.eqv TL.D.py PyData.eqv
  rfl
theorem eqv_str_tup (ds : List TL.D) (y : Str) : (TL.D.str y).eqv (.tup ds) = false := by
  unfold TL.D.eqv TL.D.py PyData.eqv
  rfl
theorem eqv_int (x y : Int) : (TL.D.int x).eqv (.int y) = decide (x = y) := by
  unfold TL.D.eqv TL.D.py PyData.eqv
  by_cases h : x = y
  · simp [h]
  · simp [h]
theorem eqv_non : TL.D.non.eqv .non = true := by
  unfold TL.D.eqv TL.D.py PyData.eqv
  rfl
theorem eqv_lst_nil (ds : List TL.D) : (TL.D.lst ds).eqv (.lst []) = decide (ds = []) := by
  unfold TL.D.eqv TL.D.py PyData.eqv
  cases ds <;> simp [pys, PyData.eqvAll]
/-- fit to be compared: plain, at most n deep -/
def okD (n : Nat) (d : TL.D) : Prop := d.py.canLay0 = true ∧ d.py.depth ≤ n
theorem okD.shp {n : Nat} {d : TL.D} (h : okD n d) (hn : n ≤ 64) : d.shp = true := by
  unfold TL.D.shp SeqAt.shaped
  rw [h.1, Bool.true_and]
  exact decide_eq_true (Nat.le_trans h.2 hn)
theorem okD.mono {n m : Nat} {d : TL.D} (h : okD n d) (hn : n ≤ m) : okD m d := ⟨h.1, Nat.le_trans h.2 hn⟩
theorem okD_int (n : Nat) (i : Int) : okD n (.int i) := ⟨rfl, Nat.zero_le _⟩
theorem okD_non (n : Nat) : okD n .non := ⟨rfl, Nat.zero_le _⟩
theorem okD_str (n : Nat) {x : Str} (h : PyData.strOk x = true) : okD n (.str x) := ⟨h, Nat.zero_le _⟩
theorem okD_tup {n : Nat} : ∀ {ds : List TL.D}, (∀ d ∈ ds, okD n d) → okD (n + 1) (.tup ds) := by
  intro ds h
  have h' : ∀ (ds : List TL.D), (∀ d ∈ ds, okD n d) → PyData.canLayAll0 (pys ds) = true ∧ PyData.depthAll (pys ds) ≤ n := by
    intro ds
    induction ds with
    | nil => intro _; exact ⟨rfl, Nat.zero_le _⟩
    | cons d ds ih =>
      intro h
      have a := h d (List.mem_cons_self ..)
      have b := ih fun x hx => h x (List.mem_cons_of_mem _ hx)
      simp only [pys, PyData.canLayAll0, PyData.depthAll]
      exact ⟨by rw [a.1, b.1]; rfl, Nat.max_le.mpr ⟨a.2, b.2⟩⟩
  have z := h' ds h
  unfold okD
  simp only [TL.D.py, PyData.canLay0, PyData.depth]
  exact ⟨z.1, by omega⟩
theorem okD_lst {n : Nat} {ds : List TL.D} (h : ∀ d ∈ ds, okD n d) : okD (n + 1) (.lst ds) := by
  have z := okD_tup h
  unfold okD at z ⊢
  simp only [TL.D.py, PyData.canLay0, PyData.depth] at z ⊢
  exact z
theorem okD_tup_nil (n : Nat) : okD n.succ (.tup []) := okD_tup (fun _ h => nomatch h)
theorem okD.eqv_refl {n : Nat} {d : TL.D} (h : okD n d) : d.eqv d = true := SeqAt.eqv_refl _ h.1
theorem okD.own {n : Nat} {d : TL.D} (h : okD n d) : d.own = false := by
  cases d <;> first | rfl | (have := h.1; simp [TL.D.py, PyData.canLay0] at this)
theorem dEq_ok {n m : Nat} {a b : TL.D} (h : okD n a) (k : okD m b) (hn : n ≤ 64) (hm : m ≤ 64) : dEq a b = some (.bl (a.eqv b)) := by
  unfold dEq
  rw [h.shp hn, k.shp hm]
  rfl
theorem dNe_ok {n m : Nat} {a b : TL.D} (h : okD n a) (k : okD m b) (hn : n ≤ 64) (hm : m ≤ 64) : dNe a b = some (.bl (!a.eqv b)) := by
  unfold dNe
  rw [h.shp hn, k.shp hm]
  rfl
/-- a comprehension whose parts are quiet -/
theorem lcGo_map {bnd : TL.D → Option Env} {c e : Env → Sto → R TL.D} {st : Sto} {p : TL.D → Bool} {g : TL.D → TL.D} : ∀ {xs : List TL.D}, (∀ x ∈ xs, ∃ ρ, bnd x = some ρ ∧ c ρ st = .ok (.bl (p x)) st ∧ (p x = true → e ρ st = .ok (g x) st ∧ (g x).own = false)) → lcGo bnd c e xs st = .ok ((xs.filter p).map g) st := by
  intro xs
  induction xs with
  | nil => intro _; rfl
  | cons x xs ih =>
    intro h
    obtain ⟨ρ, h1, h2, h3⟩ := h x (List.mem_cons_self ..)
    have ih := ih fun y hy => h y (List.mem_cons_of_mem _ hy)
    unfold lcGo
    simp only [h1, h2, R.bind]
    cases hp : p x with
    | true =>
      obtain ⟨h3, h4⟩ := h3 hp
      simp only [h3, h4, ih, List.filter_cons, hp, if_true, List.map_cons, Bool.false_eq_true, if_false]
    | false => simp only [ih, List.filter_cons, hp, Bool.false_eq_true, if_false]
/-- a comprehension that asks nothing -/
theorem lcGo_all {bnd : TL.D → Option Env} {c e : Env → Sto → R TL.D} {st : Sto} {g : TL.D → TL.D} {xs : List TL.D} (h : ∀ x ∈ xs, ∃ ρ, bnd x = some ρ ∧ c ρ st = .ok (.bl true) st ∧ e ρ st = .ok (g x) st ∧ (g x).own = false) : lcGo bnd c e xs st = .ok (xs.map g) st := by
  have z := lcGo_map (bnd := bnd) (c := c) (e := e) (st := st) (p := fun _ => true) (g := g) (xs := xs) fun x hx => by
    obtain ⟨ρ, a, b, d⟩ := h x hx
    exact ⟨ρ, a, b, fun _ => d⟩
  rw [z, List.filter_eq_self.mpr fun _ _ => rfl]
theorem lcGo_ex {bnd : TL.D → Option Env} {c e : Env → Sto → R TL.D} {st : Sto} {P : TL.D → Prop} : ∀ {xs : List TL.D}, (∀ x ∈ xs, ∃ ρ d, bnd x = some ρ ∧ c ρ st = .ok (.bl true) st ∧ e ρ st = .ok d st ∧ d.own = false ∧ P d) →
    ∃ ds, lcGo bnd c e xs st = .ok ds st ∧ ds.length = xs.length ∧ ∀ d ∈ ds, P d := by
  intro xs
  induction xs with
  | nil => intro _; exact ⟨[], rfl, rfl, fun _ h => nomatch h⟩
  | cons x xs ih =>
    intro h
    obtain ⟨ρ, d, h1, h2, h3, h4, h5⟩ := h x (List.mem_cons_self ..)
    obtain ⟨ds, e1, e2, e3⟩ := ih fun y hy => h y (List.mem_cons_of_mem _ hy)
    refine ⟨d :: ds, ?_, by rw [List.length_cons, List.length_cons, e2], fun y hy => ?_⟩
    · unfold lcGo
      simp only [h1, h2, R.bind, h3, h4, e1, Bool.false_eq_true, if_false]
    · rcases List.mem_cons.mp hy with rfl | hy
      · exact h5
      · exact e3 y hy
/-- a for that only goes through -/
theorem forGo_inv {bnd : TL.D → Env → Option Env} {b : Env → Sto → Fl} {st : Sto} {I : List TL.D → Env → Prop} {Q : Fl → Prop} : ∀ (xs : List TL.D) {ρ : Env}, I xs ρ → (∀ ρ, I [] ρ → Q (.nx ρ st)) →
    (∀ x xs ρ, I (x :: xs) ρ → ∃ ρ1, bnd x ρ = some ρ1 ∧ ((∃ ρ2, b ρ1 st = .nx ρ2 st ∧ I xs ρ2) ∨ (∃ d, b ρ1 st = .rt d st ∧ Q (.rt d st)))) → Q (forGo bnd b xs ρ st)
  | [], ρ, h, e, _ => e ρ h
  | x :: xs, ρ, h, e, s => by
    obtain ⟨ρ1, h1, h2⟩ := s x xs ρ h
    unfold forGo
    rw [h1]
    rcases h2 with ⟨ρ2, h2, h3⟩ | ⟨d, h2, h3⟩
    · simp only [h2, Fl.seq]
      exact forGo_inv xs h3 e s
    · simp only [h2, Fl.seq]
      exact h3
@[simp] theorem str_inj (x y : String) : (Str.ofString x = Str.ofString y) = (x = y) := by
  apply propext
  constructor
  · intro h
    rw [Str.ofString_eq_toList, Str.ofString_eq_toList] at h
    have h : x.toList.map Char.toNat = y.toList.map Char.toNat := by
      have := congrArg (fun s : Str => s.cps.toList) h
      simpa using this
    have h2 : x.toList = y.toList := by
      have inj : ∀ a b : Char, a.toNat = b.toNat → a = b := fun a b e => Char.ext (UInt32.toNat_inj.mp e)
      have : ∀ (l m : List Char), l.map Char.toNat = m.map Char.toNat → l = m := by
        intro l
        induction l with
        | nil => intro m e; cases m with
          | nil => rfl
          | cons _ _ => cases e
        | cons a l ih => intro m e; cases m with
          | nil => cases e
          | cons b m =>
            simp only [List.map_cons, List.cons.injEq] at e
            rw [inj a b e.1, ih m e.2]
      exact this _ _ h
    exact String.toList_inj.mp h2
  · intro h
    rw [h]
/-- loops over code: named, so that simp leaves them alone -/
def lcE (C : Cal) (elt : E) (tg : T) (own : List Nat) (cond : List E) (xs : List TL.D) (ρ : TL.Env) (st : Sto) : R (List TL.D) := lcGo (fun x => bindT tg x (wipeE ρ own)) (fun ρ st => evAnd1 C cond ρ st) (fun ρ st => ev C elt ρ st) xs st
def forE (C : Cal) (tg : T) (body : List S) (xs : List TL.D) (ρ : TL.Env) (st : Sto) : Fl := forGo (bindT tg) (fun ρ st => execs C body ρ st) xs ρ st
def whileE (C : Cal) (c : E) (body : List S) (n : Nat) (ρ : TL.Env) (st : Sto) : Fl := whileGo (fun ρ st => ev C c ρ st) (fun ρ st => execs C body ρ st) n ρ st
def ropt {α β : Type} (o : Option α) (f : α → R β) : R β := match o with
  | none => .fail
  | some a => f a
def fopt {α : Type} (o : Option α) (f : α → Fl) : Fl := match o with
  | none => .fail
  | some a => f a
def kTup (ds : List TL.D) (st : List TL.D) : R TL.D := .ok (.tup ds) st
def kLst (ds : List TL.D) (st : List TL.D) : R TL.D := .ok (.lst ds) st
def kO1 (o : O1) (d : TL.D) (st : List TL.D) : R TL.D := R.lift st (o1 o d)
def kO2b (o : O2) (x y : TL.D) (st : List TL.D) : R TL.D := R.lift st (o2 o x y)
def kO2 (C : Cal) (o : O2) (b : E) (ρ : TL.Env) (x : TL.D) (st : List TL.D) : R TL.D := (ev C b ρ st).bind (kO2b o x)
def kNot (k : Bool) (st : List TL.D) : R TL.D := .ok (.bl (!k)) st
def kIf (C : Cal) (a b : E) (ρ : TL.Env) (k : Bool) (st : List TL.D) : R TL.D := if k then ev C a ρ st else ev C b ρ st
def kSl5 (d : TL.D) (l h : Option Int) (st : List TL.D) : R TL.D := R.lift st (dCut d l h)
def kSl4 (d : TL.D) (l : Option Int) (h : List TL.D) (st : List TL.D) : R TL.D := (R.lift st (optI h)).bind (kSl5 d l)
def kSl3 (C : Cal) (hi : List E) (ρ : TL.Env) (d : TL.D) (l : Option Int) (st : List TL.D) : R TL.D := (evs C hi ρ st).bind (kSl4 d l)
def kSl2 (C : Cal) (hi : List E) (ρ : TL.Env) (d : TL.D) (l : List TL.D) (st : List TL.D) : R TL.D := (R.lift st (optI l)).bind (kSl3 C hi ρ d)
def kSl1 (C : Cal) (lo hi : List E) (ρ : TL.Env) (d : TL.D) (st : List TL.D) : R TL.D := (evs C lo ρ st).bind (kSl2 C hi ρ d)
def kAnd (C : Cal) (es : List E) (ρ : TL.Env) (k : Bool) (st : List TL.D) : R TL.D := if k then evAnd C es ρ st else .ok (.bl false) st
def kOr (C : Cal) (es : List E) (ρ : TL.Env) (k : Bool) (st : List TL.D) : R TL.D := if k then .ok (.bl true) st else evOr C es ρ st
def kEsb (d : TL.D) (ds : List TL.D) (st : List TL.D) : R (List TL.D) := .ok (d :: ds) st
def kEs (C : Cal) (es : List E) (ρ : TL.Env) (d : TL.D) (st : List TL.D) : R (List TL.D) := (evs C es ρ st).bind (kEsb d)
def kSm (C : Cal) (o : O2) (b : E) (ρ : TL.Env) (x : TL.D) (st : List TL.D) : R TL.D := match x with
  | .str x => (ev C b ρ st).bind (kO2b o (.str x))
  | _ => .fail
def kCh3 (C : Cal) (o : O2) (c : E) (ρ : TL.Env) (y : TL.D) (k : Bool) (st : List TL.D) : R TL.D := if k then (ev C c ρ st).bind (kO2b o y) else .ok (.bl false) st
def kCh2 (C : Cal) (o o' : O2) (c : E) (ρ : TL.Env) (x y : TL.D) (st : List TL.D) : R TL.D := (R.lift st (o2 o x y)).bool (kCh3 C o' c ρ y)
def kCh1 (C : Cal) (o o' : O2) (b c : E) (ρ : TL.Env) (x : TL.D) (st : List TL.D) : R TL.D := (ev C b ρ st).bind (kCh2 C o o' c ρ x)
def kLc2 (C : Cal) (elt : E) (tg : T) (cond : List E) (own : List Nat) (ρ : TL.Env) (st : List TL.D) (xs : List TL.D) : R TL.D := ((lcE C elt tg own cond xs ρ st).quiet).bind kLst
def kLc (C : Cal) (elt : E) (tg : T) (ik : IK) (cond : List E) (own : List Nat) (ρ : TL.Env) (ds : List TL.D) (st : List TL.D) : R TL.D := ropt (items ik ds) (kLc2 C elt tg cond own ρ st)
def kDic (ks : List Str) (ds : List TL.D) (st : List TL.D) : R TL.D := .ok (.dic (ks.zip ds)) st
def kDg3 (kvs : List (Str × TL.D)) (y z : TL.D) (st : List TL.D) : R TL.D := R.lift st (dGet kvs y z)
def kDg2 (C : Cal) (d : E) (ρ : TL.Env) (kvs : List (Str × TL.D)) (y : TL.D) (st : List TL.D) : R TL.D := (ev C d ρ st).bind (kDg3 kvs y)
def kDg1 (C : Cal) (k d : E) (ρ : TL.Env) (x : TL.D) (st : List TL.D) : R TL.D := match x with
  | .dic kvs => (ev C k ρ st).bind (kDg2 C d ρ kvs)
  | _ => .fail
def kSet (i : Nat) (ρ : TL.Env) (d : TL.D) (st : List TL.D) : Fl := if d.own then .fail else .nx (ρ.set i (some d)) st
def kOwn (i : Nat) (ρ : TL.Env) (ds : List TL.D) (st : List TL.D) : Fl := .nx (ρ.set i (some (.mlst ds))) st
def kNx (st : List TL.D) (ρ : TL.Env) : Fl := .nx ρ st
def kUnp (is : List Nat) (ρ : TL.Env) (d : TL.D) (st : List TL.D) : Fl := fopt (bindT (.tp is) d ρ) (kNx st)
def kIfs (C : Cal) (a b : List S) (ρ : TL.Env) (d : TL.D) (st : List TL.D) : Fl := match d with
  | .bl k => if k then execs C a ρ st else execs C b ρ st
  | _ => .fail
def kRet (d : TL.D) (st : List TL.D) : Fl := if d.own then .fail else .rt d st
def kEx (ρ : TL.Env) (d : TL.D) (st : List TL.D) : Fl := .nx ρ st
def kFor2 (C : Cal) (tg : T) (body : List S) (ρ : TL.Env) (st : List TL.D) (xs : List TL.D) : Fl := forE C tg body xs ρ st
def kFor (C : Cal) (tg : T) (ik : IK) (body : List S) (ρ : TL.Env) (ds : List TL.D) (st : List TL.D) : Fl := fopt (items ik ds) (kFor2 C tg body ρ st)
def kApp2 (i : Nat) (ρ : TL.Env) (ds : List TL.D) (d : TL.D) (st : List TL.D) : Fl := if d.own then .fail else if ds.length < sizeLine then .nx (ρ.set i (some (.mlst (ds ++ [d])))) st else .fail
def kApp (C : Cal) (i : Nat) (e : E) (ρ : TL.Env) (st : List TL.D) (x : Option (Option TL.D)) : Fl := match x with
  | some (some (.mlst ds)) => Fl.of ρ (ev C e ρ st) (kApp2 i ρ ds)
  | _ => .fail
def kExt2 (i : Nat) (ρ : TL.Env) (ds : List TL.D) (d : TL.D) (st : List TL.D) : Fl := match d with
  | .lst es => if ds.length + es.length ≤ sizeLine then .nx (ρ.set i (some (.mlst (ds ++ es)))) st else .fail
  | .tup es => if ds.length + es.length ≤ sizeLine then .nx (ρ.set i (some (.mlst (ds ++ es)))) st else .fail
  | _ => .fail
def kExt (C : Cal) (i : Nat) (e : E) (ρ : TL.Env) (st : List TL.D) (x : Option (Option TL.D)) : Fl := match x with
  | some (some (.mlst ds)) => Fl.of ρ (ev C e ρ st) (kExt2 i ρ ds)
  | _ => .fail
def kIn2 (neg : Bool) (y : Option (Option TL.D)) (x : TL.D) (st : List TL.D) : R TL.D := match y with
  | some (some (.mlst ds)) => R.lift st ((inD x (.mlst ds)).map fun b => .bl (if neg then !b else b))
  | some (some (.mset ks)) => R.lift st ((inD x (.mset ks)).map fun b => .bl (if neg then !b else b))
  | _ => .fail
def kUnpL (is : List Nat) (ρ : TL.Env) (d : TL.D) (st : List TL.D) : Fl := match d with
  | .lst ds => if ds.length = is.length then .nx (setAll is ds ρ) st else .fail
  | _ => .fail
def kSrt (d : TL.D) (st : List TL.D) : R TL.D := R.lift st (o1 .sortedSet d)
def kMinN (d : TL.D) (st : List TL.D) : R TL.D := R.lift st (o1 .minN d)
def kLm (C : Cal) (o : O2) (b : E) (ρ : TL.Env) (x : TL.D) (st : List TL.D) : R TL.D := match x with
  | .lst x => (ev C b ρ st).bind (kO2b o (.lst x))
  | _ => .fail
def kOwnd (i : Nat) (ρ : TL.Env) (d : TL.D) (st : List TL.D) : Fl := if isKey d then .nx (ρ.set i (some (.mset [d]))) st else .fail
def kPut2 (i : Nat) (ρ : TL.Env) (ks : List TL.D) (d : TL.D) (st : List TL.D) : Fl := if isKey d && decide (ks.length < sizeLine) then .nx (ρ.set i (some (.mset (if ks.any fun y => y.eqv d then ks else ks ++ [d])))) st else .fail
def kPut (C : Cal) (i : Nat) (e : E) (ρ : TL.Env) (st : List TL.D) (x : Option (Option TL.D)) : Fl := match x with
  | some (some (.mset ks)) => Fl.of ρ (ev C e ρ st) (kPut2 i ρ ks)
  | _ => .fail
def kFrz (i : Nat) (ρ : TL.Env) (st : List TL.D) (x : Option (Option TL.D)) : Fl := match x with
  | some (some (.mlst ds)) => .nx (ρ.set i (some (.lst ds))) st
  | _ => .fail
section simps
variable {α β : Type} {C : Cal} {st : Sto} {ρ : TL.Env}
theorem itRng {k : Int} (h1 : 0 ≤ k) (h2 : k ≤ 100000) : items .rng [.int k] = some ((List.range k.toNat).map fun (i : Nat) => .int (i : Int)) := by
  simp only [items, Int.zero_add]
  rw [if_pos ⟨by omega, by unfold sizeLine; omega⟩]
theorem itRng2 {a k : Int} (h : 0 ≤ a) (h0 : a ≤ 100000) (h1 : 0 ≤ k) (h2 : k ≤ 100000) : items .rng [.int a, .int k] = some ((List.range (k - a).toNat).map fun (i : Nat) => .int (a + (i : Int))) := by
  simp only [items]
  rw [if_pos ⟨by omega, by omega, by omega, by omega, by unfold sizeLine; omega⟩]
@[simp] theorem itTup {ds : List TL.D} : items .tup [.tup ds] = some ds := rfl
@[simp] theorem itLst {ds : List TL.D} : items .lst [.lst ds] = some ds := rfl
@[simp] theorem itFls {ds : List TL.D} : items .fls [.fls ds] = some ds := rfl
@[simp] theorem itEnT {ds : List TL.D} : items .enumT [.tup ds] = some (ds.zipIdx.map fun p => .tup [.int (p.2 : Nat), p.1]) := rfl
@[simp] theorem itEnL {ds : List TL.D} : items .enumL [.lst ds] = some (ds.zipIdx.map fun p => .tup [.int (p.2 : Nat), p.1]) := rfl
@[simp] theorem ropt_some {a : α} {f : α → R β} : ropt (some a) f = f a := by unfold ropt; rfl
@[simp] theorem fopt_some {a : α} {f : α → Fl} : fopt (some a) f = f a := by unfold fopt; rfl
@[simp] theorem bind_ok {a : α} {f : α → List TL.D → R β} : (R.ok a st).bind f = f a st := by unfold R.bind; rfl
@[simp] theorem bind_exc {c : Nat} {f : α → List TL.D → R β} : (R.exc c st).bind f = .exc c st := rfl
@[simp] theorem bind_fail {f : α → List TL.D → R β} : (R.fail).bind f = .fail := rfl
@[simp] theorem bind_ite {p : Prop} [Decidable p] {a b : R α} {f : α → List TL.D → R β} : (if p then a else b).bind f = if p then a.bind f else b.bind f := by split <;> rfl
@[simp] theorem bool_ok {b : Bool} {f : Bool → List TL.D → R TL.D} : (R.ok (.bl b) st).bool f = f b st := by unfold R.bool; rfl
@[simp] theorem bool_exc {c : Nat} {f : Bool → List TL.D → R TL.D} : (R.exc c st).bool f = .exc c st := rfl
@[simp] theorem lift_some {a : α} : R.lift st (some a) = .ok a st := rfl
@[simp] theorem lift_none : R.lift st (none : Option α) = .fail := rfl
@[simp] theorem quiet_ok {a : α} : (R.ok a st).quiet = .ok a st := by unfold R.quiet; rfl
@[simp] theorem of_ok {a : TL.D} {f : TL.D → List TL.D → Fl} : Fl.of ρ (.ok a st) f = f a st := by unfold Fl.of; rfl
@[simp] theorem of_exc {c : Nat} {f : TL.D → List TL.D → Fl} : Fl.of ρ (.exc c st) f = .ex c ρ st := rfl
@[simp] theorem ofs_ok {a : List TL.D} {f : List TL.D → List TL.D → Fl} : Fl.ofs ρ (.ok a st) f = f a st := by unfold Fl.ofs; rfl
@[simp] theorem seq_nx {f : TL.Env → Sto → Fl} : (Fl.nx ρ st).seq f = f ρ st := by unfold Fl.seq; rfl
@[simp] theorem seq_rt {d : TL.D} {f : TL.Env → Sto → Fl} : (Fl.rt d st).seq f = .rt d st := by unfold Fl.seq; rfl
@[simp] theorem seq_ex {c : Nat} {f : TL.Env → Sto → Fl} : (Fl.ex c ρ st).seq f = .ex c ρ st := rfl
@[simp] theorem seq_ite {p : Prop} [Decidable p] {a b : Fl} {f : TL.Env → Sto → Fl} : (if p then a else b).seq f = if p then a.seq f else b.seq f := by split <;> rfl
@[simp] theorem fin_nx : finish (.nx ρ st) = .ok .non st := rfl
@[simp] theorem fin_rt {d : TL.D} : finish (.rt d st) = .ok d st := rfl
@[simp] theorem fin_ex {c : Nat} : finish (.ex c ρ st) = .exc c st := rfl
@[simp] theorem fin_ite {p : Prop} [Decidable p] {a b : Fl} : finish (if p then a else b) = if p then finish a else finish b := by split <;> rfl
@[simp] theorem own_non : TL.D.non.own = false := rfl
@[simp] theorem own_bl {b : Bool} : (TL.D.bl b).own = false := rfl
@[simp] theorem own_int {b : Int} : (TL.D.int b).own = false := rfl
@[simp] theorem own_str {b : Str} : (TL.D.str b).own = false := rfl
@[simp] theorem own_tup {b : List TL.D} : (TL.D.tup b).own = false := rfl
@[simp] theorem own_lst {b : List TL.D} : (TL.D.lst b).own = false := rfl
@[simp] theorem own_fls {b : List TL.D} : (TL.D.fls b).own = false := rfl
@[simp] theorem evv {i : Nat} : ev C (.var i) ρ st = match ρ[i]? with
    | some (some d) => if d.own then .fail else .ok d st
    | _ => .fail := by unfold ev; rfl
@[simp] theorem evc {d : TL.D} : ev C (.con d) ρ st = .ok d st := by unfold ev; rfl
@[simp] theorem evt {es : List E} : ev C (.tup es) ρ st = (evs C es ρ st).bind kTup := by rw [ev] <;> rfl
@[simp] theorem evl {es : List E} : ev C (.lst es) ρ st = (evs C es ρ st).bind kLst := by rw [ev] <;> rfl
@[simp] theorem ev1 {o : O1} {e : E} : ev C (.o1 o e) ρ st = (ev C e ρ st).bind (kO1 o) := by rw [ev] <;> rfl
@[simp] theorem ev2 {o : O2} {a b : E} : ev C (.o2 o a b) ρ st = (ev C a ρ st).bind (kO2 C o b ρ) := by rw [ev] <;> rfl
@[simp] theorem evn {e : E} : ev C (.not e) ρ st = (ev C e ρ st).bool kNot := by rw [ev] <;> rfl
@[simp] theorem evi {c a b : E} : ev C (.ife c a b) ρ st = (ev C c ρ st).bool (kIf C a b ρ) := by rw [ev] <;> rfl
@[simp] theorem evcall {f : Nat} {es : List E} : ev C (.call f es) ρ st = (evs C es ρ st).bind (C f) := by rw [ev] <;> rfl
@[simp] theorem evsl {e : E} {lo hi : List E} : ev C (.sl e lo hi) ρ st = (ev C e ρ st).bind (kSl1 C lo hi ρ) := by rw [ev] <;> rfl
@[simp] theorem evand {es : List E} : ev C (.and es) ρ st = evAnd C es ρ st := by rw [ev]
@[simp] theorem evor {es : List E} : ev C (.or es) ρ st = evOr C es ρ st := by rw [ev]
@[simp] theorem evA1 {e : E} : evAnd C [e] ρ st = ev C e ρ st := by rw [evAnd]
@[simp] theorem evA2 {e f : E} {es : List E} : evAnd C (e :: f :: es) ρ st = (ev C e ρ st).bool (kAnd C (f :: es) ρ) := by
  rw [evAnd]
  · rfl
  · intro h; cases h
@[simp] theorem evO1 {e : E} : evOr C [e] ρ st = ev C e ρ st := by rw [evOr]
@[simp] theorem evO2 {e f : E} {es : List E} : evOr C (e :: f :: es) ρ st = (ev C e ρ st).bool (kOr C (f :: es) ρ) := by
  rw [evOr]
  · rfl
  · intro h; cases h
@[simp] theorem evs0 : evs C [] ρ st = .ok [] st := by rw [evs]
@[simp] theorem evs1 {e : E} {es : List E} : evs C (e :: es) ρ st = (ev C e ρ st).bind (kEs C es ρ) := by rw [evs] <;> rfl
@[simp] theorem evA10 : evAnd1 C [] ρ st = .ok (.bl true) st := by rw [evAnd1]
@[simp] theorem evA11 {e : E} {es : List E} : evAnd1 C (e :: es) ρ st = ev C e ρ st := by rw [evAnd1]
@[simp] theorem evsm {o : O2} {a b : E} : ev C (.sm o a b) ρ st = (ev C a ρ st).bind (kSm C o b ρ) := by
  rw [ev] <;> first | rfl | (congr 1; done) | (congr 1; funext x st; cases x <;> rfl)
@[simp] theorem evch {o o' : O2} {a b c : E} : ev C (.chain o o' a b c) ρ st = (ev C a ρ st).bind (kCh1 C o o' b c ρ) := by rw [ev] <;> rfl
@[simp] theorem evlc {elt : E} {tg : T} {ik : IK} {ie cond : List E} {own : List Nat} : ev C (.lc elt tg ik ie cond own) ρ st = (evs C ie ρ st).bind (kLc C elt tg ik cond own ρ) := by
  rw [ev]
  congr 1
  funext ds st
  unfold kLc ropt kLc2 lcE
  split <;> rename_i h <;> first | rfl | (simp only [h]; done) | (simp only [h]; rfl)
@[simp] theorem ex0 : execs C [] ρ st = .nx ρ st := by rw [execs]
@[simp] theorem ex1 {s : S} {ss : List S} : execs C (s :: ss) ρ st = (exec C s ρ st).seq (execs C ss) := by rw [execs]
@[simp] theorem exset {i : Nat} {e : E} : exec C (.set i e) ρ st = Fl.of ρ (ev C e ρ st) (kSet i ρ) := by rw [exec] <;> rfl
@[simp] theorem exown {i : Nat} {es : List E} : exec C (.own i es) ρ st = Fl.ofs ρ (evs C es ρ st) (kOwn i ρ) := by rw [exec] <;> rfl
@[simp] theorem exunp {is : List Nat} {e : E} : exec C (.unpack is e) ρ st = Fl.of ρ (ev C e ρ st) (kUnp is ρ) := by
  rw [exec]
  congr 1
  funext ds st
  unfold kUnp fopt kNx
  split <;> rename_i h <;> first | rfl | (simp only [h]; done) | (simp only [h]; rfl)
@[simp] theorem exifs {c : E} {a b : List S} : exec C (.ifs c a b) ρ st = Fl.of ρ (ev C c ρ st) (kIfs C a b ρ) := by
  rw [exec] <;> first | rfl | (congr 1; done) | (congr 1; funext x st; cases x <;> rfl)
@[simp] theorem exret {e : E} : exec C (.ret e) ρ st = Fl.of ρ (ev C e ρ st) kRet := by rw [exec] <;> rfl
@[simp] theorem exretN : exec C .retN ρ st = .rt .non st := by rw [exec]
@[simp] theorem exexpr {e : E} : exec C (.expr e) ρ st = Fl.of ρ (ev C e ρ st) (kEx ρ) := by rw [exec] <;> rfl
@[simp] theorem exfor {tg : T} {ik : IK} {ie : List E} {body : List S} : exec C (.for tg ik ie body) ρ st = Fl.ofs ρ (evs C ie ρ st) (kFor C tg ik body ρ) := by
  rw [exec]
  congr 1
  funext ds st
  unfold kFor fopt kFor2 forE
  split <;> rename_i h <;> first | rfl | (simp only [h]; done) | (simp only [h]; rfl)
@[simp] theorem exwhile {c : E} {body : List S} : exec C (.while c body) ρ st = whileE C c body FU ρ st := by unfold whileE; rw [exec]
@[simp] theorem exapp {i : Nat} {e : E} : exec C (.app i e) ρ st = kApp C i e ρ st ρ[i]? := by
  rw [exec]
  unfold kApp
  split <;> rename_i h <;> first | rfl | (simp only [h]; done) | (simp only [h]; rfl)
@[simp] theorem exfrz {i : Nat} : exec C (.freeze i) ρ st = kFrz i ρ st ρ[i]? := by
  rw [exec]
  unfold kFrz
  split <;> rename_i h <;> first | rfl | (simp only [h]; done) | (simp only [h]; rfl)
@[simp] theorem evdic {ks : List Str} {es : List E} : ev C (.dic ks es) ρ st = (evs C es ρ st).bind (kDic ks) := by rw [ev] <;> rfl
@[simp] theorem evdget {e k d : E} : ev C (.dget e k d) ρ st = (ev C e ρ st).bind (kDg1 C k d ρ) := by
  rw [ev] <;> first | rfl | (congr 1; done) | (congr 1; funext x st; cases x <;> rfl)
@[simp] theorem k_Dic {ks : List Str} {ds : List TL.D} : kDic ks ds st = .ok (.dic (ks.zip ds)) st := by unfold kDic; rfl
@[simp] theorem k_Dg1 {k d : E} {kvs : List (Str × TL.D)} : kDg1 C k d ρ (.dic kvs) st = (ev C k ρ st).bind (kDg2 C d ρ kvs) := by unfold kDg1; rfl
@[simp] theorem k_Dg2 {d : E} {kvs : List (Str × TL.D)} {y : TL.D} : kDg2 C d ρ kvs y st = (ev C d ρ st).bind (kDg3 kvs y) := by unfold kDg2; rfl
@[simp] theorem k_Dg3 {kvs : List (Str × TL.D)} {y z : TL.D} : kDg3 kvs y z st = R.lift st (dGet kvs y z) := by unfold kDg3; rfl
@[simp] theorem own_dic {kvs : List (Str × TL.D)} : (TL.D.dic kvs).own = false := rfl
@[simp] theorem exext {i : Nat} {e : E} : exec C (.ext i e) ρ st = kExt C i e ρ st ρ[i]? := by
  rw [exec]
  unfold kExt
  split <;> rename_i h <;> first | rfl | (simp only [h]; done) | (simp only [h]; rfl) | (simp only [h]; congr 1; funext d st; cases d <;> rfl)
@[simp] theorem evin {neg : Bool} {e : E} {i : Nat} : ev C (.inOwn neg e i) ρ st = (ev C e ρ st).bind (kIn2 neg ρ[i]?) := by
  rw [ev] <;> first | rfl | (congr 1; done) | (congr 1; funext x st; unfold kIn2; split <;> rename_i h <;> first | rfl | (simp only [h]; done) | (simp only [h]; rfl))
@[simp] theorem k_Ext2 {i : Nat} {ds es : List TL.D} : kExt2 i ρ ds (.lst es) st = if ds.length + es.length ≤ sizeLine then .nx (ρ.set i (some (.mlst (ds ++ es)))) st else .fail := by unfold kExt2; rfl
@[simp] theorem k_Ext {i : Nat} {e : E} {ds : List TL.D} : kExt C i e ρ st (some (some (.mlst ds))) = Fl.of ρ (ev C e ρ st) (kExt2 i ρ ds) := by unfold kExt; rfl
@[simp] theorem k_In2 {neg : Bool} {x : TL.D} {ds : List TL.D} : kIn2 neg (some (some (.mlst ds))) x st = R.lift st ((inD x (.mlst ds)).map fun b => .bl (if neg then !b else b)) := by unfold kIn2; rfl
@[simp] theorem exunpL {is : List Nat} {e : E} : exec C (.unpackL is e) ρ st = Fl.of ρ (ev C e ρ st) (kUnpL is ρ) := by
  rw [exec] <;> first | rfl | (congr 1; done) | (congr 1; funext x st; cases x <;> rfl)
@[simp] theorem k_UnpL {is : List Nat} {ds : List TL.D} : kUnpL is ρ (.lst ds) st = if ds.length = is.length then .nx (setAll is ds ρ) st else .fail := by unfold kUnpL; rfl
@[simp] theorem evsrt {e : E} : ev C (.srt e) ρ st = (ev C e ρ st).bind kSrt := by rw [ev] <;> rfl
@[simp] theorem evminN {e : E} : ev C (.minN e) ρ st = (ev C e ρ st).bind kMinN := by rw [ev] <;> rfl
@[simp] theorem k_MinN {d : TL.D} : kMinN d st = R.lift st (o1 .minN d) := by unfold kMinN; rfl
@[simp] theorem evlm {o : O2} {a b : E} : ev C (.lm o a b) ρ st = (ev C a ρ st).bind (kLm C o b ρ) := by
  rw [ev] <;> first | rfl | (congr 1; done) | (congr 1; funext x st; cases x <;> rfl)
@[simp] theorem k_Srt {d : TL.D} : kSrt d st = R.lift st (o1 .sortedSet d) := by unfold kSrt; rfl
@[simp] theorem k_Lm {o : O2} {b : E} {x : List TL.D} : kLm C o b ρ (.lst x) st = (ev C b ρ st).bind (kO2b o (.lst x)) := by unfold kLm; rfl
@[simp] theorem exownd {i : Nat} {e : E} : exec C (.ownd i e) ρ st = Fl.of ρ (ev C e ρ st) (kOwnd i ρ) := by rw [exec] <;> rfl
@[simp] theorem k_Ownd {i : Nat} {d : TL.D} : kOwnd i ρ d st = if isKey d then .nx (ρ.set i (some (.mset [d]))) st else .fail := by unfold kOwnd; rfl
@[simp] theorem exput {i : Nat} {e : E} : exec C (.put i e) ρ st = kPut C i e ρ st ρ[i]? := by
  rw [exec]
  unfold kPut
  split <;> rename_i h <;> first | rfl | (simp only [h]; done) | (simp only [h]; rfl)
@[simp] theorem k_Put {i : Nat} {e : E} {ks : List TL.D} : kPut C i e ρ st (some (some (.mset ks))) = Fl.of ρ (ev C e ρ st) (kPut2 i ρ ks) := by unfold kPut; rfl
@[simp] theorem k_Put2 {i : Nat} {ks : List TL.D} {d : TL.D} : kPut2 i ρ ks d st = if isKey d && decide (ks.length < sizeLine) then .nx (ρ.set i (some (.mset (if ks.any fun y => y.eqv d then ks else ks ++ [d])))) st else .fail := by unfold kPut2; rfl
@[simp] theorem k_In2m {neg : Bool} {x : TL.D} {ks : List TL.D} : kIn2 neg (some (some (.mset ks))) x st = R.lift st ((inD x (.mset ks)).map fun b => .bl (if neg then !b else b)) := by unfold kIn2; rfl
@[simp] theorem k_Tup {ds : List TL.D} : kTup ds st = .ok (.tup ds) st := rfl
@[simp] theorem k_Lst {ds : List TL.D} : kLst ds st = .ok (.lst ds) st := rfl
@[simp] theorem k_O1 {o : O1} {d : TL.D} : kO1 o d st = R.lift st (o1 o d) := rfl
@[simp] theorem k_O2b {o : O2} {x y : TL.D} : kO2b o x y st = R.lift st (o2 o x y) := rfl
@[simp] theorem k_O2 {o : O2} {b : E} {x : TL.D} : kO2 C o b ρ x st = (ev C b ρ st).bind (kO2b o x) := rfl
@[simp] theorem k_Not {k : Bool} : kNot k st = .ok (.bl (!k)) st := rfl
@[simp] theorem k_If {a b : E} {k : Bool} : kIf C a b ρ k st = if k then ev C a ρ st else ev C b ρ st := rfl
@[simp] theorem k_Sl5 {d : TL.D} {l h : Option Int} : kSl5 d l h st = R.lift st (dCut d l h) := rfl
@[simp] theorem k_Sl4 {d : TL.D} {l : Option Int} {h : List TL.D} : kSl4 d l h st = (R.lift st (optI h)).bind (kSl5 d l) := rfl
@[simp] theorem k_Sl3 {hi : List E} {d : TL.D} {l : Option Int} : kSl3 C hi ρ d l st = (evs C hi ρ st).bind (kSl4 d l) := rfl
@[simp] theorem k_Sl2 {hi : List E} {d : TL.D} {l : List TL.D} : kSl2 C hi ρ d l st = (R.lift st (optI l)).bind (kSl3 C hi ρ d) := rfl
@[simp] theorem k_Sl1 {lo hi : List E} {d : TL.D} : kSl1 C lo hi ρ d st = (evs C lo ρ st).bind (kSl2 C hi ρ d) := rfl
@[simp] theorem k_And {es : List E} {k : Bool} : kAnd C es ρ k st = if k then evAnd C es ρ st else .ok (.bl false) st := rfl
@[simp] theorem k_Or {es : List E} {k : Bool} : kOr C es ρ k st = if k then .ok (.bl true) st else evOr C es ρ st := rfl
@[simp] theorem k_Esb {d : TL.D} {ds : List TL.D} : kEsb d ds st = .ok (d :: ds) st := rfl
@[simp] theorem k_Es {es : List E} {d : TL.D} : kEs C es ρ d st = (evs C es ρ st).bind (kEsb d) := rfl
@[simp] theorem k_Sm {o : O2} {b : E} {x : Str} : kSm C o b ρ (.str x) st = (ev C b ρ st).bind (kO2b o (.str x)) := rfl
@[simp] theorem k_Ch3 {o : O2} {c : E} {y : TL.D} {k : Bool} : kCh3 C o c ρ y k st = if k then (ev C c ρ st).bind (kO2b o y) else .ok (.bl false) st := rfl
@[simp] theorem k_Ch2 {o o' : O2} {c : E} {x y : TL.D} : kCh2 C o o' c ρ x y st = (R.lift st (o2 o x y)).bool (kCh3 C o' c ρ y) := rfl
@[simp] theorem k_Ch1 {o o' : O2} {b c : E} {x : TL.D} : kCh1 C o o' b c ρ x st = (ev C b ρ st).bind (kCh2 C o o' c ρ x) := rfl
@[simp] theorem k_Lc2 {elt : E} {tg : T} {cond : List E} {own : List Nat} {xs : List TL.D} : kLc2 C elt tg cond own ρ st xs = ((lcE C elt tg own cond xs ρ st).quiet).bind kLst := rfl
@[simp] theorem k_Lc {elt : E} {tg : T} {ik : IK} {cond : List E} {own : List Nat} {ds : List TL.D} : kLc C elt tg ik cond own ρ ds st = ropt (items ik ds) (kLc2 C elt tg cond own ρ st) := by rw [kLc]
@[simp] theorem k_Set {i : Nat} {d : TL.D} : kSet i ρ d st = if d.own then .fail else .nx (ρ.set i (some d)) st := rfl
@[simp] theorem k_Own {i : Nat} {ds : List TL.D} : kOwn i ρ ds st = .nx (ρ.set i (some (.mlst ds))) st := rfl
@[simp] theorem k_Nx : kNx st ρ = .nx ρ st := rfl
@[simp] theorem k_Unp {is : List Nat} {d : TL.D} : kUnp is ρ d st = fopt (bindT (.tp is) d ρ) (kNx st) := rfl
@[simp] theorem k_Ifs {a b : List S} {k : Bool} : kIfs C a b ρ (.bl k) st = if k then execs C a ρ st else execs C b ρ st := rfl
@[simp] theorem k_Ret {d : TL.D} : kRet d st = if d.own then .fail else .rt d st := rfl
@[simp] theorem k_Ex {d : TL.D} : kEx ρ d st = .nx ρ st := rfl
@[simp] theorem k_For2 {tg : T} {body : List S} {xs : List TL.D} : kFor2 C tg body ρ st xs = forE C tg body xs ρ st := rfl
@[simp] theorem k_For {tg : T} {ik : IK} {body : List S} {ds : List TL.D} : kFor C tg ik body ρ ds st = fopt (items ik ds) (kFor2 C tg body ρ st) := by rw [kFor]
@[simp] theorem k_App2 {i : Nat} {ds : List TL.D} {d : TL.D} : kApp2 i ρ ds d st = if d.own then .fail else if ds.length < sizeLine then .nx (ρ.set i (some (.mlst (ds ++ [d])))) st else .fail := rfl
@[simp] theorem k_App {i : Nat} {e : E} {ds : List TL.D} : kApp C i e ρ st (some (some (.mlst ds))) = Fl.of ρ (ev C e ρ st) (kApp2 i ρ ds) := rfl
@[simp] theorem k_Frz {i : Nat} {ds : List TL.D} : kFrz i ρ st (some (some (.mlst ds))) = .nx (ρ.set i (some (.lst ds))) st := rfl
@[simp] theorem atI0 {x : α} {xs : List α} : atI (x :: xs) 0 = some x := by
  unfold atI ixN
  simp
@[simp] theorem atI1 {x y : α} {xs : List α} : atI (x :: y :: xs) 1 = some y := by
  unfold atI ixN
  have : ((1 : Int) < ((xs.length : Int) + 1 + 1)) := by omega
  simp [this]
@[simp] theorem atI2 {x y z : α} {xs : List α} : atI (x :: y :: z :: xs) 2 = some z := by
  unfold atI ixN
  have : ((2 : Int) < ((xs.length : Int) + 1 + 1 + 1)) := by omega
  simp [this]
theorem atI_nat {xs : List α} {k : Int} {x : α} (h : 0 ≤ k) (e : xs[k.toNat]? = some x) : atI xs k = some x := by
  have hl : k.toNat < xs.length := (List.getElem?_eq_some_iff.mp e).1
  unfold atI ixN
  rw [if_pos h, if_pos (by omega)]
  exact e
@[simp] theorem oIx {xs : List TL.D} {i : Int} : o2 .ix (.tup xs) (.int i) = atI xs i := rfl
@[simp] theorem oIxl {xs : List TL.D} {i : Int} : o2 .ix (.lst xs) (.int i) = atI xs i := rfl
@[simp] theorem oIxf {xs : List TL.D} {i : Int} : o2 .ix (.fls xs) (.int i) = atI xs i := rfl
@[simp] theorem oAdd {i j : Int} : o2 .add (.int i) (.int j) = some (.int (i + j)) := rfl
@[simp] theorem oSub {i j : Int} : o2 .sub (.int i) (.int j) = some (.int (i - j)) := rfl
@[simp] theorem oLt {i j : Int} : o2 .lt (.int i) (.int j) = some (.bl (decide (i < j))) := rfl
@[simp] theorem oGt {i j : Int} : o2 .gt (.int i) (.int j) = some (.bl (decide (j < i))) := rfl
@[simp] theorem oLe {i j : Int} : o2 .le (.int i) (.int j) = some (.bl (decide (i ≤ j))) := rfl
@[simp] theorem oGe {i j : Int} : o2 .ge (.int i) (.int j) = some (.bl (decide (j ≤ i))) := rfl
@[simp] theorem oEq {a b : TL.D} : o2 .eq a b = dEq a b := rfl
@[simp] theorem oNe {a b : TL.D} : o2 .ne a b = dNe a b := rfl
@[simp] theorem oIn {a b : TL.D} : o2 .isIn a b = dIn a b := rfl
@[simp] theorem oNotIn {a b : TL.D} : o2 .notIn a b = dNotIn a b := rfl
@[simp] theorem dEqi {i j : Int} : dEq (.int i) (.int j) = some (.bl (decide (i = j))) := by
  rw [dEq_ok (okD_int 0 i) (okD_int 0 j) (by decide) (by decide), eqv_int]
@[simp] theorem dNei {i j : Int} : dNe (.int i) (.int j) = some (.bl (!decide (i = j))) := by
  rw [dNe_ok (okD_int 0 i) (okD_int 0 j) (by decide) (by decide), eqv_int]
theorem dEqs {x y : Str} (h : PyData.strOk x = true) (k : PyData.strOk y = true) : dEq (.str x) (.str y) = some (.bl (decide (x = y))) := by
  rw [dEq_ok (okD_str 0 h) (okD_str 0 k) (by decide) (by decide), eqv_str]
theorem dNes {x y : Str} (h : PyData.strOk x = true) (k : PyData.strOk y = true) : dNe (.str x) (.str y) = some (.bl (!decide (x = y))) := by
  rw [dNe_ok (okD_str 0 h) (okD_str 0 k) (by decide) (by decide), eqv_str]
@[simp] theorem strOk_of (x : String) : PyData.strOk (Str.ofString x) = true := by
  rw [Str.ofString_eq_toList]
  unfold PyData.strOk
  rw [← Array.all_toList]
  simp only [List.all_eq_true, List.mem_map]
  rintro _ ⟨c, _, rfl⟩
  have := c.valid
  simp only [decide_eq_true_eq]
  rcases this with h | h
  · exact Nat.lt_trans h (by decide)
  · exact h.2
@[simp] theorem oLent {ds : List TL.D} : o1 .len (.tup ds) = some (.int ds.length) := rfl
@[simp] theorem oLenl {ds : List TL.D} : o1 .len (.lst ds) = some (.int ds.length) := rfl
@[simp] theorem oLenf {ds : List TL.D} : o1 .len (.fls ds) = some (.int ds.length) := rfl
@[simp] theorem oTupl {ds : List TL.D} : o1 .tuple (.lst ds) = some (.tup ds) := rfl
@[simp] theorem oLstt {ds : List TL.D} : o1 .list (.tup ds) = some (.lst ds) := rfl
@[simp] theorem oLstl {ds : List TL.D} : o1 .list (.lst ds) = some (.lst ds) := rfl
@[simp] theorem oInt {b : Bool} : o1 .int (.bl b) = some (.int (if b then 1 else 0)) := rfl
@[simp] theorem oIsS {x : Str} : o1 .isStr (.str x) = some (.bl true) := rfl
@[simp] theorem oIsT {x : List TL.D} : o1 .isStr (.tup x) = some (.bl false) := rfl
@[simp] theorem oNone : o1 .isNone .non = some (.bl true) := rfl
@[simp] theorem oNonei {i : Int} : o1 .isNone (.int i) = some (.bl false) := rfl
@[simp] theorem oNonet {i : List TL.D} : o1 .isNone (.tup i) = some (.bl false) := rfl
@[simp] theorem oNNone : o1 .notNone .non = some (.bl false) := rfl
@[simp] theorem oNNonei {i : Int} : o1 .notNone (.int i) = some (.bl true) := rfl
@[simp] theorem oNNonet {i : List TL.D} : o1 .notNone (.tup i) = some (.bl true) := rfl
theorem oMod {i j : Int} (h : 0 < j) : o2 .mod (.int i) (.int j) = some (.int (i % j)) := by
  show TL.dMod (.int i) (.int j) = _
  unfold TL.dMod
  simp only [h, if_true]
theorem oDiv {i j : Int} (h : 0 < j) (k : j < 1073741824) : o2 .div (.int i) (.int j) = some (.int (i / j)) := by
  show TL.dDiv (.int i) (.int j) = _
  unfold TL.dDiv
  simp only [h, k, and_self, if_true]
theorem oMul {i j : Int} (h : (-(2 ^ 64) < i ∧ i < 2 ^ 64) ∨ (-(2 ^ 64) < j ∧ j < 2 ^ 64)) : o2 .mul (.int i) (.int j) = some (.int (i * j)) := by
  show TL.dMul (.int i) (.int j) = _
  unfold TL.dMul
  simp only [h, if_true]
theorem lcE_ex {elt : E} {tg : T} {own : List Nat} {cond : List E} {P : TL.D → Prop} {xs : List TL.D} (h : ∀ x ∈ xs, ∃ ρ' d, bindT tg x (wipeE ρ own) = some ρ' ∧ evAnd1 C cond ρ' st = .ok (.bl true) st ∧ ev C elt ρ' st = .ok d st ∧ d.own = false ∧ P d) :
    ∃ ds, lcE C elt tg own cond xs ρ st = .ok ds st ∧ ds.length = xs.length ∧ ∀ d ∈ ds, P d := lcGo_ex h
theorem lcE_map {elt : E} {tg : T} {own : List Nat} {cond : List E} {p : TL.D → Bool} {g : TL.D → TL.D} {xs : List TL.D} (h : ∀ x ∈ xs, ∃ ρ', bindT tg x (wipeE ρ own) = some ρ' ∧ evAnd1 C cond ρ' st = .ok (.bl (p x)) st ∧ (p x = true → ev C elt ρ' st = .ok (g x) st ∧ (g x).own = false)) :
    lcE C elt tg own cond xs ρ st = .ok ((xs.filter p).map g) st := lcGo_map h
theorem lcE_all {elt : E} {tg : T} {own : List Nat} {cond : List E} {g : TL.D → TL.D} {xs : List TL.D} (h : ∀ x ∈ xs, ∃ ρ', bindT tg x (wipeE ρ own) = some ρ' ∧ evAnd1 C cond ρ' st = .ok (.bl true) st ∧ ev C elt ρ' st = .ok (g x) st ∧ (g x).own = false) :
    lcE C elt tg own cond xs ρ st = .ok (xs.map g) st := lcGo_all h
theorem forE_nil {tg : T} {body : List S} : forE C tg body [] ρ st = .nx ρ st := rfl
theorem forE_cons {tg : T} {body : List S} {x : TL.D} {xs : List TL.D} {ρ1 : TL.Env} (h : bindT tg x ρ = some ρ1) : forE C tg body (x :: xs) ρ st = (execs C body ρ1 st).seq (forE C tg body xs) := by
  unfold forE
  rw [forGo, h]
/-- a turn of a for, and what is left -/
def kForS (C : Cal) (tg : T) (body : List S) (xs : List TL.D) (st : List TL.D) (ρ : TL.Env) : Fl := (execs C body ρ st).seq (forE C tg body xs)
theorem k_ForS {tg : T} {body : List S} {xs : List TL.D} : kForS C tg body xs st ρ = (execs C body ρ st).seq (forE C tg body xs) := by unfold kForS; rfl
theorem forE_c {tg : T} {body : List S} {x : TL.D} {xs : List TL.D} : forE C tg body (x :: xs) ρ st = fopt (bindT tg x ρ) (kForS C tg body xs st) := by
  cases h : bindT tg x ρ with
  | none => unfold forE; rw [forGo, h]; rfl
  | some ρ1 => rw [forE_cons h]; rfl
theorem ite_ok {p : Prop} [Decidable p] {a b : α} : (if p then R.ok a st else R.ok b st) = R.ok (if p then a else b) st := by split <;> rfl
theorem ite_bl {p : Prop} [Decidable p] {a b : Bool} : (if p then TL.D.bl a else TL.D.bl b) = TL.D.bl (if p then a else b) := by split <;> rfl
theorem ite_int {p : Prop} [Decidable p] {a b : Int} : (if p then TL.D.int a else TL.D.int b) = TL.D.int (if p then a else b) := by split <;> rfl
theorem ite_rt {p : Prop} [Decidable p] {a b : TL.D} : (if p then Fl.rt a st else Fl.rt b st) = Fl.rt (if p then a else b) st := by split <;> rfl
theorem of_ite {p : Prop} [Decidable p] {a b : R TL.D} {f : TL.D → List TL.D → Fl} : Fl.of ρ (if p then a else b) f = if p then Fl.of ρ a f else Fl.of ρ b f := by split <;> rfl
theorem bool_ite {p : Prop} [Decidable p] {a b : R TL.D} {f : Bool → List TL.D → R TL.D} : (if p then a else b).bool f = if p then a.bool f else b.bool f := by split <;> rfl
/-- a call -/
theorem run_c {P : List Fn} {n f : Nat} {F : Fn} {ds : List TL.D} {st : Sto} (h : P[f]? = some F) (k : ds.length = F.np) (hl : F.lam = false := by rfl) : TL.run P (n+1) f ds st = TL.finish (TL.execs (TL.run P n) F.body (enter F ds) st) := by
  simp only [TL.run, h, k, hl, if_true, Bool.false_eq_true, if_false]
theorem cut_from {α : Type} (xs : List α) (k : Nat) : cutD xs (some (k : Int)) none = xs.drop k := by
  have e : HT.sIx xs.length 0 (some (k : Int)) = min k xs.length := by
    show (if (k : Int) < 0 then ((k : Int) + (xs.length : Int)).toNat else min (k : Int).toNat xs.length) = _
    rw [if_neg (by omega), Int.toNat_natCast]
  have e2 : HT.sIx xs.length xs.length none = xs.length := rfl
  unfold cutD
  rw [e, e2]
  by_cases h : k ≤ xs.length
  · rw [Nat.min_eq_left h]
    exact List.take_of_length_le (by simp)
  · rw [Nat.min_eq_right (by omega), List.drop_of_length_le (Nat.le_refl _), List.drop_of_length_le (by omega), List.take_nil]
theorem cut_to {α : Type} (xs : List α) (k : Nat) : cutD xs none (some (k : Int)) = xs.take k := by
  have e : HT.sIx xs.length xs.length (some (k : Int)) = min k xs.length := by
    show (if (k : Int) < 0 then ((k : Int) + (xs.length : Int)).toNat else min (k : Int).toNat xs.length) = _
    rw [if_neg (by omega), Int.toNat_natCast]
  have e2 : HT.sIx xs.length 0 none = 0 := rfl
  unfold cutD
  rw [e, e2, List.drop_zero, Nat.sub_zero]
  by_cases h : k ≤ xs.length
  · rw [Nat.min_eq_left h]
  · rw [Nat.min_eq_right (by omega), List.take_of_length_le (Nat.le_refl _), List.take_of_length_le (by omega)]
@[simp] theorem cutT {ds : List TL.D} {lo hi : Option Int} : dCut (.tup ds) lo hi = some (.tup (cutD ds lo hi)) := rfl
@[simp] theorem cutL {ds : List TL.D} {lo hi : Option Int} : dCut (.lst ds) lo hi = some (.lst (cutD ds lo hi)) := rfl
@[simp] theorem opt0 : optI [] = some none := rfl
@[simp] theorem opt1 {i : Int} : optI [.int i] = some (some i) := rfl
@[simp] theorem cut_from1 {α : Type} (x : α) (xs : List α) : cutD (x :: xs) (some 1) none = xs := cut_from (x :: xs) 1
theorem oAddl {a b : List TL.D} (h : a.length + b.length ≤ 100000) : o2 .add (.lst a) (.lst b) = some (.lst (a ++ b)) := by
  show TL.dAdd (.lst a) (.lst b) = _
  unfold TL.dAdd
  simp only
  rw [if_pos (by unfold sizeLine; omega)]
theorem oAddt {a b : List TL.D} (h : a.length + b.length ≤ 100000) : o2 .add (.tup a) (.tup b) = some (.tup (a ++ b)) := by
  show TL.dAdd (.tup a) (.tup b) = _
  unfold TL.dAdd
  simp only
  rw [if_pos (by unfold sizeLine; omega)]
@[simp] theorem bnm {i : Nat} {d : TL.D} : bindT (.nm i) d ρ = if d.own then none else some (ρ.set i (some d)) := rfl
@[simp] theorem btp {is : List Nat} {ds : List TL.D} : bindT (.tp is) (.tup ds) ρ = if ds.length = is.length then some (setAll is ds ρ) else none := rfl
@[simp] theorem sa0 {ds : List TL.D} : setAll [] ds ρ = ρ := by unfold setAll; rfl
@[simp] theorem sa1 {i : Nat} {is : List Nat} {d : TL.D} {ds : List TL.D} : setAll (i :: is) (d :: ds) ρ = setAll is ds (ρ.set i (some d)) := rfl
@[simp] theorem wi0 : wipeE ρ [] = ρ := rfl
@[simp] theorem wi1 {v : Nat} {vs : List Nat} : wipeE ρ (v :: vs) = (wipeE ρ vs).set v none := rfl
end simps
end TL

namespace TL
open PySem hiding run execs exec finish Env
open L2
def kFld (c f : Str) (x : TL.D) (st : List TL.D) : R TL.D := R.lift st (fldD st c x f)
def kMeth2 (C : Cal) (i : Nat) (x : TL.D) (ds : List TL.D) (st : List TL.D) : R TL.D := C i (x :: ds) st
def kMeth (C : Cal) (i : Nat) (c m : Str) (es : List E) (ρ : TL.Env) (x : TL.D) (st : List TL.D) : R TL.D := if hasM st c x m then (evs C es ρ st).bind (kMeth2 C i x) else .fail
def kMake (C : Cal) (i : Nat) (c : Str) (ds : List TL.D) (st : List TL.D) : R TL.D := mkR st.length (C i (.ref st.length :: ds) (st ++ [.ins c []]))
def kSetF3 (ρ : TL.Env) (st : List TL.D) : Fl := .nx ρ st
def kSetF2 (c f : Str) (ρ : TL.Env) (d x : TL.D) (st : List TL.D) : Fl := fopt (setFD st c x f d) (kSetF3 ρ)
def kSetF (C : Cal) (c : Str) (e : E) (f : Str) (ρ : TL.Env) (d : TL.D) (st : List TL.D) : Fl := Fl.of ρ (ev C e ρ st) (kSetF2 c f ρ d)
def kPix2 (x y : TL.D) (st : List TL.D) : R TL.D := R.lift st (pixD st x y)
def kPix (C : Cal) (k : E) (ρ : TL.Env) (x : TL.D) (st : List TL.D) : R TL.D := (ev C k ρ st).bind (kPix2 x)
def kPin2 (neg : Bool) (x y : TL.D) (st : List TL.D) : R TL.D := R.lift st (pinD neg st x y)
def kPin (C : Cal) (neg : Bool) (e : E) (ρ : TL.Env) (x : TL.D) (st : List TL.D) : R TL.D := (ev C e ρ st).bind (kPin2 neg x)
def kPsort (x : TL.D) (st : List TL.D) : R TL.D := R.lift st (psortD st x)
def kPitems (x : TL.D) (st : List TL.D) : R TL.D := R.lift st (pitemsD st x)
def kPtup (x : TL.D) (st : List TL.D) : R TL.D := R.lift st (ptupD st x)
def kPapp2 (ρ : TL.Env) (p d : TL.D) (st : List TL.D) : Fl := Fl.opt ρ (pappD st p d)
def kPapp (C : Cal) (x : E) (ρ : TL.Env) (p : TL.D) (st : List TL.D) : Fl := if isML st p = false then .fail else Fl.of ρ (ev C x ρ st) (kPapp2 ρ p)
def kPput3 (ρ : TL.Env) (d p y : TL.D) (st : List TL.D) : Fl := Fl.opt ρ (pputD st p y d)
def kPput2 (C : Cal) (k : E) (ρ : TL.Env) (d p : TL.D) (st : List TL.D) : Fl := Fl.of ρ (ev C k ρ st) (kPput3 ρ d p)
def kPput (C : Cal) (e k : E) (ρ : TL.Env) (d : TL.D) (st : List TL.D) : Fl := Fl.of ρ (ev C e ρ st) (kPput2 C k ρ d)
def kPls3 (ρ : TL.Env) (d p y : TL.D) (st : List TL.D) : Fl := Fl.opt ρ (plsetD st p y d)
def kPls2 (C : Cal) (k : E) (ρ : TL.Env) (d p : TL.D) (st : List TL.D) : Fl := Fl.of ρ (ev C k ρ st) (kPls3 ρ d p)
def kPls (C : Cal) (e k : E) (ρ : TL.Env) (d : TL.D) (st : List TL.D) : Fl := Fl.of ρ (ev C e ρ st) (kPls2 C k ρ d)
def kPpop2 (ρ : TL.Env) (p y : TL.D) (st : List TL.D) : Fl := Fl.opt ρ (ppopD st p y)
def kPpop (C : Cal) (k : E) (ρ : TL.Env) (p : TL.D) (st : List TL.D) : Fl := if isMD st p = false then .fail else Fl.of ρ (ev C k ρ st) (kPpop2 ρ p)
def kSetN3 (c f : Str) (ρ : TL.Env) (d x : TL.D) (st : List TL.D) : Fl := Fl.opt ρ (setND st c x f d)
def kSetN2 (C : Cal) (c : Str) (e : E) (f : Str) (w : NK) (ρ : TL.Env) (st : List TL.D) (d : TL.D) : Fl := if okN w ρ = false then .fail else Fl.of ρ (ev C e ρ st) (kSetN3 c f ρ d)
def kSetN (C : Cal) (c : Str) (e : E) (f : Str) (w : NK) (ρ : TL.Env) (ds : List TL.D) (st : List TL.D) : Fl := fopt (newD w ds) (kSetN2 C c e f w ρ st)
def kDz2 (x y : TL.D) (st : List TL.D) : R TL.D := R.lift st (dzD x y)
def kDz (C : Cal) (b : E) (ρ : TL.Env) (x : TL.D) (st : List TL.D) : R TL.D := (ev C b ρ st).bind (kDz2 x)
section simps
variable {α β : Type} {C : Cal} {st : Sto} {ρ : TL.Env}
@[simp] theorem own_ref {l : Nat} : (TL.D.ref l).own = false := rfl
@[simp] theorem ofs_exc {c : Nat} {f : List TL.D → List TL.D → Fl} : Fl.ofs ρ (.exc c st) f = .ex c ρ st := rfl
@[simp] theorem quiet_exc {c : Nat} : (R.exc c st : R α).quiet = .fail := rfl
@[simp] theorem evfld {c f : Str} {e : E} : ev C (.fld c e f) ρ st = (ev C e ρ st).bind (kFld c f) := by rw [ev] <;> rfl
@[simp] theorem k_Fld {c f : Str} {x : TL.D} : kFld c f x st = R.lift st (fldD st c x f) := by unfold kFld; rfl
@[simp] theorem evmeth {i : Nat} {c m : Str} {e : E} {es : List E} : ev C (.meth i c m e es) ρ st = (ev C e ρ st).bind (kMeth C i c m es ρ) := by rw [ev] <;> rfl
@[simp] theorem k_Meth2 {i : Nat} {x : TL.D} {ds : List TL.D} : kMeth2 C i x ds st = C i (x :: ds) st := by unfold kMeth2; rfl
@[simp] theorem k_Meth {i : Nat} {c m : Str} {es : List E} {x : TL.D} : kMeth C i c m es ρ x st = if hasM st c x m then (evs C es ρ st).bind (kMeth2 C i x) else .fail := by unfold kMeth; rfl
@[simp] theorem evmake {i : Nat} {c : Str} {es : List E} : ev C (.make i c es) ρ st = (evs C es ρ st).bind (kMake C i c) := by rw [ev] <;> rfl
@[simp] theorem k_Make {i : Nat} {c : Str} {ds : List TL.D} : kMake C i c ds st = mkR st.length (C i (.ref st.length :: ds) (st ++ [.ins c []])) := by unfold kMake; rfl
@[simp] theorem mk_ok {l : Nat} : mkR l (.ok .non st) = .ok (.ref l) st := by unfold mkR; rfl
@[simp] theorem exsetF {c f : Str} {e v : E} : exec C (.setF c e f v) ρ st = Fl.of ρ (ev C v ρ st) (kSetF C c e f ρ) := by
  rw [exec]
  congr 1
  funext d st
  unfold kSetF
  congr 1
  funext x st
  unfold kSetF2 fopt kSetF3
  split <;> rename_i h <;> first | rfl | (simp only [h]; done) | (simp only [h]; rfl)
@[simp] theorem k_SetF {c f : Str} {e : E} {d : TL.D} : kSetF C c e f ρ d st = Fl.of ρ (ev C e ρ st) (kSetF2 c f ρ d) := by unfold kSetF; rfl
@[simp] theorem k_SetF2 {c f : Str} {d x : TL.D} : kSetF2 c f ρ d x st = fopt (setFD st c x f d) (kSetF3 ρ) := by unfold kSetF2; rfl
@[simp] theorem k_SetF3 : kSetF3 ρ st = .nx ρ st := by unfold kSetF3; rfl
@[simp] theorem exraise {c : Nat} : exec C (.raise c) ρ st = .ex c ρ st := by rw [exec]
@[simp] theorem extry {body : List S} {j : Nat} {cs ncs : List Nat} {ret : Bool} {i : Nat} {d : TL.D} : exec C (.tryS body j cs ncs ret i d) ρ st = Fl.catch cs ncs ret i d (execs C body ρ st) := by rw [exec]
@[simp] theorem catch_nx {cs ncs : List Nat} {ret : Bool} {i : Nat} {d : TL.D} : Fl.catch cs ncs ret i d (.nx ρ st) = .nx ρ st := by unfold Fl.catch; rfl
@[simp] theorem catch_rt {cs ncs : List Nat} {ret : Bool} {i : Nat} {d d' : TL.D} : Fl.catch cs ncs ret i d (.rt d' st) = .rt d' st := by unfold Fl.catch; rfl
@[simp] theorem catch_ex {cs ncs : List Nat} {ret : Bool} {i : Nat} {d : TL.D} {c : Nat} : Fl.catch cs ncs ret i d (.ex c ρ st) = if c ∈ cs then (if ret then .rt d st else .nx (ρ.set i (some d)) st) else if c ∈ ncs then .ex c ρ st else .fail := by unfold Fl.catch; rfl
@[simp] theorem own_ptr' {l : Nat} {p : List Str} : (TL.D.ptr l p).own = false := rfl
@[simp] theorem opt_some' : Fl.opt ρ (some st) = .nx ρ st := rfl
@[simp] theorem evpix {e k : E} : ev C (.pix e k) ρ st = (ev C e ρ st).bind (kPix C k ρ) := by rw [ev] <;> rfl
@[simp] theorem k_Pix {k : E} {x : TL.D} : kPix C k ρ x st = (ev C k ρ st).bind (kPix2 x) := by unfold kPix; rfl
@[simp] theorem k_Pix2 {x y : TL.D} : kPix2 x y st = R.lift st (pixD st x y) := by unfold kPix2; rfl
@[simp] theorem evpin {neg : Bool} {x e : E} : ev C (.pin neg x e) ρ st = (ev C x ρ st).bind (kPin C neg e ρ) := by rw [ev] <;> rfl
@[simp] theorem k_Pin {neg : Bool} {e : E} {x : TL.D} : kPin C neg e ρ x st = (ev C e ρ st).bind (kPin2 neg x) := by unfold kPin; rfl
@[simp] theorem k_Pin2 {neg : Bool} {x y : TL.D} : kPin2 neg x y st = R.lift st (pinD neg st x y) := by unfold kPin2; rfl
@[simp] theorem evpsort {e : E} : ev C (.psort e) ρ st = (ev C e ρ st).bind kPsort := by rw [ev] <;> rfl
@[simp] theorem k_Psort {x : TL.D} : kPsort x st = R.lift st (psortD st x) := by unfold kPsort; rfl
@[simp] theorem evpitems {e : E} : ev C (.pitems e) ρ st = (ev C e ρ st).bind kPitems := by rw [ev] <;> rfl
@[simp] theorem k_Pitems {x : TL.D} : kPitems x st = R.lift st (pitemsD st x) := by unfold kPitems; rfl
@[simp] theorem evdzip {a b : E} : ev C (.dzip a b) ρ st = (ev C a ρ st).bind (kDz C b ρ) := by rw [ev] <;> rfl
@[simp] theorem k_Dz {b : E} {x : TL.D} : kDz C b ρ x st = (ev C b ρ st).bind (kDz2 x) := by unfold kDz; rfl
@[simp] theorem k_Dz2 {x y : TL.D} : kDz2 x y st = R.lift st (dzD x y) := by unfold kDz2; rfl
@[simp] theorem evptup {e : E} : ev C (.ptup e) ρ st = (ev C e ρ st).bind kPtup := by rw [ev] <;> rfl
@[simp] theorem k_Ptup {x : TL.D} : kPtup x st = R.lift st (ptupD st x) := by unfold kPtup; rfl
@[simp] theorem expapp {e x : E} : exec C (.papp e x) ρ st = Fl.of ρ (ev C e ρ st) (kPapp C x ρ) := by rw [exec]; rfl
@[simp] theorem k_Papp {x : E} {p : TL.D} : kPapp C x ρ p st = if isML st p = false then .fail else Fl.of ρ (ev C x ρ st) (kPapp2 ρ p) := by unfold kPapp; rfl
@[simp] theorem k_Papp2 {p d : TL.D} : kPapp2 ρ p d st = Fl.opt ρ (pappD st p d) := by unfold kPapp2; rfl
@[simp] theorem expput {e k v : E} : exec C (.pput e k v) ρ st = Fl.of ρ (ev C v ρ st) (kPput C e k ρ) := by rw [exec]; rfl
@[simp] theorem k_Pput {e k : E} {d : TL.D} : kPput C e k ρ d st = Fl.of ρ (ev C e ρ st) (kPput2 C k ρ d) := by unfold kPput; rfl
@[simp] theorem k_Pput2 {k : E} {d p : TL.D} : kPput2 C k ρ d p st = Fl.of ρ (ev C k ρ st) (kPput3 ρ d p) := by unfold kPput2; rfl
@[simp] theorem k_Pput3 {d p y : TL.D} : kPput3 ρ d p y st = Fl.opt ρ (pputD st p y d) := by unfold kPput3; rfl
@[simp] theorem explset {e k v : E} : exec C (.plset e k v) ρ st = Fl.of ρ (ev C v ρ st) (kPls C e k ρ) := by rw [exec]; rfl
@[simp] theorem k_Pls {e k : E} {d : TL.D} : kPls C e k ρ d st = Fl.of ρ (ev C e ρ st) (kPls2 C k ρ d) := by unfold kPls; rfl
@[simp] theorem k_Pls2 {k : E} {d p : TL.D} : kPls2 C k ρ d p st = Fl.of ρ (ev C k ρ st) (kPls3 ρ d p) := by unfold kPls2; rfl
@[simp] theorem k_Pls3 {d p y : TL.D} : kPls3 ρ d p y st = Fl.opt ρ (plsetD st p y d) := by unfold kPls3; rfl
@[simp] theorem exppop {e k : E} : exec C (.ppop e k) ρ st = Fl.of ρ (ev C e ρ st) (kPpop C k ρ) := by rw [exec]; rfl
@[simp] theorem k_Ppop {k : E} {p : TL.D} : kPpop C k ρ p st = if isMD st p = false then .fail else Fl.of ρ (ev C k ρ st) (kPpop2 ρ p) := by unfold kPpop; rfl
@[simp] theorem k_Ppop2 {p y : TL.D} : kPpop2 ρ p y st = Fl.opt ρ (ppopD st p y) := by unfold kPpop2; rfl
@[simp] theorem exsetN {c f : Str} {e : E} {w : NK} {ie : List E} : exec C (.setN c e f w ie) ρ st = Fl.ofs ρ (evs C ie ρ st) (kSetN C c e f w ρ) := by
  rw [exec]
  congr 1
  funext ds st
  unfold kSetN fopt kSetN2
  cases newD w ds <;> rfl
@[simp] theorem k_SetN {c f : Str} {e : E} {w : NK} {ds : List TL.D} : kSetN C c e f w ρ ds st = fopt (newD w ds) (kSetN2 C c e f w ρ st) := by unfold kSetN; rfl
@[simp] theorem k_SetN2 {c f : Str} {e : E} {w : NK} {d : TL.D} : kSetN2 C c e f w ρ st d = if okN w ρ = false then .fail else Fl.of ρ (ev C e ρ st) (kSetN3 c f ρ d) := by unfold kSetN2; rfl
@[simp] theorem k_SetN3 {c f : Str} {d x : TL.D} : kSetN3 c f ρ d x st = Fl.opt ρ (setND st c x f d) := by unfold kSetN3; rfl
end simps
end TL

namespace TL
open PySem hiding run execs exec finish Env
theorem split_sp {parts : List Str} (h : parts ≠ []) (hp : ∀ p ∈ parts, (32 : Nat) ∉ p.cps.toList) : Txt.split (Txt.join " " parts) " " = parts :=
  split_join (y := " ") (s := 32) (S := []) (by decide +kernel) (by decide +kernel) h hp
theorem joinL_len : ∀ {parts : List (List Nat)}, (∀ p ∈ parts, p.length ≤ 7) → (joinL [32] parts).length ≤ 8 * parts.length
  | [], _ => Nat.zero_le _
  | [p], h => by
    have := h p (by simp)
    simp [joinL]
    omega
  | p :: q :: r, h => by
    have a := h p (by simp)
    have b := joinL_len (parts := q :: r) fun p hp => h p (List.mem_cons_of_mem _ hp)
    simp only [joinL, List.length_append, List.length_cons, List.length_nil] at b ⊢
    omega
theorem join_len {parts : List Str} (h : ∀ p ∈ parts, p.length ≤ 7) : (Txt.join " " parts).length ≤ 8 * parts.length := by
  rw [join_eq, len_tl, tl_join, show tl (" " : Str) = [32] by decide +kernel]
  refine Nat.le_trans (joinL_len fun p hp => ?_) (by rw [List.length_map]; exact Nat.le_refl _)
  obtain ⟨q, hq, rfl⟩ := List.mem_map.mp hp
  rw [← len_tl]
  exact h q hq
theorem strOk_tl (x : Str) : PyData.strOk x = (tl x).all fun c => decide (c < 1114112) := by
  unfold PyData.strOk tl
  rw [← Array.all_toList]
theorem joinL_all {p : Nat → Bool} {S : List Nat} (hS : S.all p = true) : ∀ {parts : List (List Nat)}, (∀ q ∈ parts, q.all p = true) → (joinL S parts).all p = true
  | [], _ => rfl
  | [q], h => h q (by simp)
  | q :: r :: l, h => by
    have a := h q (by simp)
    have b := joinL_all hS (parts := r :: l) fun x hx => h x (List.mem_cons_of_mem _ hx)
    rw [joinL, List.all_append, List.all_append, a, hS, b]
    rfl
theorem strOk_join {parts : List Str} (h : ∀ p ∈ parts, PyData.strOk p = true) : PyData.strOk (Txt.join " " parts) = true := by
  rw [strOk_tl, join_eq, tl_join]
  refine joinL_all (by decide +kernel) fun q hq => ?_
  obtain ⟨p, hp, rfl⟩ := List.mem_map.mp hq
  rw [← strOk_tl]
  exact h p hp
end TL

namespace TP
open TL
open PySem (Str PyData)
open L2 (atI)
theorem w__law_cell_at {N : Nat} (hN : 1 ≤ N) (s : List Int) (k : Nat) (st : Sto) : TL.run Pg N 6 [.fls (s.map .int), .int k] st = .ok (.int (s.getD k 0)) st := by
  obtain ⟨M, rfl⟩ : ∃ M, N = M + 1 := ⟨N - 1, by omega⟩
  rw [run_c (F := c__law_cell_at) rfl rfl]
  simp [c__law_cell_at, enter]
  split
  · next h =>
    rw [atI_nat (x := .int (s[k]'h)) (by omega) (by simp [h])]
    simp [h]
  · next h =>
    have : s[k]? = none := List.getElem?_eq_none (by omega)
    simp [this]
/-- what _law_mixed gives -/
def mixZ (s : List Int) (k : Nat) : Int := let h := (s.getD k 0 + 7919 * k + 1) * 48271 % 2147483647; (h * h + 7 * h + k) % 2147483629
theorem mixZ_nn (s : List Int) (k : Nat) : 0 ≤ mixZ s k := Int.emod_nonneg _ (by decide)
theorem w__law_mixed {N : Nat} (hN : 2 ≤ N) (s : List Int) (k : Nat) (st : Sto) : TL.run Pg N 7 [.fls (s.map .int), .int k] st = .ok (.int (mixZ s k)) st := by
  obtain ⟨M, rfl⟩ : ∃ M, N = M + 2 := ⟨N - 2, by omega⟩
  rw [run_c (F := c__law_mixed) rfl rfl]
  have a := w__law_cell_at (N := M+1) (by omega) s k
  have m1 := oMul (i := 7919) (j := k) (.inl (by decide))
  have m2 := oMul (i := s.getD k 0 + 7919 * k + 1) (j := 48271) (.inr (by decide))
  have r := oMod (i := (s.getD k 0 + 7919 * k + 1) * 48271) (j := 2147483647) (by decide)
  have hlo := Int.emod_nonneg ((s.getD k 0 + 7919 * k + 1) * 48271) (b := 2147483647) (by decide)
  have hhi := Int.emod_lt_of_pos ((s.getD k 0 + 7919 * k + 1) * 48271) (b := 2147483647) (by decide)
  show _ = R.ok (D.int ((((s.getD k 0 + 7919 * k + 1) * 48271 % 2147483647) * ((s.getD k 0 + 7919 * k + 1) * 48271 % 2147483647) + 7 * ((s.getD k 0 + 7919 * k + 1) * 48271 % 2147483647) + k) % 2147483629)) st
  generalize hz : s.getD k 0 = z at *
  generalize hh : (z + 7919 * (k : Int) + 1) * 48271 % 2147483647 = h at *
  have m3 := oMul (i := h) (j := h) (.inl (by omega))
  have m4 := oMul (i := 7) (j := h) (.inl (by decide))
  have r2 := oMod (i := h * h + 7 * h + k) (j := 2147483629) (by decide)
  simp [c__law_mixed, enter, a, m1, m2, m3, m4, r, r2]
def drawZ (z k : Int) : Int := let h := (z + 104729 * k + 17) * 69621 % 2147483647; (h * h + 3 * h + k) % 2147483629
theorem drawZ_nn (z k : Int) : 0 ≤ drawZ z k := Int.emod_nonneg _ (by decide)
theorem w__law_drawn {N : Nat} (hN : 1 ≤ N) (z k : Int) (st : Sto) : TL.run Pg N 8 [.int z, .int k] st = .ok (.int (drawZ z k)) st := by
  obtain ⟨M, rfl⟩ : ∃ M, N = M + 1 := ⟨N - 1, by omega⟩
  rw [run_c (F := c__law_drawn) rfl rfl]
  have m1 := oMul (i := 104729) (j := k) (.inl (by decide))
  have m2 := oMul (i := z + 104729 * k + 17) (j := 69621) (.inr (by decide))
  have r := oMod (i := (z + 104729 * k + 17) * 69621) (j := 2147483647) (by decide)
  have hlo := Int.emod_nonneg ((z + 104729 * k + 17) * 69621) (b := 2147483647) (by decide)
  have hhi := Int.emod_lt_of_pos ((z + 104729 * k + 17) * 69621) (b := 2147483647) (by decide)
  show _ = R.ok (D.int ((((z + 104729 * k + 17) * 69621 % 2147483647) * ((z + 104729 * k + 17) * 69621 % 2147483647) + 3 * ((z + 104729 * k + 17) * 69621 % 2147483647) + k) % 2147483629)) st
  generalize hh : (z + 104729 * k + 17) * 69621 % 2147483647 = h at *
  have m3 := oMul (i := h) (j := h) (.inl (by omega))
  have m4 := oMul (i := 3) (j := h) (.inl (by decide))
  have r2 := oMod (i := h * h + 3 * h + k) (j := 2147483629) (by decide)
  simp [c__law_drawn, enter, m1, m2, m3, m4, r, r2]
/-- a deed's name, as drawn -/
def nmOk (a : Str) : Prop := PyData.strOk a = true ∧ a ≠ "zz"
theorem letter3 (i : Int) : ∃ a, nmOk a ∧ o2 .ix (.str "abc") (.int (i % 3)) = some (.str a) := by
  have h1 := Int.emod_nonneg i (b := 3) (by decide)
  have h2 := Int.emod_lt_of_pos i (b := 3) (by decide)
  generalize i % 3 = j at *
  have : j = 0 ∨ j = 1 ∨ j = 2 := by omega
  rcases this with rfl | rfl | rfl
  · exact ⟨⟨#[97]⟩, ⟨by decide +kernel, by decide +kernel⟩, rfl⟩
  · exact ⟨⟨#[98]⟩, ⟨by decide +kernel, by decide +kernel⟩, rfl⟩
  · exact ⟨⟨#[99]⟩, ⟨by decide +kernel, by decide +kernel⟩, rfl⟩
theorem letter7 (i : Int) : ∃ a, PyData.strOk a = true ∧ o2 .ix (.str "abcabcd") (.int (i % 7)) = some (.str a) := by
  have h1 := Int.emod_nonneg i (b := 7) (by decide)
  have h2 := Int.emod_lt_of_pos i (b := 7) (by decide)
  generalize i % 7 = j at *
  have : j = 0 ∨ j = 1 ∨ j = 2 ∨ j = 3 ∨ j = 4 ∨ j = 5 ∨ j = 6 := by omega
  rcases this with rfl | rfl | rfl | rfl | rfl | rfl | rfl
  · exact ⟨⟨#[97]⟩, by decide +kernel, rfl⟩
  · exact ⟨⟨#[98]⟩, by decide +kernel, rfl⟩
  · exact ⟨⟨#[99]⟩, by decide +kernel, rfl⟩
  · exact ⟨⟨#[97]⟩, by decide +kernel, rfl⟩
  · exact ⟨⟨#[98]⟩, by decide +kernel, rfl⟩
  · exact ⟨⟨#[99]⟩, by decide +kernel, rfl⟩
  · exact ⟨⟨#[100]⟩, by decide +kernel, rfl⟩

end TP

namespace TP
open TL
open PySem (Str PyData)
open L2 (atI)
/-- a task of depth at most n -/
def Good : Nat → TL.D → Prop
  | 0, _ => False
  | n + 1, d => (∃ a k, nmOk a ∧ 1 ≤ k ∧ d = .tup [.str "do", .str a, .int k]) ∨
      (∃ (w : String) (ts : List TL.D), (w = "all" ∨ w = "any" ∨ w = "then") ∧ ts ≠ [] ∧ ts.length ≤ 1000 ∧ (w = "then" → 2 ≤ ts.length) ∧ (∀ t ∈ ts, Good n t) ∧ d = .tup [.str w, .tup ts]) ∨
      (∃ a t, nmOk a ∧ Good n t ∧ d = .tup [.str "without", .str a, t]) ∨
      (∃ k t, (1 : Int) ≤ k ∧ Good n t ∧ d = .tup [.str "within", .int k, t])
theorem Good.succ : ∀ {n : Nat} {d : TL.D}, Good n d → Good (n + 1) d
  | 0, _, h => h.elim
  | n + 1, d, h => by
    rcases h with h | ⟨w, ts, a, b, b2, c, e, f⟩ | ⟨a, t, b, c, e⟩ | ⟨k, t, b, c, e⟩
    · exact .inl h
    · exact .inr (.inl ⟨w, ts, a, b, b2, c, fun t ht => (e t ht).succ, f⟩)
    · exact .inr (.inr (.inl ⟨a, t, b, c.succ, e⟩))
    · exact .inr (.inr (.inr ⟨k, t, b, c.succ, e⟩))
theorem Good.mono {n m : Nat} {d : TL.D} (h : Good n d) (k : n ≤ m) : Good m d := by
  induction k with
  | refl => exact h
  | step _ ih => exact ih.succ
theorem Good.ok : ∀ {n : Nat} {d : TL.D}, Good n d → okD (2 * n) d
  | 0, _, h => h.elim
  | n + 1, d, h => by
    rcases h with ⟨a, k, b, _, rfl⟩ | ⟨w, ts, a, b, b2, c, e, rfl⟩ | ⟨a, t, b, c, rfl⟩ | ⟨k, t, b, c, rfl⟩
    · refine okD_tup (n := 2 * n + 1) fun x hx => ?_
      simp at hx
      rcases hx with rfl | rfl | rfl
      · exact okD_str _ (strOk_of _)
      · exact okD_str _ b.1
      · exact okD_int _ _
    · refine okD_tup (n := 2 * n + 1) fun x hx => ?_
      simp at hx
      rcases hx with rfl | rfl
      · exact okD_str _ (strOk_of _)
      · exact okD_tup fun t ht => (e t ht).ok
    · refine okD_tup (n := 2 * n + 1) fun x hx => ?_
      simp at hx
      rcases hx with rfl | rfl | rfl
      · exact okD_str _ (strOk_of _)
      · exact okD_str _ b.1
      · exact c.ok.mono (by omega)
    · refine okD_tup (n := 2 * n + 1) fun x hx => ?_
      simp at hx
      rcases hx with rfl | rfl | rfl
      · exact okD_str _ (strOk_of _)
      · exact okD_int _ _
      · exact c.ok.mono (by omega)
theorem Good.isT {n : Nat} {d : TL.D} (h : Good n d) : ∃ ds, d = .tup ds := by
  cases n with
  | zero => exact h.elim
  | succ n => rcases h with ⟨a, k, b, _, rfl⟩ | ⟨w, ts, a, b, b2, c, e, rfl⟩ | ⟨a, t, b, c, rfl⟩ | ⟨k, t, b, c, rfl⟩ <;> exact ⟨_, rfl⟩
theorem w__law_task : ∀ (n N : Nat) (z : Int) (m : Nat) (st : Sto), 1 ≤ m → m ≤ 1000 → n + 2 ≤ N → ∃ d, Good (n + 1) d ∧ TL.run Pg N 9 [.int z, .int ((n : Int) + 1), .int m] st = .ok d st := by
  intro n
  induction n with
  | zero =>
    intro N z m st h1 h2 hN
    obtain ⟨N, rfl⟩ : ∃ M, N = M + 1 := ⟨N - 1, by omega⟩
    obtain ⟨a, ha, ea⟩ := letter3 (z / 8)
    have d8 := oDiv (i := z) (j := 8) (by decide) (by decide)
    have r3 := oMod (i := z / 8) (j := 3) (by decide)
    have r8 := oMod (i := z) (j := 8) (by decide)
    have d64 := oDiv (i := z) (j := 64) (by decide) (by decide)
    have rm := oMod (i := z / 64) (j := m) (by omega)
    have hm := Int.emod_nonneg (z / 64) (b := (m : Int)) (by omega)
    refine ⟨.tup [.str "do", .str a, .int (1 + z / 64 % m)], .inl ⟨a, _, ha, by omega, rfl⟩, ?_⟩
    rw [run_c (F := c__law_task) rfl rfl]
    simp [c__law_task, enter, d8, r3, r8, ea, d64, rm]
  | succ n ih =>
    intro N z m st h1 h2 hN
    obtain ⟨N, rfl⟩ : ∃ M, N = M + 1 := ⟨N - 1, by omega⟩
    obtain ⟨a, ha, ea⟩ := letter3 (z / 8)
    have d8 := oDiv (i := z) (j := 8) (by decide) (by decide)
    have r3 := oMod (i := z / 8) (j := 3) (by decide)
    have r8 := oMod (i := z) (j := 8) (by decide)
    have d64 := oDiv (i := z) (j := 64) (by decide) (by decide)
    have rm := oMod (i := z / 64) (j := m) (by omega)
    have hm := Int.emod_nonneg (z / 64) (b := (m : Int)) (by omega)
    have k0 := Int.emod_nonneg z (b := 8) (by decide)
    have k8 := Int.emod_lt_of_pos z (b := 8) (by decide)
    have sn : (((n + 1 : Nat) : Int) + 1 - 1) = (n : Int) + 1 := by omega
    have ne : ¬ (((n + 1 : Nat) : Int) + 1 = 1) := by omega
    rw [run_c (F := c__law_task) rfl rfl]
    generalize ((n + 1 : Nat) : Int) + 1 = nn at *
    generalize hk : z % 8 = k at *
    by_cases lt2 : k < 2
    · refine ⟨.tup [.str "do", .str a, .int (1 + z / 64 % m)], .inl ⟨a, _, ha, by omega, rfl⟩, ?_⟩
      simp [c__law_task, enter, d8, r3, r8, ea, d64, rm, ne, lt2]
    by_cases e6 : k = 6
    · subst e6
      have w := w__law_drawn (N := N) (by omega) z 1 st
      obtain ⟨t, gt, wt⟩ := ih N (drawZ z 1 / 4) m st h1 h2 (by omega)
      have gt0 := gt.ok.own
      have d4 := oDiv (i := drawZ z 1) (j := 4) (by decide) (by decide)
      refine ⟨.tup [.str "without", .str a, t], .inr (.inr (.inl ⟨a, t, ha, gt, rfl⟩)), ?_⟩
      simp [c__law_task, enter, d8, r3, r8, ea, d64, rm, ne, sn, w, d4, wt, gt0]
    by_cases e7 : k = 7
    · subst e7
      have w := w__law_drawn (N := N) (by omega) z 2 st
      obtain ⟨t, gt, wt⟩ := ih N (drawZ z 2 / 4) m st h1 h2 (by omega)
      have gt0 := gt.ok.own
      have d4 := oDiv (i := drawZ z 2) (j := 4) (by decide) (by decide)
      have d10 := oDiv (i := z) (j := 1024) (by decide) (by decide)
      have r2 := oMod (i := z / 1024) (j := 2) (by decide)
      have q0 := Int.emod_nonneg (z / 1024) (b := 2) (by decide)
      have q1 := Int.emod_lt_of_pos (z / 1024) (b := 2) (by decide)
      obtain ⟨y, hy, ey⟩ : ∃ y : Int, 1 ≤ y ∧ o2 .ix (.tup [.int 9, .int 4]) (.int (z / 1024 % 2)) = some (.int y) := by
        generalize z / 1024 % 2 = j at *
        have : j = 0 ∨ j = 1 := by omega
        rcases this with rfl | rfl
        · exact ⟨9, by decide, by simp⟩
        · exact ⟨4, by decide, by simp⟩
      rw [oIx] at ey
      have ry := oMod (i := z / 64) (j := y) (by omega)
      have hy0 := Int.emod_nonneg (z / 64) (b := y) (by omega)
      refine ⟨.tup [.str "within", .int (1 + z / 64 % y), t], .inr (.inr (.inr ⟨_, t, by omega, gt, rfl⟩)), ?_⟩
      simp [c__law_task, enter, d8, r3, r8, ea, d64, rm, ne, sn, w, d4, wt, gt0, d10, r2, ey, ry]
    have r3' := oMod (i := z / 64) (j := 3) (by decide)
    have p0 := Int.emod_nonneg (z / 64) (b := 3) (by decide)
    have p1 := Int.emod_lt_of_pos (z / 64) (b := 3) (by decide)
    obtain ⟨wd, hw, ew⟩ : ∃ w : String, (w = "all" ∨ w = "any" ∨ w = "then") ∧ atI [TL.D.str "all", .str "any", .str "then", .str "all"] (k - 2) = some (.str w) := by
      have : k = 2 ∨ k = 3 ∨ k = 4 ∨ k = 5 := by omega
      rcases this with rfl | rfl | rfl | rfl
      · exact ⟨"all", .inl rfl, rfl⟩
      · exact ⟨"any", .inr (.inl rfl), rfl⟩
      · exact ⟨"then", .inr (.inr rfl), rfl⟩
      · exact ⟨"all", .inl rfl, rfl⟩
    generalize hq : 1 + z / 64 % 3 = q at *
    have lc : ∀ (q : Int), 0 ≤ q → q ≤ 100 → ∃ ds, lcE (TL.run Pg N) (.call 9 [.o2 .div (.call 8 [.var 0, .o2 .add (.con (.int 3)) (.var 7)]) (.con (.int 4)), .o2 .sub (.var 1) (.con (.int 1)), .var 2]) (.nm 7) [7] [] ((List.range q.toNat).map fun (i : Nat) => .int (i : Int)) [some (.int z), some (.int nn), some (.int m), some (.str a), some (.int k), some (.int q), some (.str wd), none] st = .ok ds st ∧ ds.length = q.toNat ∧ ∀ d ∈ ds, Good (n + 1) d := by
      intro q h0 h100
      have z := lcE_ex (C := TL.run Pg N) (P := Good (n + 1)) (st := st) (ρ := [some (.int z), some (.int nn), some (.int m), some (.str a), some (.int k), some (.int q), some (.str wd), none]) (tg := .nm 7) (own := [7]) (cond := [])
        (elt := .call 9 [.o2 .div (.call 8 [.var 0, .o2 .add (.con (.int 3)) (.var 7)]) (.con (.int 4)), .o2 .sub (.var 1) (.con (.int 1)), .var 2])
        (xs := (List.range q.toNat).map fun (i : Nat) => .int (i : Int)) (fun x hx => by
          obtain ⟨i, _, rfl⟩ := List.mem_map.mp hx
          obtain ⟨t, gt, wt⟩ := ih N (drawZ z (3 + i) / 4) m st h1 h2 (by omega)
          have w := w__law_drawn (N := N) (by omega) z (3 + i) st
          have d4 := oDiv (i := drawZ z (3 + i)) (j := 4) (by decide) (by decide)
          exact ⟨_, t, by simp [bindT, wipeE]; rfl, by simp, by simp [w, d4, sn, wt], gt.ok.own, gt⟩)
      rw [List.length_map, List.length_range] at z
      exact z
    by_cases ht : wd = "then"
    · subst ht
      obtain ⟨ds, e, hl, hg⟩ := lc (max 2 q) (by omega) (by omega)
      have rg := itRng (k := max 2 q) (by omega) (by omega)
      have mx : o2 .max (.int 2) (.int q) = some (.int (max 2 q)) := by
        show some (TL.D.int _) = _
        congr 2
        split <;> omega
      refine ⟨.tup [.str "then", .tup ds], .inr (.inl ⟨"then", ds, hw, by rintro rfl; simp at hl; omega, by omega, fun _ => by omega, hg, rfl⟩), ?_⟩
      simp [c__law_task, enter, d8, r3, r8, ea, d64, rm, ne, sn, lt2, e6, e7, r3', hq, ew, mx, dEqs, rg, e]
    · obtain ⟨ds, e, hl, hg⟩ := lc q (by omega) (by omega)
      have rg := itRng (k := q) (by omega) (by omega)
      refine ⟨.tup [.str wd, .tup ds], .inr (.inl ⟨wd, ds, hw, by rintro rfl; simp at hl; omega, by omega, fun h => (ht h).elim, hg, rfl⟩), ?_⟩
      simp [c__law_task, enter, d8, r3, r8, ea, d64, rm, ne, sn, lt2, e6, e7, r3', hq, ew, ht, dEqs, rg, e, str_inj]

end TP

namespace TP
open TL
open PySem (Str PyData)
open L2 (atI)
def grp (w : Str) (ds : List TL.D) : TL.D := match ds with
  | [d] => d
  | ds => .tup [.str w, .tup ds]
def beh : Nat → TL.D → Str → TL.D
  | 0, _, _ => .non
  | n + 1, .tup [.str w, .tup ts], a =>
    if w = "then" then match ts with
      | [] => .non
      | t :: r => if (beh n t a).eqv (.str "failed") then .str "failed" else if (beh n t a).eqv (.str "done") then grp w r else grp w (beh n t a :: r)
    else
      let ss := ts.map fun t => beh n t a
      let gone : TL.D := if w = "any" then .str "failed" else .str "done"
      let whole : TL.D := if w = "any" then .str "done" else .str "failed"
      if ss.any fun s => s.eqv whole then whole
      else if (ss.filter fun s => !s.eqv gone) = [] then gone
      else grp w (ss.filter fun s => !s.eqv gone)
  | n + 1, .tup [.str w, .str b, .int k], a => if a = b then (if k = 1 then .str "done" else .tup [.str w, .str b, .int (k - 1)]) else .tup [.str w, .str b, .int k]
  | n + 1, .tup [.str w, .str b, t], a => if a = b then .str "failed" else if (beh n t a).isS then beh n t a else .tup [.str w, .str b, beh n t a]
  | n + 1, .tup [.str w, .int k, t], a => if (beh n t a).isS then beh n t a else if k = 1 then .str "failed" else .tup [.str w, .int (k - 1), beh n t a]
  | _, _, _ => .non
/-- done, failed, or a task -/
def Res (n : Nat) (d : TL.D) : Prop := d = .str "done" ∨ d = .str "failed" ∨ Good n d
theorem Res.mono {n m : Nat} {d : TL.D} (h : Res n d) (k : n ≤ m) : Res m d := h.imp id (.imp id fun g => g.mono k)
theorem Res.ok {n : Nat} {d : TL.D} (h : Res n d) : okD (2 * n) d := by
  rcases h with rfl | rfl | h
  · exact okD_str _ (strOk_of _)
  · exact okD_str _ (strOk_of _)
  · exact h.ok
theorem Res.good {n : Nat} {d : TL.D} (h : Res n d) (k : d.isS = false) : Good n d := by
  rcases h with rfl | rfl | h
  · cases k
  · cases k
  · exact h
theorem Good.isS {n : Nat} {d : TL.D} (h : Good n d) : d.isS = false := by
  obtain ⟨ds, rfl⟩ := h.isT
  rfl
theorem Good.eqvS {n : Nat} {d : TL.D} (h : Good n d) (x : Str) : d.eqv (.str x) = false := by
  obtain ⟨ds, rfl⟩ := h.isT
  exact eqv_tup_str _ _
theorem grp_good {n : Nat} {w : String} {ds : List TL.D} (hw : w = "all" ∨ w = "any" ∨ w = "then") (h : ds ≠ []) (l : ds.length ≤ 1000) (g : ∀ d ∈ ds, Good n d) : Good (n + 1) (grp w ds) := by
  match ds, h with
  | [d], _ => exact (g d (List.mem_singleton.mpr rfl)).succ
  | a :: b :: r, _ => exact .inr (.inl ⟨w, a :: b :: r, hw, by simp, l, fun _ => by simp, g, rfl⟩)
theorem beh_res : ∀ {n : Nat} {d : TL.D} {a : Str}, PyData.strOk a = true → Good n d → Res n (beh n d a)
  | 0, _, _, _, h => h.elim
  | n + 1, d, a, ha, h => by
    rcases h with ⟨b, k, hb, hk, rfl⟩ | ⟨w, ts, hw, h0, hl, h2, hg, rfl⟩ | ⟨b, t, hb, hg, rfl⟩ | ⟨k, t, hk, hg, rfl⟩
    · simp only [beh]
      split
      · split
        · exact .inl rfl
        · exact .inr (.inr (.inl ⟨b, k - 1, hb, by omega, rfl⟩))
      · exact .inr (.inr (.inl ⟨b, k, hb, hk, rfl⟩))
    · simp only [beh, str_inj]
      by_cases ht : w = "then"
      · rw [if_pos ht]
        match ts, h0 with
        | t :: r, _ =>
          have h2 := h2 ht
          simp at h2
          have hr : r ≠ [] := by rintro rfl; simp at h2
          have ih := beh_res ha (hg t (List.mem_cons_self ..))
          rcases ih with e | e | e
          · simp only [e, eqv_str, str_inj]
            simp
            refine .inr (.inr (grp_good hw hr (by simp at hl; omega) fun d hd => hg d (List.mem_cons_of_mem _ hd)))
          · simp only [e, eqv_str, str_inj]
            exact .inr (.inl rfl)
          · simp only [e.eqvS, Bool.false_eq_true, if_false]
            refine .inr (.inr (grp_good hw (by simp) (by simpa using hl) fun d hd => ?_))
            rcases List.mem_cons.mp hd with rfl | hd
            · exact e
            · exact hg d (List.mem_cons_of_mem _ hd)
      · rw [if_neg ht]
        have rs : ∀ s ∈ ts.map fun t => beh n t a, Res n s := by
          intro s hs
          obtain ⟨t, ht, rfl⟩ := List.mem_map.mp hs
          exact beh_res ha (hg t ht)
        have hll : (ts.map fun t => beh n t a).length ≤ 1000 := by simpa using hl
        generalize (ts.map fun t => beh n t a) = ss at *
        by_cases h : w = "any"
        · simp only [h, if_true]
          split
          · exact .inl rfl
          · next hn =>
            split
            · exact .inr (.inl rfl)
            · next he =>
              refine .inr (.inr (grp_good (.inr (.inl rfl)) he (Nat.le_trans (List.length_filter_le _ _) hll) fun d hd => ?_))
              have ⟨hd, hp⟩ := List.mem_filter.mp hd
              have hn : d.eqv (TL.D.str "done") = false := by
                cases e : d.eqv (TL.D.str "done") with
                | false => rfl
                | true => exact (hn (List.any_eq_true.mpr ⟨d, hd, e⟩)).elim
              rcases rs d hd with rfl | rfl | g
              · simp [eqv_str] at hn hp
              · simp [eqv_str] at hn hp
              · exact g
        · simp only [h, if_false]
          split
          · exact .inr (.inl rfl)
          · next hn =>
            split
            · exact .inl rfl
            · next he =>
              refine .inr (.inr (grp_good hw he (Nat.le_trans (List.length_filter_le _ _) hll) fun d hd => ?_))
              have ⟨hd, hp⟩ := List.mem_filter.mp hd
              have hn : d.eqv (TL.D.str "failed") = false := by
                cases e : d.eqv (TL.D.str "failed") with
                | false => rfl
                | true => exact (hn (List.any_eq_true.mpr ⟨d, hd, e⟩)).elim
              rcases rs d hd with rfl | rfl | g
              · simp [eqv_str] at hn hp
              · simp [eqv_str] at hn hp
              · exact g
    · have ih := beh_res ha hg
      obtain ⟨ds, rfl⟩ := hg.isT
      simp only [beh]
      split
      · exact .inr (.inl rfl)
      · split
        · exact ih.mono (Nat.le_succ n)
        · next h => exact .inr (.inr (.inr (.inr (.inl ⟨b, _, hb, ih.good (by simpa using h), rfl⟩))))
    · have ih := beh_res ha hg
      simp only [beh]
      split
      · exact ih.mono (Nat.le_succ n)
      · next h =>
        split
        · exact .inr (.inl rfl)
        · exact .inr (.inr (.inr (.inr (.inr ⟨k - 1, _, by omega, ih.good (by simpa using h), rfl⟩))))

end TP

namespace TP
open TL
open PySem (Str PyData)
open L2 (atI)
theorem w_is_over {N : Nat} (hN : 1 ≤ N) {n : Nat} {d : TL.D} (h : Res n d) (st : Sto) : TL.run Pg N 0 [d] st = .ok (.bl d.isS) st := by
  obtain ⟨N, rfl⟩ : ∃ M, N = M + 1 := ⟨N - 1, by omega⟩
  rw [run_c (F := c_is_over) rfl rfl]
  rcases h with rfl | rfl | h
  · simp [c_is_over, enter, TL.D.isS]
  · simp [c_is_over, enter, TL.D.isS]
  · obtain ⟨ds, rfl⟩ := h.isT
    simp [c_is_over, enter, TL.D.isS]
theorem w_grouped {N : Nat} (hN : 1 ≤ N) (w : Str) {ds : List TL.D} (h0 : ds ≠ []) (h : ∀ d ∈ ds, d.own = false) (st : Sto) : TL.run Pg N 1 [.str w, .lst ds] st = .ok (grp w ds) st := by
  obtain ⟨N, rfl⟩ : ∃ M, N = M + 1 := ⟨N - 1, by omega⟩
  rw [run_c (F := c_grouped) rfl rfl]
  match ds, h0 with
  | [d], _ =>
    have := h d (List.mem_singleton.mpr rfl)
    simp [c_grouped, enter, grp, this]
  | a :: b :: r, _ =>
    have : ¬ ((r.length : Int) + 1 + 1 = 1) := by omega
    simp [c_grouped, enter, grp, this]
theorem inL {n : Nat} {x : Str} {ds : List TL.D} (hx : PyData.strOk x = true) (hn : n + 1 ≤ 64) (h : ∀ d ∈ ds, okD n d) : dIn (.str x) (.lst ds) = some (.bl (ds.any fun d => d.eqv (.str x))) := by
  have a := (okD_str 0 hx).shp (by decide)
  have b := (okD_lst h).shp hn
  simp [dIn, inD, a, b]
theorem inT {x : Str} (ys : List String) (hx : PyData.strOk x = true) : dIn (.str x) (.tup (ys.map fun y => TL.D.str (Str.ofString y))) = some (.bl (ys.any fun y => decide (Str.ofString y = x))) := by
  have a := (okD_str 0 hx).shp (by decide)
  have b := (okD_tup (n := 0) (ds := ys.map fun y => TL.D.str (Str.ofString y)) (fun d hd => by
    obtain ⟨y, _, rfl⟩ := List.mem_map.mp hd
    exact okD_str 0 (strOk_of y))).shp (by decide)
  simp [dIn, inD, a, b, Function.comp_def, eqv_str]
theorem dEqD {n : Nat} {d : TL.D} {x : Str} (h : Res n d) (hn : 2 * n ≤ 64) (hx : PyData.strOk x = true) : dEq d (.str x) = some (.bl (d.eqv (.str x))) := dEq_ok h.ok (okD_str 0 hx) hn (by decide)
theorem dNeD {n : Nat} {d : TL.D} {x : Str} (h : Res n d) (hn : 2 * n ≤ 64) (hx : PyData.strOk x = true) : dNe d (.str x) = some (.bl (!d.eqv (.str x))) := dNe_ok h.ok (okD_str 0 hx) hn (by decide)
theorem w_group_behind {N n : Nat} (hN : 1 ≤ N) {w : String} {ts : List TL.D} {a : Str} (hw : w = "all" ∨ w = "any") (hn : 2 * n + 1 ≤ 64) {st : Sto} (G : ∀ t ∈ ts, Good n t) (H : ∀ t ∈ ts, TL.run Pg N 4 [t, .str a] st = .ok (beh n t a) st) (R : ∀ t ∈ ts, Res n (beh n t a)) :
    TL.run Pg (N + 1) 2 [.tup [.str w, .tup ts], .str a] st = .ok (beh (n + 1) (.tup [.str w, .tup ts]) a) st := by
  rw [run_c (F := c_group_behind) rfl rfl]
  have wt : w ≠ "then" := by rcases hw with rfl | rfl <;> decide
  have rs : ∀ s ∈ ts.map fun t => beh n t a, Res n s := by
    intro s hs
    obtain ⟨t, ht, rfl⟩ := List.mem_map.mp hs
    exact R t ht
  rcases hw with rfl | rfl
  · -- all
    simp [c_group_behind, enter, dEqs, bindT, setAll]
    rw [lcE_all (g := fun t => beh n t a) (fun t ht => ⟨_, by simp [bindT, wipeE, (G t ht).ok.own]; rfl, by simp, by simp [(G t ht).ok.own, H t ht], (R t ht).ok.own⟩)]
    simp only [beh, str_inj, wt, if_false, if_true]
    generalize (ts.map fun t => beh n t a) = ss at *
    have i := inL (x := "failed") (strOk_of _) (by omega) fun d hd => (rs d hd).ok
    have eb : ∃ b, (ss.any fun d => d.eqv (.str "failed")) = b := ⟨_, rfl⟩
    obtain ⟨b, hb⟩ := eb
    try simp only [show ((if ("all" : String) = "any" then TL.D.str "done" else TL.D.str "failed") = TL.D.str "failed") from by simp, show ((if ("all" : String) = "any" then TL.D.str "failed" else TL.D.str "done") = TL.D.str "done") from by simp]
    obtain ⟨ff, hff⟩ : ∃ ff, (ss.filter fun s => !s.eqv (.str "done")) = ff := ⟨_, rfl⟩
    have ro : ∀ s ∈ ff, s.own = false := by
      rw [← hff]
      exact fun s hs => (rs s (List.mem_filter.mp hs).1).ok.own
    rw [hb] at i ⊢
    rw [hff]
    cases b with
    | true => simp [i]
    | false =>
      simp [i]
      have dn := fun s hs => dNeD (x := "done") (rs s hs) (by omega) (strOk_of _)
      rw [lcE_map (p := fun s => !s.eqv (.str "done")) (g := id) (fun s hs => ⟨_, by simp [bindT, wipeE, (rs s hs).ok.own]; rfl, by simp [(rs s hs).ok.own, dn s hs], fun _ => ⟨by simp [(rs s hs).ok.own], (rs s hs).ok.own⟩⟩)]
      simp only [List.map_id, hff]
      by_cases h0 : ff = []
      · subst h0
        simp
      · have g := w_grouped hN (Str.ofString "all") h0 ro st
        have go : (grp (Str.ofString "all") ff).own = false := by
          match ff, h0 with
          | [d], _ => exact ro d (List.mem_singleton.mpr rfl)
          | _ :: _ :: _, _ => rfl
        have l0 : ¬ ff.length = 0 := fun e => h0 (List.length_eq_zero_iff.mp e)
        simp [g, go, h0, l0]
  · -- any
    simp [c_group_behind, enter, dEqs, bindT, setAll]
    rw [lcE_all (g := fun t => beh n t a) (fun t ht => ⟨_, by simp [bindT, wipeE, (G t ht).ok.own]; rfl, by simp, by simp [(G t ht).ok.own, H t ht], (R t ht).ok.own⟩)]
    simp only [beh, str_inj, wt, if_false, if_true]
    generalize (ts.map fun t => beh n t a) = ss at *
    have i := inL (x := "done") (strOk_of _) (by omega) fun d hd => (rs d hd).ok
    have eb : ∃ b, (ss.any fun d => d.eqv (.str "done")) = b := ⟨_, rfl⟩
    obtain ⟨b, hb⟩ := eb
    try simp only [show ((if ("any" : String) = "any" then TL.D.str "done" else TL.D.str "failed") = TL.D.str "done") from by simp, show ((if ("any" : String) = "any" then TL.D.str "failed" else TL.D.str "done") = TL.D.str "failed") from by simp]
    obtain ⟨ff, hff⟩ : ∃ ff, (ss.filter fun s => !s.eqv (.str "failed")) = ff := ⟨_, rfl⟩
    have ro : ∀ s ∈ ff, s.own = false := by
      rw [← hff]
      exact fun s hs => (rs s (List.mem_filter.mp hs).1).ok.own
    rw [hb] at i ⊢
    rw [hff]
    cases b with
    | true => simp [i]
    | false =>
      simp [i]
      have dn := fun s hs => dNeD (x := "failed") (rs s hs) (by omega) (strOk_of _)
      rw [lcE_map (p := fun s => !s.eqv (.str "failed")) (g := id) (fun s hs => ⟨_, by simp [bindT, wipeE, (rs s hs).ok.own]; rfl, by simp [(rs s hs).ok.own, dn s hs], fun _ => ⟨by simp [(rs s hs).ok.own], (rs s hs).ok.own⟩⟩)]
      simp only [List.map_id, hff]
      by_cases h0 : ff = []
      · subst h0
        simp
      · have g := w_grouped hN (Str.ofString "any") h0 ro st
        have go : (grp (Str.ofString "any") ff).own = false := by
          match ff, h0 with
          | [d], _ => exact ro d (List.mem_singleton.mpr rfl)
          | _ :: _ :: _, _ => rfl
        have l0 : ¬ ff.length = 0 := fun e => h0 (List.length_eq_zero_iff.mp e)
        simp [g, go, h0, l0]

theorem w_then_behind {N n : Nat} (hN : 1 ≤ N) {ts : List TL.D} {a : Str} (hl : ts.length ≤ 1000) (h2 : 2 ≤ ts.length) (hn : 2 * n + 1 ≤ 64) {st : Sto} (G : ∀ t ∈ ts, Good n t) (H : ∀ t ∈ ts, TL.run Pg N 4 [t, .str a] st = .ok (beh n t a) st) (R : ∀ t ∈ ts, Res n (beh n t a)) :
    TL.run Pg (N + 1) 3 [.tup [.str "then", .tup ts], .str a] st = .ok (beh (n + 1) (.tup [.str "then", .tup ts]) a) st := by
  rw [run_c (F := c_then_behind) rfl rfl]
  match ts, h2 with
  | t :: u :: r, _ =>
    have Ht := H t (List.mem_cons_self ..)
    have Rt := R t (List.mem_cons_self ..)
    have gr : ∀ d ∈ u :: r, Good n d := fun d hd => G d (List.mem_cons_of_mem _ hd)
    have e1 := dEqD (x := "failed") Rt (by omega) (strOk_of _)
    have e2 := dNeD (x := "done") Rt (by omega) (strOk_of _)
    have g1 := w_grouped hN "then" (ds := u :: r) (by simp) (fun d hd => (gr d hd).ok.own) st
    have g2 := w_grouped hN "then" (ds := beh n t a :: u :: r) (by simp) (fun d hd => by rcases List.mem_cons.mp hd with rfl | hd; exact Rt.ok.own; exact (gr d hd).ok.own) st
    have o1 : (grp "then" (u :: r)).own = false := by
      cases r with
      | nil => exact (gr u (List.mem_cons_self ..)).ok.own
      | cons _ _ => rfl
    have ad := oAddl (a := [beh n t a]) (b := u :: r) (by simp at hl ⊢; omega)
    have l0 : ¬ ((r.length : Int) + 1 = 0) := by omega
    have ro := Rt.ok.own
    simp [c_then_behind, enter, Ht, ro, e1, e2, beh]
    by_cases f : (beh n t a).eqv (.str "failed") = true
    · simp [f]
    · simp only [Bool.not_eq_true] at f
      by_cases g : (beh n t a).eqv (.str "done") = true
      · simp [f, g, g1, l0, o1]
      · simp only [Bool.not_eq_true] at g
        simp at ad
        simp [f, g, g2, ad, ro]
        simp [grp]
theorem w_behind : ∀ (n N : Nat) {d : TL.D} {a : Str} (st : Sto), n ≤ 30 → 2 * n + 1 ≤ N → PyData.strOk a = true → Good n d → TL.run Pg N 4 [d, .str a] st = .ok (beh n d a) st
  | 0, _, _, _, _, _, _, _, h => h.elim
  | n + 1, N, d, a, st, h30, hN, ha, h => by
    obtain ⟨N, rfl⟩ : ∃ M, N = M + 1 := ⟨N - 1, by omega⟩
    have hr := beh_res ha h
    rw [run_c (F := c_behind) rfl rfl]
    have aa := inT (x := "all") ["all", "any"] (strOk_of _)
    have an := inT (x := "any") ["all", "any"] (strOk_of _)
    have ath := inT (x := "then") ["all", "any"] (strOk_of _)
    have aw := inT (x := "without") ["all", "any"] (strOk_of _)
    have ai := inT (x := "within") ["all", "any"] (strOk_of _)
    simp at aa an ath aw ai
    rcases h with ⟨b, k, hb, hk, rfl⟩ | ⟨w, ts, hw, h0, hl, h2, hg, rfl⟩ | ⟨b, t, hb, hg, rfl⟩ | ⟨k, t, hk, hg, rfl⟩
    · simp [c_behind, enter, dEqs, dNes, ha, hb.1, beh]
      (repeat' split) <;> simp_all
    · have H : ∀ M, 2 * n + 1 ≤ M → ∀ t ∈ ts, TL.run Pg M 4 [t, .str a] st = .ok (beh n t a) st := fun M hM t ht => w_behind n M st (by omega) hM ha (hg t ht)
      obtain ⟨N, rfl⟩ : ∃ M, N = M + 1 := ⟨N - 1, by omega⟩
      by_cases ht : w = "then"
      · subst ht
        have g := w_then_behind (N := N) (by omega) hl (h2 rfl) (by omega) hg (H N (by omega)) fun t ht => beh_res ha (hg t ht)
        have ro := hr.ok.own
        simp [c_behind, enter, dEqs, ath, g, ro]
      · have hw' : w = "all" ∨ w = "any" := by rcases hw with h | h | h; exact .inl h; exact .inr h; exact (ht h).elim
        have g := w_group_behind (N := N) (by omega) hw' (by omega) hg (H N (by omega)) fun t ht => beh_res ha (hg t ht)
        have ro := hr.ok.own
        rcases hw' with rfl | rfl
        · simp [c_behind, enter, dEqs, aa, g, ro]
        · simp [c_behind, enter, dEqs, an, g, ro]
    · have ih := w_behind n N (d := t) (a := a) st (by omega) (by omega) ha hg
      have io := w_is_over (N := N) (by omega) (beh_res ha hg) st
      have ro := (beh_res ha hg).ok.own
      obtain ⟨ds, rfl⟩ := hg.isT
      simp [c_behind, enter, dEqs, dNes, ha, hb.1, beh, aw, ih, io, ro]
      (repeat' split) <;> simp_all
    · have ih := w_behind n N (d := t) (a := a) st (by omega) (by omega) ha hg
      have io := w_is_over (N := N) (by omega) (beh_res ha hg) st
      have ro := (beh_res ha hg).ok.own
      have rk : dEq (.int k) (.int 1) = some (.bl (decide (k = 1))) := dEqi
      simp [c_behind, enter, dEqs, dNes, ha, beh, ai, ih, io, ro]
      (repeat' split) <;> simp_all

end TP

namespace TP
open TL
open PySem (Str PyData)
open L2 (atI)
theorem beh_succ : ∀ {n : Nat} {d : TL.D} {a : Str}, Good n d → beh (n + 1) d a = beh n d a
  | 0, _, _, h => h.elim
  | n + 1, d, a, h => by
    rcases h with ⟨b, k, hb, hk, rfl⟩ | ⟨w, ts, hw, h0, hl, h2, hg, rfl⟩ | ⟨b, t, hb, hg, rfl⟩ | ⟨k, t, hk, hg, rfl⟩
    · simp only [beh]
    · have e : (ts.map fun t => beh (n + 1) t a) = ts.map fun t => beh n t a := List.map_congr_left fun t ht => beh_succ (hg t ht)
      match ts, h0 with
      | t :: r, _ =>
        have et := beh_succ (a := a) (hg t (List.mem_cons_self ..))
        simp only [beh, e, et]
    · have e := beh_succ (a := a) hg
      obtain ⟨ds, rfl⟩ := hg.isT
      simp only [beh, e]
    · have e := beh_succ (a := a) hg
      simp only [beh, e]
/-- who decides, and where: outcome and place, counted on from i -/
def decI (n : Nat) : TL.D → List Str → Int → Option (TL.D × Int)
  | _, [], _ => none
  | t, a :: as, i => if (beh n t a).isS then some (beh n t a, i + 1) else decI n (beh n t a) as (i + 1)
theorem decI_cons {n : Nat} {t d : TL.D} {a : Str} {as : List Str} {i : Int} (e : beh n t a = d) : decI n t (a :: as) i = if d.isS then some (d, i + 1) else decI n d as (i + 1) := by
  subst e
  rfl
theorem Res.isS {n : Nat} {d : TL.D} (r : Res n d) (h : d.isS = true) : d = .str "done" ∨ d = .str "failed" := by
  rcases r with e | e | g
  · exact .inl e
  · exact .inr e
  · rw [g.isS] at h; cases h
theorem decI_bd {n : Nat} : ∀ {as : List Str} {t : TL.D} {i p : Int} {o : TL.D}, (∀ a ∈ as, PyData.strOk a = true) → Good n t → decI n t as i = some (o, p) → i + 1 ≤ p ∧ p ≤ i + as.length ∧ (o = .str "done" ∨ o = .str "failed")
  | [], _, _, _, _, _, _, h => by cases h
  | a :: as, t, i, p, o, ha, g, h => by
    have r := beh_res (ha a (List.mem_cons_self ..)) g
    unfold decI at h
    cases hs : (beh n t a).isS with
    | true =>
      rw [if_pos hs] at h
      cases h
      exact ⟨Int.le_refl _, by simp only [List.length_cons]; omega, r.isS hs⟩
    | false =>
      rw [if_neg (by simp [hs])] at h
      have z := decI_bd (fun b hb => ha b (List.mem_cons_of_mem _ hb)) (r.good hs) h
      exact ⟨by omega, by simp only [List.length_cons]; omega, z.2.2⟩
/-- where b is done, counted on from i -/
def occ (b : Str) : List Str → Int → List Int
  | [], _ => []
  | a :: as, i => if a = b then (i + 1) :: occ b as (i + 1) else occ b as (i + 1)
theorem occ_cons {b a : Str} {as : List Str} {i : Int} : occ b (a :: as) i = if a = b then (i + 1) :: occ b as (i + 1) else occ b as (i + 1) := rfl
theorem occ_lt {b : Str} : ∀ {as : List Str} {i p : Int}, p ∈ occ b as i → i + 1 ≤ p
  | [], _, _, h => nomatch h
  | a :: as, i, p, h => by
    unfold occ at h
    split at h
    · rcases List.mem_cons.mp h with rfl | h
      · exact Int.le_refl _
      · have := occ_lt h; omega
    · have := occ_lt h; omega
theorem decI_do {n : Nat} {b : Str} : ∀ {as : List Str} {k i : Int}, 1 ≤ k → decI (n + 1) (.tup [.str "do", .str b, .int k]) as i = ((occ b as i)[k.toNat - 1]?).map fun p => (TL.D.str "done", p)
  | [], _, _, _ => rfl
  | a :: as, k, i, hk => by
    have eb : beh (n + 1) (.tup [.str "do", .str b, .int k]) a = if a = b then (if k = 1 then .str "done" else .tup [.str "do", .str b, .int (k - 1)]) else .tup [.str "do", .str b, .int k] := by
      simp only [beh]
    rw [decI_cons eb, occ_cons]
    by_cases hab : a = b
    · rw [if_pos hab, if_pos hab]
      by_cases h1 : k = 1
      · subst h1
        simp [TL.D.isS]
      · have := decI_do (n := n) (b := b) (as := as) (k := k - 1) (i := i + 1) (by omega)
        rw [if_neg h1, if_neg (by simp [TL.D.isS]), this]
        have : k.toNat - 1 = (k - 1).toNat - 1 + 1 := by omega
        rw [this, List.getElem?_cons_succ]
    · rw [if_neg hab, if_neg hab, if_neg (by simp [TL.D.isS])]
      exact decI_do hk
def woD (os : List Int) (x : Option (TL.D × Int)) : Option (TL.D × Int) := match os, x with
  | [], x => x
  | q :: _, none => some (.str "failed", q)
  | q :: _, some (o, p) => if q ≤ p then some (.str "failed", q) else some (o, p)
theorem decI_wo {n : Nat} {b : Str} : ∀ {as : List Str} {t : TL.D} {i : Int}, (∀ a ∈ as, PyData.strOk a = true) → Good n t → decI (n + 1) (.tup [.str "without", .str b, t]) as i = woD (occ b as i) (decI (n + 1) t as i)
  | [], _, _, _, _ => rfl
  | a :: as, t, i, ha, g => by
    have r := beh_res (ha a (List.mem_cons_self ..)) g
    have e := beh_succ (a := a) g
    obtain ⟨ds, ed⟩ := g.isT
    have eb : beh (n + 1) (.tup [.str "without", .str b, t]) a = if a = b then .str "failed" else if (beh n t a).isS then beh n t a else .tup [.str "without", .str b, beh n t a] := by
      subst ed
      simp only [beh]
    rw [decI_cons eb, occ_cons, decI_cons e]
    by_cases hab : a = b
    · rw [if_pos hab, if_pos hab, if_pos (by rfl)]
      cases hd : (if (beh n t a).isS = true then some (beh n t a, i + 1) else decI (n + 1) (beh n t a) as (i + 1)) with
      | none => rfl
      | some x =>
        obtain ⟨o, p⟩ := x
        have : i + 1 ≤ p := by
          by_cases hs : (beh n t a).isS = true
          · rw [if_pos hs] at hd; cases hd; exact Int.le_refl _
          · rw [if_neg hs] at hd
            have := decI_bd (fun b hb => ha b (List.mem_cons_of_mem _ hb)) (r.good (by simpa using hs)).succ hd
            omega
        simp only [woD]
        rw [if_pos this]
    · rw [if_neg hab, if_neg hab]
      by_cases hs : (beh n t a).isS = true
      · rw [if_pos hs, if_pos hs]
        cases ho : occ b as (i + 1) with
        | nil => rfl
        | cons q os =>
          have : i + 1 + 1 ≤ q := occ_lt (b := b) (as := as) (by rw [ho]; exact List.mem_cons_self ..)
          simp only [woD]
          rw [if_neg (by omega)]
      · rw [if_neg hs, if_neg hs, if_neg (by simp [TL.D.isS])]
        exact decI_wo (fun b hb => ha b (List.mem_cons_of_mem _ hb)) (r.good (by simpa using hs))
def wiD (e len : Int) (x : Option (TL.D × Int)) : Option (TL.D × Int) :=
  match x with
  | some (o, p) => if p ≤ e then some (o, p) else if e ≤ len then some (.str "failed", e) else none
  | none => if e ≤ len then some (.str "failed", e) else none
theorem decI_wi {n : Nat} : ∀ {as : List Str} {t : TL.D} {k i : Int}, 1 ≤ k → (∀ a ∈ as, PyData.strOk a = true) → Good n t → decI (n + 1) (.tup [.str "within", .int k, t]) as i = wiD (i + k) (i + as.length) (decI (n + 1) t as i)
  | [], _, k, i, hk, _, _ => by
    unfold decI wiD
    simp only [List.length_nil]
    rw [if_neg (by omega)]
  | a :: as, t, k, i, hk, ha, g => by
    have r := beh_res (ha a (List.mem_cons_self ..)) g
    have e := beh_succ (a := a) g
    have eb : beh (n + 1) (.tup [.str "within", .int k, t]) a = if (beh n t a).isS then beh n t a else if k = 1 then .str "failed" else .tup [.str "within", .int (k - 1), beh n t a] := by
      simp only [beh]
    rw [decI_cons eb, decI_cons e]
    by_cases hs : (beh n t a).isS = true
    · rw [if_pos hs, if_pos hs]
      simp only [wiD]
      rw [if_pos (by omega)]
    · rw [if_neg hs, if_neg hs]
      have gr := r.good (by simpa using hs)
      by_cases h1 : k = 1
      · rw [if_pos h1, if_pos (by rfl)]
        subst h1
        cases hd : decI (n + 1) (beh n t a) as (i + 1) with
        | none =>
          simp only [wiD, List.length_cons]
          rw [if_pos (by omega)]
        | some x =>
          obtain ⟨o, p⟩ := x
          have := decI_bd (fun b hb => ha b (List.mem_cons_of_mem _ hb)) gr.succ hd
          simp only [wiD, List.length_cons]
          rw [if_neg (by omega), if_pos (by omega)]
      · rw [if_neg h1, if_neg (by simp [TL.D.isS])]
        rw [decI_wi (by omega) (fun b hb => ha b (List.mem_cons_of_mem _ hb)) gr]
        congr 1
        · omega
        · simp only [List.length_cons]; omega
theorem maxL_mem : ∀ {xs : List Int}, xs ≠ [] → maxL xs ∈ xs
  | [x], _ => List.mem_singleton.mpr rfl
  | x :: y :: r, _ => by
    have := maxL_mem (xs := y :: r) (by simp)
    show (if maxL (y :: r) > x then maxL (y :: r) else x) ∈ _
    split
    · exact List.mem_cons_of_mem _ this
    · exact List.mem_cons_self ..
theorem maxL_ge : ∀ {xs : List Int} {x : Int}, x ∈ xs → x ≤ maxL xs
  | [y], x, h => by cases List.mem_singleton.mp h; exact Int.le_refl _
  | z :: y :: r, x, h => by
    show x ≤ (if maxL (y :: r) > z then maxL (y :: r) else z)
    rcases List.mem_cons.mp h with rfl | h
    · split <;> omega
    · have := maxL_ge (xs := y :: r) h
      split <;> omega
theorem minL_mem : ∀ {xs : List Int}, xs ≠ [] → minL xs ∈ xs
  | [x], _ => List.mem_singleton.mpr rfl
  | x :: y :: r, _ => by
    have := minL_mem (xs := y :: r) (by simp)
    show (if minL (y :: r) < x then minL (y :: r) else x) ∈ _
    split
    · exact List.mem_cons_of_mem _ this
    · exact List.mem_cons_self ..
theorem minL_le : ∀ {xs : List Int} {x : Int}, x ∈ xs → minL xs ≤ x
  | [y], x, h => by cases List.mem_singleton.mp h; exact Int.le_refl _
  | z :: y :: r, x, h => by
    show (if minL (y :: r) < z then minL (y :: r) else z) ≤ x
    rcases List.mem_cons.mp h with rfl | h
    · split <;> omega
    · have := minL_le (xs := y :: r) h
      split <;> omega
/-- the outcome that ends a group at once, and the other one -/
def enW (w : String) : TL.D := if w = "any" then .str "done" else .str "failed"
def otW (w : String) : TL.D := if w = "any" then .str "failed" else .str "done"
def posE (w : String) (xs : List (Option (TL.D × Int))) : List Int := xs.filterMap fun x => x.bind fun q => if q.1.eqv (enW w) then some q.2 else none
def posA (xs : List (Option (TL.D × Int))) : List Int := xs.filterMap fun x => x.map fun q => q.2
def grpD (w : String) (xs : List (Option (TL.D × Int))) : Option (TL.D × Int) :=
  if posE w xs ≠ [] then some (enW w, minL (posE w xs)) else if xs.any (·.isNone) then none else some (otW w, maxL (posA xs))
theorem en_ot (w : String) {o : TL.D} (h : o = .str "done" ∨ o = .str "failed") : o = enW w ∧ o.eqv (enW w) = true ∧ o.eqv (otW w) = false ∨ o = otW w ∧ o.eqv (enW w) = false ∧ o.eqv (otW w) = true := by
  unfold enW otW
  by_cases hw : w = "any"
  · rw [if_pos hw, if_pos hw]
    rcases h with rfl | rfl
    · exact .inl ⟨rfl, by simp [eqv_str], by simp [eqv_str]⟩
    · exact .inr ⟨rfl, by simp [eqv_str], by simp [eqv_str]⟩
  · rw [if_neg hw, if_neg hw]
    rcases h with rfl | rfl
    · exact .inr ⟨rfl, by simp [eqv_str], by simp [eqv_str]⟩
    · exact .inl ⟨rfl, by simp [eqv_str], by simp [eqv_str]⟩
theorem grpD_one (w : String) {x : Option (TL.D × Int)} (h : ∀ q, x = some q → q.1 = .str "done" ∨ q.1 = .str "failed") : grpD w [x] = x := by
  unfold grpD posE posA
  cases x with
  | none => rfl
  | some q =>
    obtain ⟨o, p⟩ := q
    rcases en_ot w (h _ rfl) with ⟨e, e1, e2⟩ | ⟨e, e1, e2⟩
    · simp only [List.filterMap_cons, Option.bind, e1, if_true, List.filterMap_nil]
      simp only at e
      rw [if_pos (by simp), e]
      rfl
    · simp only [List.filterMap_cons, Option.bind, e1, Bool.false_eq_true, if_false, List.filterMap_nil]
      simp only at e
      rw [if_neg (by simp), e]
      rfl

end TP

namespace TP
open TL
open PySem (Str PyData)
open L2 (atI)
theorem grp_drop {w : String} {F G : TL.D → Option (TL.D × Int)} {i : Int} : ∀ {ss : List TL.D}, (∀ s ∈ ss, (s.eqv (otW w) = true ∧ F s = some (otW w, i)) ∨ (s.eqv (otW w) = false ∧ F s = G s)) →
    posE w (ss.map F) = posE w ((ss.filter fun s => !s.eqv (otW w)).map G) ∧ (ss.map F).any (·.isNone) = ((ss.filter fun s => !s.eqv (otW w)).map G).any (·.isNone) ∧
    (∀ x ∈ posA (ss.map F), x = i ∨ x ∈ posA ((ss.filter fun s => !s.eqv (otW w)).map G)) ∧ (∀ x ∈ posA ((ss.filter fun s => !s.eqv (otW w)).map G), x ∈ posA (ss.map F)) := by
  intro ss
  have eo : (otW w).eqv (enW w) = false := by
    have h : otW w = .str "done" ∨ otW w = .str "failed" := by unfold otW; split; exact .inr rfl; exact .inl rfl
    rcases en_ot w h with ⟨e, e1, e2⟩ | ⟨e, e1, e2⟩
    · rw [show (otW w).eqv (otW w) = true from by rcases h with h | h <;> rw [h] <;> simp [eqv_str]] at e2
      cases e2
    · exact e1
  induction ss with
  | nil => intro _; exact ⟨rfl, rfl, fun _ h => (nomatch h), fun _ h => nomatch h⟩
  | cons s ss ih =>
    intro h
    obtain ⟨h1, h2, h3, h4⟩ := ih fun x hx => h x (List.mem_cons_of_mem _ hx)
    rcases h s (List.mem_cons_self ..) with ⟨e, ef⟩ | ⟨e, ef⟩
    · have hf : (s :: ss).filter (fun s => !s.eqv (otW w)) = ss.filter fun s => !s.eqv (otW w) := by
        rw [List.filter_cons, e]
        rfl
      rw [hf, List.map_cons, ef]
      refine ⟨?_, ?_, ?_, ?_⟩
      · rw [← h1]
        unfold posE
        simp only [List.filterMap_cons, Option.bind, eo, Bool.false_eq_true, if_false]
      · rw [← h2]
        simp
      · intro x hx
        unfold posA at hx
        simp only [List.filterMap_cons, Option.map] at hx
        rcases List.mem_cons.mp hx with rfl | hx
        · exact .inl rfl
        · exact h3 x hx
      · intro x hx
        unfold posA
        simp only [List.filterMap_cons, Option.map]
        exact List.mem_cons_of_mem _ (h4 x hx)
    · have hf : (s :: ss).filter (fun s => !s.eqv (otW w)) = s :: ss.filter fun s => !s.eqv (otW w) := by
        rw [List.filter_cons, e]
        rfl
      rw [hf, List.map_cons, List.map_cons, ef]
      refine ⟨?_, ?_, ?_, ?_⟩
      · unfold posE at h1 ⊢
        simp only [List.filterMap_cons, h1]
      · simp only [List.any_cons, h2]
      · intro x hx
        unfold posA at hx h3 ⊢
        simp only [List.filterMap_cons] at hx ⊢
        cases hg : G s with
        | none =>
          rw [hg] at hx
          exact h3 x hx
        | some q =>
          rw [hg] at hx
          simp only [Option.map] at hx ⊢
          rcases List.mem_cons.mp hx with rfl | hx
          · exact .inr (List.mem_cons_self ..)
          · exact (h3 x hx).imp id (List.mem_cons_of_mem _)
      · intro x hx
        unfold posA at hx h4 ⊢
        simp only [List.filterMap_cons] at hx ⊢
        cases hg : G s with
        | none =>
          rw [hg] at hx
          exact h4 x hx
        | some q =>
          rw [hg] at hx
          simp only [Option.map] at hx ⊢
          rcases List.mem_cons.mp hx with rfl | hx
          · exact List.mem_cons_self ..
          · exact List.mem_cons_of_mem _ (h4 x hx)
theorem posA_ne {xs : List (Option (TL.D × Int))} (h0 : xs ≠ []) (h : xs.any (·.isNone) = false) : posA xs ≠ [] := by
  match xs, h0 with
  | none :: r, _ => simp at h
  | some q :: r, _ => unfold posA; simp
theorem posE_mem {w : String} {xs : List (Option (TL.D × Int))} {p : Int} (h : p ∈ posE w xs) : ∃ o, some (o, p) ∈ xs ∧ o.eqv (enW w) = true := by
  unfold posE at h
  obtain ⟨x, hx, e⟩ := List.mem_filterMap.mp h
  cases x with
  | none => cases e
  | some q =>
    obtain ⟨o, p'⟩ := q
    simp only [Option.bind] at e
    split at e
    · next he => cases e; exact ⟨o, hx, he⟩
    · cases e
theorem mem_posE {w : String} {xs : List (Option (TL.D × Int))} {o : TL.D} {p : Int} (h : some (o, p) ∈ xs) (e : o.eqv (enW w) = true) : p ∈ posE w xs :=
  List.mem_filterMap.mpr ⟨_, h, by simp only [Option.bind, e, if_true]⟩
theorem posA_mem {xs : List (Option (TL.D × Int))} {p : Int} (h : p ∈ posA xs) : ∃ o, some (o, p) ∈ xs := by
  unfold posA at h
  obtain ⟨x, hx, e⟩ := List.mem_filterMap.mp h
  cases x with
  | none => cases e
  | some q => obtain ⟨o, p'⟩ := q; cases e; exact ⟨o, hx⟩
theorem decI_grp {n : Nat} {w : String} (hw : w = "all" ∨ w = "any") : ∀ {as : List Str} {ts : List TL.D} {i : Int}, (∀ a ∈ as, PyData.strOk a = true) → ts ≠ [] → ts.length ≤ 1000 → (∀ t ∈ ts, Good n t) →
    decI (n + 1) (.tup [.str w, .tup ts]) as i = grpD w (ts.map fun t => decI (n + 1) t as i)
  | [], ts, i, _, h0, hl, _ => by
    unfold grpD
    have e : (ts.map fun t => decI (n + 1) t [] i) = ts.map fun _ => none := List.map_congr_left fun t _ => rfl
    have e1 : posE w (ts.map fun _ => none) = [] := by
      unfold posE
      rw [List.filterMap_map]
      exact List.filterMap_eq_nil_iff.mpr fun _ _ => rfl
    rw [e, e1, if_neg (by simp), if_pos]
    · rfl
    · match ts, h0 with
      | _ :: _, _ => simp
  | a :: as, ts, i, ha, h0, hl, hg => by
    have ha0 := ha a (List.mem_cons_self ..)
    have ha' : ∀ b ∈ as, PyData.strOk b = true := fun b hb => ha b (List.mem_cons_of_mem _ hb)
    have wt : w ≠ "then" := by rcases hw with rfl | rfl <;> decide
    have eb : beh (n + 1) (.tup [.str w, .tup ts]) a = if ((ts.map fun t => beh n t a).any fun s => s.eqv (enW w)) = true then enW w else if ((ts.map fun t => beh n t a).filter fun s => !s.eqv (otW w)) = [] then otW w else grp w ((ts.map fun t => beh n t a).filter fun s => !s.eqv (otW w)) := by
      simp only [beh, str_inj, if_neg wt]
      rfl
    have em : (ts.map fun t => decI (n + 1) t (a :: as) i) = (ts.map fun t => beh n t a).map fun s => if s.isS then some (s, i + 1) else decI (n + 1) s as (i + 1) := by
      rw [List.map_map]
      exact List.map_congr_left fun t ht => decI_cons (beh_succ (hg t ht))
    have rs : ∀ s ∈ ts.map fun t => beh n t a, Res n s := by
      intro s hs
      obtain ⟨t, ht, rfl⟩ := List.mem_map.mp hs
      exact beh_res ha0 (hg t ht)
    have h0' : (ts.map fun t => beh n t a) ≠ [] := by simpa using h0
    have hl' : (ts.map fun t => beh n t a).length ≤ 1000 := by simpa using hl
    rw [decI_cons eb, em]
    generalize (ts.map fun t => beh n t a) = ss at *
    clear eb em
    have pos : ∀ o p, some (o, p) ∈ (ss.map fun s => if s.isS then some (s, i + 1) else decI (n + 1) s as (i + 1)) → i + 1 ≤ p := by
      intro o p h
      obtain ⟨s, hs, e⟩ := List.mem_map.mp h
      by_cases k : s.isS = true
      · rw [if_pos k] at e; cases e; exact Int.le_refl _
      · rw [if_neg k] at e
        have := decI_bd ha' ((rs s hs).good (by simpa using k)).succ e
        omega
    have enS : (enW w).isS = true := by unfold enW; split <;> rfl
    have otS : (otW w).isS = true := by unfold otW; split <;> rfl
    by_cases hany : (ss.any fun s => s.eqv (enW w)) = true
    · rw [if_pos hany, if_pos enS]
      obtain ⟨s, hs, e⟩ := List.any_eq_true.mp hany
      have es : s = enW w := by
        rcases rs s hs with k | k | g
        · rcases en_ot w (.inl k) with ⟨z, _, _⟩ | ⟨_, z, _⟩; exact z; rw [e] at z; cases z
        · rcases en_ot w (.inr k) with ⟨z, _, _⟩ | ⟨_, z, _⟩; exact z; rw [e] at z; cases z
        · unfold enW at e
          split at e <;> rw [g.eqvS] at e <;> cases e
      have m : i + 1 ∈ posE w (ss.map fun s => if s.isS then some (s, i + 1) else decI (n + 1) s as (i + 1)) :=
        mem_posE (o := enW w) (List.mem_map.mpr ⟨s, hs, by rw [es, if_pos enS]⟩) (by rw [es] at e; exact e)
      have ne : posE w (ss.map fun s => if s.isS then some (s, i + 1) else decI (n + 1) s as (i + 1)) ≠ [] := List.ne_nil_of_mem m
      unfold grpD
      rw [if_pos ne]
      have q1 := minL_le m
      obtain ⟨o, q2, _⟩ := posE_mem (minL_mem ne)
      have := pos _ _ q2
      rw [show minL (posE w (ss.map fun s => if s.isS then some (s, i + 1) else decI (n + 1) s as (i + 1))) = i + 1 from by omega]
    · rw [if_neg hany]
      have cls : ∀ s ∈ ss, (s = otW w ∧ s.eqv (otW w) = true) ∨ (Good n s ∧ s.eqv (otW w) = false) := by
        intro s hs
        have nn : s.eqv (enW w) = false := by
          cases e : s.eqv (enW w) with
          | false => rfl
          | true => exact (hany (List.any_eq_true.mpr ⟨s, hs, e⟩)).elim
        rcases rs s hs with k | k | g
        · rcases en_ot w (.inl k) with ⟨_, z, _⟩ | ⟨z, _, y⟩
          · rw [nn] at z; cases z
          · exact .inl ⟨z, y⟩
        · rcases en_ot w (.inr k) with ⟨_, z, _⟩ | ⟨z, _, y⟩
          · rw [nn] at z; cases z
          · exact .inl ⟨z, y⟩
        · refine .inr ⟨g, ?_⟩
          unfold otW
          split <;> exact g.eqvS _
      obtain ⟨d1, d2, d3, d4⟩ := grp_drop (w := w) (ss := ss) (i := i + 1) (F := fun s => if s.isS then some (s, i + 1) else decI (n + 1) s as (i + 1)) (G := fun s => decI (n + 1) s as (i + 1)) (fun s hs => by
        rcases cls s hs with ⟨e, e1⟩ | ⟨g, e1⟩
        · refine .inl ⟨e1, ?_⟩
          subst e
          simp only [otS, if_true]
        · exact .inr ⟨e1, by simp only [g.isS, Bool.false_eq_true, if_false]⟩)
      have gl : ∀ s ∈ ss.filter fun s => !s.eqv (otW w), Good n s := by
        intro s hs
        have ⟨h1, h2⟩ := List.mem_filter.mp hs
        rcases cls s h1 with ⟨_, e⟩ | ⟨g, _⟩
        · rw [e] at h2; cases h2
        · exact g
      have ll : (ss.filter fun s => !s.eqv (otW w)).length ≤ 1000 := Nat.le_trans (List.length_filter_le _ _) hl'
      by_cases he : (ss.filter fun s => !s.eqv (otW w)) = []
      · rw [if_pos he, if_pos otS]
        rw [he] at d1 d2 d3
        unfold grpD
        rw [d1, d2, if_neg (by simp [posE]), if_neg (by simp)]
        have ne := posA_ne (xs := ss.map fun s => if s.isS then some (s, i + 1) else decI (n + 1) s as (i + 1)) (by simpa using h0') (by rw [d2]; rfl)
        rcases d3 _ (maxL_mem ne) with e | e
        · rw [e]
        · cases e
      · rw [if_neg he]
        have gg : (grp w (ss.filter fun s => !s.eqv (otW w))).isS = false := (grp_good (hw.imp id .inl) he ll gl).isS
        rw [if_neg (by rw [gg]; simp)]
        have main : decI (n + 1) (grp w (ss.filter fun s => !s.eqv (otW w))) as (i + 1) = grpD w ((ss.filter fun s => !s.eqv (otW w)).map fun s => decI (n + 1) s as (i + 1)) := by
          generalize (ss.filter fun s => !s.eqv (otW w)) = L at *
          match L, he with
          | [x], _ =>
            exact (grpD_one w fun q hq => (decI_bd (p := q.2) (o := q.1) ha' (gl x (List.mem_singleton.mpr rfl)).succ hq).2.2).symm
          | x :: y :: r, _ => exact decI_grp hw ha' (by simp) ll gl
        rw [main]
        unfold grpD
        rw [d1, d2]
        split
        · rfl
        · split
          · rfl
          · next hn =>
            have hn : ((ss.filter fun s => !s.eqv (otW w)).map fun s => decI (n + 1) s as (i + 1)).any (·.isNone) = false := by simpa using hn
            have n1 := posA_ne (by simpa using he) hn
            have n2 := posA_ne (xs := ss.map fun s => if s.isS then some (s, i + 1) else decI (n + 1) s as (i + 1)) (by simpa using h0') (by rw [d2]; exact hn)
            have m1 := maxL_mem n1
            have m2 := maxL_mem n2
            have l1 := maxL_ge (d4 _ m1)
            have lo : i + 1 ≤ maxL (posA ((ss.filter fun s => !s.eqv (otW w)).map fun s => decI (n + 1) s as (i + 1))) := by
              obtain ⟨o, z⟩ := posA_mem (d4 _ m1)
              exact pos _ _ z
            have l2 : maxL (posA (ss.map fun s => if s.isS then some (s, i + 1) else decI (n + 1) s as (i + 1))) ≤ maxL (posA ((ss.filter fun s => !s.eqv (otW w)).map fun s => decI (n + 1) s as (i + 1))) := by
              rcases d3 _ m2 with e | e
              · rw [e]; exact lo
              · exact maxL_ge e
            rw [show maxL (posA (ss.map fun s => if s.isS then some (s, i + 1) else decI (n + 1) s as (i + 1))) = maxL (posA ((ss.filter fun s => !s.eqv (otW w)).map fun s => decI (n + 1) s as (i + 1))) from by omega]

end TP

namespace TP
open TL
open PySem (Str PyData)
open L2 (atI)
/-- one after another: from where the one is done on the next -/
def seqD (n : Nat) (ds : List Str) : List TL.D → Int → Option (TL.D × Int)
  | [], i => some (.str "done", i)
  | t :: r, i => match decI n t (ds.drop i.toNat) i with
    | none => none
    | some (o, p) => if o.eqv (.str "failed") then some (o, p) else seqD n ds r p
theorem decI_then {n : Nat} {ds : List Str} (hds : ∀ a ∈ ds, PyData.strOk a = true) : ∀ {as : List Str} {ts : List TL.D} {j : Nat}, ds.drop j = as → ts ≠ [] → ts.length ≤ 1000 → (∀ t ∈ ts, Good n t) →
    decI (n + 1) (grp "then" ts) as j = seqD (n + 1) ds ts j
  | [], ts, j, e, h0, hl, hg => by
    match ts, h0 with
    | t :: r, _ =>
      unfold seqD
      rw [Int.toNat_natCast, e]
      rfl
  | a :: as, ts, j, e, h0, hl, hg => by
    have hall : ∀ b ∈ a :: as, PyData.strOk b = true := fun b hb => hds b (List.mem_of_mem_drop (by rw [e]; exact hb))
    have ha0 := hall a (List.mem_cons_self ..)
    have e' : ds.drop (j + 1) = as := by
      rw [← List.drop_drop, e]
      rfl
    match ts, h0 with
    | [t], _ =>
      show decI (n + 1) t (a :: as) j = _
      unfold seqD
      rw [Int.toNat_natCast, e]
      cases hd : decI (n + 1) t (a :: as) j with
      | none => rfl
      | some q =>
        obtain ⟨o, p⟩ := q
        have := decI_bd hall (hg t (List.mem_singleton.mpr rfl)).succ hd
        rcases this.2.2 with rfl | rfl
        · simp [eqv_str, seqD]
        · simp [eqv_str]
    | t :: u :: r, _ =>
      have gt := hg t (List.mem_cons_self ..)
      have gr : ∀ s ∈ u :: r, Good n s := fun s hs => hg s (List.mem_cons_of_mem _ hs)
      have lr : (u :: r).length ≤ 1000 := by simp at hl ⊢; omega
      have rt := beh_res ha0 gt
      have eb : beh (n + 1) (.tup [.str "then", .tup (t :: u :: r)]) a = if (beh n t a).eqv (.str "failed") then .str "failed" else if (beh n t a).eqv (.str "done") then grp "then" (u :: r) else grp "then" (beh n t a :: u :: r) := by
        simp only [beh, if_true]
      show decI (n + 1) (.tup [.str "then", .tup (t :: u :: r)]) (a :: as) j = _
      unfold seqD
      rw [decI_cons eb, Int.toNat_natCast, e, decI_cons (beh_succ (a := a) gt)]
      have c1 : ((j : Int) + 1) = ((j + 1 : Nat) : Int) := by omega
      rcases rt with k | k | k
      · have gg : (grp "then" (u :: r)).isS = false := (grp_good (.inr (.inr rfl)) (by simp) lr gr).isS
        rw [k]
        have q1 : (TL.D.str "done").eqv (.str "failed") = false := by simp [eqv_str]
        have q2 : (TL.D.str "done").eqv (.str "done") = true := by simp [eqv_str]
        have q3 : (TL.D.str "done").isS = true := rfl
        simp only [q1, q2, q3, gg, Bool.false_eq_true, if_false, if_true]
        rw [c1]
        exact decI_then hds e' (by simp) lr gr
      · rw [k]
        simp [eqv_str, TL.D.isS]
      · have gl : ∀ s ∈ beh n t a :: u :: r, Good n s := fun s hs => by
          rcases List.mem_cons.mp hs with rfl | hs
          · exact k
          · exact gr s hs
        have gg : (grp "then" (beh n t a :: u :: r)).isS = false := (grp_good (.inr (.inr rfl)) (by simp) (by simpa using hl) gl).isS
        simp only [k.eqvS, Bool.false_eq_true, if_false, gg, k.isS]
        have := decI_then (ts := beh n t a :: u :: r) hds e' (by simp) (by simpa using hl) gl
        rw [c1, this]
        show (match decI (n + 1) (beh n t a) (ds.drop (((j + 1 : Nat) : Int)).toNat) ((j + 1 : Nat) : Int) with
          | none => none
          | some (o, p) => if o.eqv (.str "failed") then some (o, p) else seqD (n + 1) ds (u :: r) p) = _
        rw [Int.toNat_natCast, e']
theorem decI_shift {n : Nat} : ∀ {as : List Str} {t : TL.D} {i : Int} (c : Int), decI n t as (i + c) = (decI n t as i).map fun q => (q.1, q.2 + c)
  | [], _, _, _ => rfl
  | a :: as, t, i, c => by
    unfold decI
    split
    · simp only [Option.map]
      congr 2
      omega
    · have := decI_shift (n := n) (as := as) (t := beh n t a) (i := i + 1) c
      rw [← this]
      congr 1
      omega
theorem decI_succ {n : Nat} : ∀ {as : List Str} {t : TL.D} {i : Int}, (∀ a ∈ as, PyData.strOk a = true) → Good n t → decI (n + 1) t as i = decI n t as i
  | [], _, _, _, _ => rfl
  | a :: as, t, i, ha, g => by
    have r := beh_res (ha a (List.mem_cons_self ..)) g
    rw [decI_cons (beh_succ (a := a) g), decI_cons (n := n) rfl]
    cases hs : (beh n t a).isS with
    | true => rfl
    | false =>
      simp only [Bool.false_eq_true, if_false]
      exact decI_succ (fun b hb => ha b (List.mem_cons_of_mem _ hb)) (r.good hs)

end TP

namespace TP
open TL
open PySem (Str PyData)
open L2 (atI)
abbrev nD (n : String) : TL.D := .str (Str.ofString n)
/-- a row of a book -/
structure Row where
  name : String
  wants : List String
  task : TL.D
def Row.d (r : Row) : TL.D := .tup [.str r.name, .tup (r.wants.map nD), r.task]
/-- counts: taken, done, failed -/
structure Cnt where
  t : Nat
  d : Nat
  f : Nat
  deriving DecidableEq
def Cnt.l (c : Cnt) : List TL.D := [.int (c.t : Nat), .int (c.d : Nat), .int (c.f : Nat)]
def Cnt.dn (c : Cnt) : TL.D := .mlst c.l
structure Tal where
  book : List Row
  cur : List (String × TL.D)
  num : List (String × Cnt)
  log : List (String × String)
def sk {α : Type} (f : α → TL.D) (l : List (String × α)) : List (Str × TL.D) := l.map fun e => (Str.ofString e.1, f e.2)
def logD (e : String × String) : TL.D := .tup [.str e.1, .str e.2]
def tS (T : Tal) : TL.D := .ins "Tale" [("book", .tup (T.book.map Row.d)), ("current", .mdic (sk id T.cur)), ("numbers", .mdic (sk Cnt.dn T.num)), ("log", .mlst (T.log.map logD))]
theorem sk_lookup {α : Type} {f : α → TL.D} (n : String) : ∀ l : List (String × α), (sk f l).lookup (Str.ofString n) = (l.lookup n).map f
  | [] => rfl
  | (m, x) :: l => by
    show List.lookup (Str.ofString n) ((Str.ofString m, f x) :: sk f l) = _
    rw [List.lookup_cons, List.lookup_cons, sk_lookup n l]
    by_cases h : n = m
    · subst h
      simp
    · have h1 : (n == m) = false := by simpa using h
      have h2 : (Str.ofString n == Str.ofString m) = false := by simpa using h
      rw [h1, h2]
theorem sk_length {α : Type} {f : α → TL.D} (l : List (String × α)) : (sk f l).length = l.length := by unfold sk; rw [List.length_map]
/-- a key's value is another, or new at the end -/
def put {α : Type} (n : String) (x : α) : List (String × α) → List (String × α)
  | [] => [(n, x)]
  | (m, y) :: r => if m = n then (m, x) :: r else (m, y) :: put n x r
theorem sk_put {α : Type} {f : α → TL.D} (n : String) (x : α) : ∀ l : List (String × α), putD (Str.ofString n) (f x) (sk f l) = sk f (put n x l)
  | [] => rfl
  | (m, y) :: l => by
    show putD (Str.ofString n) (f x) ((Str.ofString m, f y) :: sk f l) = _
    unfold putD put
    by_cases h : m = n
    · subst h
      rw [if_pos rfl, if_pos rfl]
      rfl
    · rw [if_neg (by simpa using h), if_neg h, sk_put n x l]
      rfl
def del {α : Type} (n : String) (l : List (String × α)) : List (String × α) := l.filter fun e => decide (e.1 ≠ n)
theorem sk_del {α : Type} {f : α → TL.D} (n : String) : ∀ l : List (String × α), (sk f l).filter (fun kv => decide (kv.1 ≠ Str.ofString n)) = sk f (del n l)
  | [] => rfl
  | (m, y) :: l => by
    have ih := sk_del (f := f) n l
    show List.filter _ ((Str.ofString m, f y) :: sk f l) = sk f (List.filter _ _)
    rw [List.filter_cons, List.filter_cons, ih]
    by_cases h : m = n
    · rw [if_neg (by simpa using h), if_neg (by simpa using h)]
      rfl
    · rw [if_pos (by simpa using h), if_pos (by simpa using h)]
      rfl
theorem sk_mod {α : Type} {f : α → TL.D} {g : TL.D → TL.D} {x : α} (n : String) : ∀ l : List (String × α), (∀ y, l.lookup n = some y → g (f y) = f x) → modK (Str.ofString n) g (sk f l) = sk f (if (l.lookup n).isSome then put n x l else l)
  | [], _ => rfl
  | (m, y) :: l, h => by
    show modK (Str.ofString n) g ((Str.ofString m, f y) :: sk f l) = _
    unfold modK
    rw [List.lookup_cons] at h ⊢
    by_cases e : m = n
    · subst e
      rw [beq_self_eq_true] at h ⊢
      dsimp only at h ⊢
      rw [if_pos rfl, h y rfl, put, if_pos rfl]
      rfl
    · have h1 : (n == m) = false := by simpa using fun z => e z.symm
      rw [h1] at h ⊢
      dsimp only at h ⊢
      rw [if_neg (by simpa using e), sk_mod n l h]
      cases q : (l.lookup n).isSome with
      | true =>
        rw [if_pos rfl, if_pos rfl, put, if_neg e]
        rfl
      | false => rfl
def insN (x : String) : List String → List String
  | [] => [x]
  | y :: r => if strLe x y then x :: y :: r else y :: insN x r
def sortN : List String → List String
  | [] => []
  | x :: r => insN x (sortN r)
theorem insS_N (x : String) : ∀ l : List String, insS (Str.ofString x) (l.map Str.ofString) = (insN x l).map Str.ofString
  | [] => rfl
  | y :: r => by
    rw [List.map_cons, insS, insN]
    split
    · rfl
    · rw [List.map_cons, insS_N x r]
theorem sortS_N : ∀ l : List String, sortS (l.map Str.ofString) = (sortN l).map Str.ofString
  | [] => rfl
  | x :: r => by
    show insS (Str.ofString x) (sortS (r.map Str.ofString)) = _
    rw [sortS_N r, insS_N]
    rfl
/-- entries in order -/
def insE {α : Type} (x : String × α) : List (String × α) → List (String × α)
  | [] => [x]
  | y :: r => if strLe x.1 y.1 then x :: y :: r else y :: insE x r
def sortE {α : Type} : List (String × α) → List (String × α)
  | [] => []
  | x :: r => insE x (sortE r)
theorem insK_E {α : Type} {f : α → TL.D} (x : String × α) : ∀ l : List (String × α), insK (Str.ofString x.1, f x.2) (sk f l) = sk f (insE x l)
  | [] => rfl
  | y :: r => by
    show insK _ ((Str.ofString y.1, f y.2) :: sk f r) = _
    rw [insK, insE]
    split
    · rfl
    · rw [insK_E x r]
      rfl
theorem sortK_E {α : Type} {f : α → TL.D} : ∀ l : List (String × α), sortK (sk f l) = sk f (sortE l)
  | [] => rfl
  | x :: r => by
    show insK (Str.ofString x.1, f x.2) (sortK (sk f r)) = _
    rw [sortK_E r, insK_E]
    rfl
theorem insE_keys {α : Type} (x : String × α) : ∀ l : List (String × α), (insE x l).map (·.1) = insN x.1 (l.map (·.1))
  | [] => rfl
  | y :: r => by
    rw [insE, List.map_cons, insN]
    split
    · rfl
    · rw [List.map_cons, insE_keys x r]
theorem sortE_keys {α : Type} : ∀ l : List (String × α), (sortE l).map (·.1) = sortN (l.map (·.1))
  | [] => rfl
  | x :: r => by
    show (insE x (sortE r)).map (·.1) = insN x.1 (sortN (r.map (·.1)))
    rw [insE_keys, sortE_keys r]
def done (T : Tal) (n : String) : Nat := ((T.num.lookup n).map Cnt.d).getD 0
def Tal.offered (T : Tal) : List String := (T.book.filter fun r => !(T.cur.lookup r.name).isSome && r.wants.all fun w => decide (0 < done T w)).map Row.name
def Tal.taskOf (T : Tal) (n : String) : TL.D := match T.book.find? fun r => decide (r.name = n) with
  | some r => r.task
  | none => .non
def Tal.cnt (T : Tal) (n : String) : Cnt := (T.num.lookup n).getD ⟨0, 0, 0⟩
def Tal.take (T : Tal) (n : String) : Tal := { T with cur := put n (T.taskOf n) T.cur, num := put n { T.cnt n with t := (T.cnt n).t + 1 } T.num, log := T.log ++ [("take", n)] }
def Tal.give (T : Tal) (n : String) : Tal := { T with cur := del n T.cur, log := T.log ++ [("up", n)] }

end TP

namespace TP
open TL
open PySem (Str PyData)
open L2 (atI)
/-- a deed's outcome: done, failed, or it goes on -/
def outS : TL.D → Option Bool
  | .str s => some (decide (s = "done"))
  | _ => none
def Tal.one (n : Nat) (a : String) (T : Tal) (m : String) : Tal := match T.cur.lookup m with
  | none => T
  | some d => match outS (beh n d a) with
    | some true => { T with cur := del m T.cur, num := put m { T.cnt m with d := (T.cnt m).d + 1 } T.num, log := T.log ++ [("done", m)] }
    | some false => { T with cur := del m T.cur, num := put m { T.cnt m with f := (T.cnt m).f + 1 } T.num, log := T.log ++ [("failed", m)] }
    | none => { T with cur := put m (beh n d a) T.cur }
def Tal.deed (n : Nat) (a : String) (T : Tal) : Tal := (sortN (T.cur.map (·.1))).foldl (Tal.one n a) { T with log := T.log ++ [("deed", a)] }
theorem lookup_in {α : Type} {n : String} {d : α} : ∀ {l : List (String × α)}, l.lookup n = some d → (n, d) ∈ l
  | [], q => nomatch q
  | e :: r, q => by
    rw [List.lookup_cons] at q
    by_cases z : n = e.1
    · subst z
      rw [beq_self_eq_true] at q
      cases q
      exact List.mem_cons_self
    · rw [show (n == e.1) = false from by simpa using z] at q
      exact List.mem_cons_of_mem _ (lookup_in q)
theorem b1 : (Str.ofString "current" == Str.ofString "book") = false := by decide +kernel
theorem b2 : (Str.ofString "numbers" == Str.ofString "book") = false := by decide +kernel
theorem b3 : (Str.ofString "numbers" == Str.ofString "current") = false := by decide +kernel
theorem b4 : (Str.ofString "log" == Str.ofString "book") = false := by decide +kernel
theorem b5 : (Str.ofString "log" == Str.ofString "current") = false := by decide +kernel
theorem b6 : (Str.ofString "log" == Str.ofString "numbers") = false := by decide +kernel
section
variable {st : Sto} {l : Nat} {T : Tal} (h : st[l]? = some (tS T))
include h
theorem set_at (T' : Tal) : (st.set l (tS T'))[l]? = some (tS T') := List.getElem?_set_self (List.getElem?_eq_some_iff.mp h).1
theorem f_book : fldD st "Tale" (.ref l) "book" = some (.tup (T.book.map Row.d)) := by
  simp [fldD, h, tS]
theorem f_cur : fldD st "Tale" (.ref l) "current" = some (.ptr l ["current"]) := by
  simp [fldD, h, tS, List.lookup_cons, TL.D.own, b1, b2, b3, b4, b5, b6]
theorem f_num : fldD st "Tale" (.ref l) "numbers" = some (.ptr l ["numbers"]) := by
  simp [fldD, h, tS, List.lookup_cons, TL.D.own, b1, b2, b3, b4, b5, b6]
theorem f_log : fldD st "Tale" (.ref l) "log" = some (.ptr l ["log"]) := by
  simp [fldD, h, tS, List.lookup_cons, TL.D.own, b1, b2, b3, b4, b5, b6]
theorem hasT {m : Str} (hm : m ≠ "book" ∧ m ≠ "current" ∧ m ≠ "numbers" ∧ m ≠ "log") : hasM st "Tale" (.ref l) m = true := by
  have e1 : (m == Str.ofString "book") = false := by simpa using hm.1
  have e2 : (m == Str.ofString "current") = false := by simpa using hm.2.1
  have e3 : (m == Str.ofString "numbers") = false := by simpa using hm.2.2.1
  have e4 : (m == Str.ofString "log") = false := by simpa using hm.2.2.2
  simp [hasM, h, tS, List.lookup_cons, e1, e2, e3, e4]
theorem l_cur : look st (.ptr l ["current"]) = some (.mdic (sk id T.cur)) := by
  simp [look, h, tS, List.lookup_cons, sub, b1, b2, b3, b4, b5, b6]
theorem l_num : look st (.ptr l ["numbers"]) = some (.mdic (sk Cnt.dn T.num)) := by
  simp [look, h, tS, List.lookup_cons, sub, b1, b2, b3, b4, b5, b6]
theorem l_log : look st (.ptr l ["log"]) = some (.mlst (T.log.map logD)) := by
  simp [look, h, tS, List.lookup_cons, sub, b1, b2, b3, b4, b5, b6]
theorem l_cnt {n : String} {c : Cnt} (hn : T.num.lookup n = some c) : look st (.ptr l ["numbers", Str.ofString n]) = some c.dn := by
  have e := sk_lookup (f := Cnt.dn) n T.num
  rw [hn] at e
  simp [look, h, tS, List.lookup_cons, sub, e, b1, b2, b3, b4, b5, b6]
theorem pin_cur (neg : Bool) (n : String) : pinD neg st (.str n) (.ptr l ["current"]) = some (.bl (if neg then !(T.cur.lookup n).isSome else (T.cur.lookup n).isSome)) := by
  unfold pinD
  rw [l_cur h]
  dsimp only
  rw [sk_lookup, Option.isSome_map]
theorem pix_cur {n : String} {d : TL.D} (hn : T.cur.lookup n = some d) (ho : d.own = false) : pixD st (.ptr l ["current"]) (.str n) = some d := by
  unfold pixD
  rw [l_cur h]
  dsimp only
  rw [sk_lookup, hn]
  simp [ho]
theorem pix_num {n : String} {c : Cnt} (hn : T.num.lookup n = some c) : pixD st (.ptr l ["numbers"]) (.str n) = some (.ptr l ["numbers", Str.ofString n]) := by
  unfold pixD
  rw [l_num h]
  dsimp only
  rw [sk_lookup, hn]
  rfl
theorem pix_cnt {n : String} {c : Cnt} (hn : T.num.lookup n = some c) (i : Int) : pixD st (.ptr l ["numbers", Str.ofString n]) (.int i) = atI c.l i := by
  unfold pixD
  rw [l_cnt h hn]
  rfl
theorem isM_cur : isMD st (.ptr l ["current"]) = true := by
  unfold isMD
  rw [l_cur h]
theorem isL_log : isML st (.ptr l ["log"]) = true := by
  unfold isML
  rw [l_log h]
theorem put_cur {n : String} {d : TL.D} (ho : d.own = false) (hl : T.cur.length < 1000) (hc : ∀ e ∈ T.cur, e.2.own = false) : pputD st (.ptr l ["current"]) (.str n) d = some (st.set l (tS { T with cur := put n d T.cur })) := by
  unfold pputD
  rw [l_cur h]
  dsimp only
  have lk : (match (sk id T.cur).lookup (Str.ofString n) with | some d0 => !d0.own | none => true) = true := by
    rw [sk_lookup]
    cases q : T.cur.lookup n with
    | none => rfl
    | some d0 =>
      have : (n, d0) ∈ T.cur := lookup_in q
      simp [hc _ this]
  have sz : (sk id T.cur).length < PySem.sizeLine := by rw [sk_length]; unfold PySem.sizeLine; omega
  rw [if_pos ⟨ho, sz, lk⟩, show putD (Str.ofString n) d (sk id T.cur) = sk id (put n d T.cur) from sk_put (f := id) n d T.cur]
  simp [stow, h, tS, modK, repl]
theorem pop_cur {n : String} {d : TL.D} (hn : T.cur.lookup n = some d) (ho : d.own = false) : ppopD st (.ptr l ["current"]) (.str n) = some (st.set l (tS { T with cur := del n T.cur })) := by
  unfold ppopD
  rw [l_cur h]
  dsimp only
  rw [sk_lookup, hn, sk_del]
  simp [ho, stow, h, tS, modK, repl]
theorem app_log {w n : String} (hl : T.log.length < 100000) : pappD st (.ptr l ["log"]) (.tup [.str w, .str n]) = some (st.set l (tS { T with log := T.log ++ [(w, n)] })) := by
  unfold pappD
  rw [l_log h]
  dsimp only
  rw [if_pos ⟨rfl, by rw [List.length_map]; unfold PySem.sizeLine; omega⟩]
  simp [stow, h, tS, modK, repl, logD]
theorem set_cnt {n : String} {c c' : Cnt} {i : Int} {v : TL.D} (hn : T.num.lookup n = some c) (h0 : 0 ≤ i) (h3 : i < 3) (hv : v.own = false) (e : c.l.set i.toNat v = c'.l) : plsetD st (.ptr l ["numbers", Str.ofString n]) (.int i) v = some (st.set l (tS { T with num := put n c' T.num })) := by
  unfold plsetD
  rw [l_cnt h hn]
  show (if _ then _ else _) = _
  have len : (c.l.length : Int) = 3 := rfl
  rw [if_pos ⟨hv, h0, by rw [len]; exact h3⟩, e]
  have m := sk_mod (f := Cnt.dn) (g := fun d => repl d [] (.mlst c'.l)) (x := c') n T.num (fun y _ => by unfold Cnt.dn repl; rfl)
  rw [hn] at m
  simp only [Option.isSome, if_true] at m
  simp [stow, h, tS, modK]
  all_goals (unfold repl)
  all_goals (rw [m])
theorem tup_log (hl : T.log.length < 100000) : ptupD st (.ptr l ["log"]) = some (.tup (T.log.map logD)) := by
  unfold ptupD
  rw [l_log h]
  dsimp only
  rw [if_pos (by rw [List.length_map]; unfold PySem.sizeLine; omega)]
theorem tup_cnt {n : String} {c : Cnt} (hn : T.num.lookup n = some c) : ptupD st (.ptr l ["numbers", Str.ofString n]) = some (.tup c.l) := by
  unfold ptupD
  rw [l_cnt h hn]
  show (if _ then _ else _) = _
  rw [if_pos (by show 3 ≤ PySem.sizeLine; decide)]
theorem sort_cur (hl : T.cur.length < 64) : psortD st (.ptr l ["current"]) = some (.lst ((sortN (T.cur.map (·.1))).map fun n => .str (Str.ofString n))) := by
  unfold psortD
  rw [l_cur h]
  dsimp only
  rw [if_pos (by rw [sk_length]; exact hl), sortK_E, ← sortE_keys]
  unfold sk
  rw [List.map_map, List.map_map]
  rfl
theorem items_cur (hl : T.cur.length < 64) (hc : ∀ e ∈ T.cur, e.2.own = false) : pitemsD st (.ptr l ["current"]) = some (.lst ((sortE T.cur).map fun e => .tup [.str e.1, e.2])) := by
  unfold pitemsD
  rw [l_cur h]
  dsimp only
  have al : (sk id T.cur).all (fun kv => !kv.2.own) = true := by
    unfold sk
    rw [List.all_map, List.all_eq_true]
    intro e he
    simp [hc e he]
  rw [if_pos ⟨by rw [sk_length]; exact hl, al⟩, sortK_E]
  unfold sk
  rw [List.map_map]
  all_goals rfl
end

end TP

namespace TP
open TL
open PySem (Str PyData)
open L2 (atI)
structure TOk (n : Nat) (T : Tal) : Prop where
  bn : (T.book.map Row.name).Nodup
  bl : T.book.length ≤ 20
  good : ∀ r ∈ T.book, Good n r.task
  wants : ∀ r ∈ T.book, r.wants.length ≤ 20 ∧ ∀ w ∈ r.wants, w ∈ T.book.map Row.name
  num : T.num.map (·.1) = T.book.map Row.name
  cn : (T.cur.map (·.1)).Nodup
  cs : ∀ e ∈ T.cur, e.1 ∈ T.book.map Row.name ∧ Good n e.2
theorem len_sub {α : Type} [DecidableEq α] : ∀ {l m : List α}, l.Nodup → (∀ x ∈ l, x ∈ m) → l.length ≤ m.length
  | [], _, _, _ => Nat.zero_le _
  | x :: l, m, nd, h => by
    rw [List.nodup_cons] at nd
    have hx := h x List.mem_cons_self
    have ih := len_sub (l := l) (m := m.erase x) nd.2 fun y hy => (List.mem_erase_of_ne (fun e => nd.1 (by rw [← e]; exact hy))).mpr (h y (List.mem_cons_of_mem _ hy))
    rw [List.length_erase_of_mem hx] at ih
    have : 0 < m.length := List.length_pos_of_mem hx
    rw [List.length_cons]
    omega
theorem TOk.cl {n : Nat} {T : Tal} (h : TOk n T) : T.cur.length ≤ 20 := by
  have z := len_sub h.cn (m := T.book.map Row.name) fun x hx => by
    obtain ⟨e, he, rfl⟩ := List.mem_map.mp hx
    exact (h.cs e he).1
  rw [List.length_map, List.length_map] at z
  exact Nat.le_trans z h.bl
theorem lookup_some {α : Type} {n : String} : ∀ {l : List (String × α)}, n ∈ l.map (·.1) → ∃ x, l.lookup n = some x
  | [], h => by cases h
  | e :: r, h => by
    rw [List.lookup_cons]
    by_cases z : n = e.1
    · subst z
      rw [beq_self_eq_true]
      exact ⟨_, rfl⟩
    · rw [show (n == e.1) = false from by simpa using z]
      rw [List.map_cons] at h
      rcases List.mem_cons.mp h with h | h
      · exact absurd h z
      · exact lookup_some h
theorem TOk.cnt {n : Nat} {T : Tal} (h : TOk n T) {m : String} (hm : m ∈ T.book.map Row.name) : T.num.lookup m = some (T.cnt m) := by
  rw [← h.num] at hm
  obtain ⟨x, hx⟩ := lookup_some hm
  unfold Tal.cnt
  rw [hx]
  rfl
theorem TOk.own {n : Nat} {T : Tal} (h : TOk n T) : ∀ e ∈ T.cur, e.2.own = false := fun e he => (h.cs e he).2.ok.own
theorem TOk.curn {n : Nat} {T : Tal} (h : TOk n T) {m : String} {d : TL.D} (q : T.cur.lookup m = some d) : m ∈ T.book.map Row.name ∧ Good n d := h.cs _ (lookup_in q)
theorem put_keys {α : Type} {n : String} {x : α} : ∀ {l : List (String × α)}, n ∈ l.map (·.1) → (put n x l).map (·.1) = l.map (·.1)
  | [], h => by cases h
  | e :: r, h => by
    unfold put
    by_cases z : e.1 = n
    · rw [if_pos z]
      rfl
    · rw [if_neg z]
      rw [List.map_cons] at h
      rcases List.mem_cons.mp h with h | h
      · exact absurd h.symm z
      · rw [List.map_cons, List.map_cons, put_keys h]
theorem put_new {α : Type} {n : String} {x : α} : ∀ {l : List (String × α)}, n ∉ l.map (·.1) → put n x l = l ++ [(n, x)]
  | [], _ => rfl
  | e :: r, h => by
    rw [List.map_cons, List.mem_cons, not_or] at h
    unfold put
    rw [if_neg fun z => h.1 z.symm, put_new h.2]
    rfl
theorem put_mem {α : Type} {n : String} {x : α} : ∀ {l : List (String × α)} {e : String × α}, e ∈ put n x l → e = (n, x) ∨ e ∈ l
  | [], e, h => .inl (List.mem_singleton.mp h)
  | y :: r, e, h => by
    unfold put at h
    by_cases z : y.1 = n
    · rw [if_pos z] at h
      rcases List.mem_cons.mp h with h | h
      · rw [h, z]; exact .inl rfl
      · exact .inr (List.mem_cons_of_mem _ h)
    · rw [if_neg z] at h
      rcases List.mem_cons.mp h with h | h
      · exact .inr (by rw [h]; exact List.mem_cons_self)
      · exact (put_mem h).imp id (List.mem_cons_of_mem _)
theorem put_nodup {α : Type} {n : String} {x : α} {l : List (String × α)} (h : (l.map (·.1)).Nodup) : ((put n x l).map (·.1)).Nodup := by
  by_cases q : n ∈ l.map (·.1)
  · rw [put_keys q]
    exact h
  · rw [put_new q, List.map_append, List.nodup_append]
    refine ⟨h, by simp, fun a ha b hb e => ?_⟩
    have : b = n := by simpa using hb
    rw [← this, ← e] at q
    exact q ha
theorem del_mem {α : Type} {n : String} {l : List (String × α)} {e : String × α} (h : e ∈ del n l) : e ∈ l := (List.mem_filter.mp h).1
theorem del_nodup {α : Type} {n : String} {l : List (String × α)} (h : (l.map (·.1)).Nodup) : ((del n l).map (·.1)).Nodup := List.Nodup.sublist (List.Sublist.map _ List.filter_sublist) h
theorem TOk.put {n : Nat} {T : Tal} (h : TOk n T) {m : String} {d : TL.D} (hm : m ∈ T.book.map Row.name) (g : Good n d) {L : List (String × String)} : TOk n { T with cur := put m d T.cur, log := L } := by
  refine ⟨h.bn, h.bl, h.good, h.wants, h.num, put_nodup h.cn, ?_⟩
  intro e he
  rcases put_mem he with rfl | he
  · exact ⟨hm, g⟩
  · exact h.cs e he
theorem TOk.del {n : Nat} {T : Tal} (h : TOk n T) {m : String} {L : List (String × String)} : TOk n { T with cur := del m T.cur, log := L } :=
  { h with cn := del_nodup h.cn, cs := fun e he => h.cs e (del_mem he) }
theorem TOk.num' {n : Nat} {T : Tal} (h : TOk n T) {m : String} {c : Cnt} (hm : m ∈ T.book.map Row.name) {C : List (String × TL.D)} {L : List (String × String)} (hc : TOk n { T with cur := C, log := L }) : TOk n { T with cur := C, num := TP.put m c T.num, log := L } := by
  refine ⟨hc.bn, hc.bl, hc.good, hc.wants, ?_, hc.cn, hc.cs⟩
  show (TP.put m c T.num).map (·.1) = _
  rw [put_keys (by rw [h.num]; exact hm)]
  exact h.num
theorem TOk.log {n : Nat} {T : Tal} (h : TOk n T) {L : List (String × String)} : TOk n { T with log := L } := { h with }
theorem outS_res {n : Nat} {d : TL.D} (h : Res n d) : (d = .str "done" ∧ outS d = some true) ∨ (d = .str "failed" ∧ outS d = some false) ∨ (Good n d ∧ outS d = none) := by
  rcases h with rfl | rfl | h
  · exact .inl ⟨rfl, rfl⟩
  · refine .inr (.inl ⟨rfl, ?_⟩)
    show some (decide _) = _
    rw [decide_eq_false (by decide +kernel)]
  · refine .inr (.inr ⟨h, ?_⟩)
    obtain ⟨ds, rfl⟩ := h.isT
    rfl
theorem TOk.one {n : Nat} {T : Tal} (h : TOk n T) (a m : String) : TOk n (T.one n a m) := by
  unfold Tal.one
  split
  · exact h
  · rename_i d hd
    obtain ⟨hm, g⟩ := h.curn hd
    rcases outS_res (beh_res (strOk_of a) g) with ⟨e, o⟩ | ⟨e, o⟩ | ⟨g', o⟩
    · rw [o]
      exact h.num' hm h.del
    · rw [o]
      exact h.num' hm h.del
    · rw [o]
      exact h.put hm g' (L := T.log)
theorem TOk.deed {n : Nat} {T : Tal} (h : TOk n T) (a : String) : TOk n (T.deed n a) := by
  unfold Tal.deed
  have key : ∀ (ms : List String) (T : Tal), TOk n T → TOk n (ms.foldl (Tal.one n a) T) := by
    intro ms
    induction ms with
    | nil => intro T h; exact h
    | cons m ms ih => intro T h; exact ih _ (h.one a m)
  exact key _ _ h.log
theorem find_row {n : Nat} {T : Tal} (h : TOk n T) {m : String} (hm : m ∈ T.book.map Row.name) : ∃ r ∈ T.book, r.name = m ∧ T.taskOf m = r.task := by
  unfold Tal.taskOf
  obtain ⟨r0, h0, e0⟩ := List.mem_map.mp hm
  cases q : T.book.find? fun r => decide (r.name = m) with
  | none =>
    have := List.find?_eq_none.mp q r0 h0
    simp [e0] at this
  | some r =>
    have a := List.find?_some q
    exact ⟨r, List.mem_of_find?_eq_some q, by simpa using a, rfl⟩
theorem TOk.take {n : Nat} {T : Tal} (h : TOk n T) {m : String} (hm : m ∈ T.book.map Row.name) : TOk n (T.take m) := by
  obtain ⟨r, hr, _, e⟩ := find_row h hm
  unfold Tal.take
  rw [e]
  exact h.num' hm (h.put hm (h.good r hr))
theorem TOk.give {n : Nat} {T : Tal} (h : TOk n T) (m : String) : TOk n (T.give m) := h.del
theorem one_log (n : Nat) (a : String) (T : Tal) (m : String) : (T.one n a m).log.length ≤ T.log.length + 1 := by
  unfold Tal.one
  split
  · exact Nat.le_succ _
  · split
    · simp
    · simp
    · exact Nat.le_succ _

end TP

namespace TP
open TL
open PySem (Str PyData)
open L2 (atI)
theorem lcE_l {α : Type} {C : Cal} {ρ : TL.Env} {st : Sto} {elt : E} {tg : T} {own : List Nat} {cond : List E} {p : α → Bool} {f g : α → TL.D} : ∀ {xs : List α}, (∀ x ∈ xs, ∃ ρ', bindT tg (f x) (wipeE ρ own) = some ρ' ∧ evAnd1 C cond ρ' st = .ok (.bl (p x)) st ∧ (p x = true → ev C elt ρ' st = .ok (g x) st ∧ (g x).own = false)) →
    lcE C elt tg own cond (xs.map f) ρ st = .ok ((xs.filter p).map g) st := by
  intro xs
  unfold lcE
  induction xs with
  | nil => intro _; rfl
  | cons x xs ih =>
    intro h
    obtain ⟨ρ', h1, h2, h3⟩ := h x List.mem_cons_self
    have ih := ih fun y hy => h y (List.mem_cons_of_mem _ hy)
    rw [List.map_cons]
    unfold lcGo
    simp only [h1, h2, R.bind]
    cases hp : p x with
    | true =>
      obtain ⟨h3, h4⟩ := h3 hp
      simp only [h3, h4, ih, List.filter_cons, hp, if_true, List.map_cons, Bool.false_eq_true, if_false]
    | false => simp only [ih, List.filter_cons, hp, Bool.false_eq_true, if_false]
theorem lcE_la {α : Type} {C : Cal} {ρ : TL.Env} {st : Sto} {elt : E} {tg : T} {own : List Nat} {cond : List E} {f g : α → TL.D} {xs : List α} (h : ∀ x ∈ xs, ∃ ρ', bindT tg (f x) (wipeE ρ own) = some ρ' ∧ evAnd1 C cond ρ' st = .ok (.bl true) st ∧ ev C elt ρ' st = .ok (g x) st ∧ (g x).own = false) :
    lcE C elt tg own cond (xs.map f) ρ st = .ok (xs.map g) st := by
  have z := lcE_l (C := C) (ρ := ρ) (st := st) (elt := elt) (tg := tg) (own := own) (cond := cond) (p := fun _ => true) (f := f) (g := g) (xs := xs) fun x hx => by
    obtain ⟨ρ', a, b, c⟩ := h x hx
    exact ⟨ρ', a, b, fun _ => c⟩
  rw [z, List.filter_eq_self.mpr fun _ _ => rfl]
theorem notInT {x : Str} (ys : List String) (hx : PyData.strOk x = true) : dNotIn (.str x) (.tup (ys.map nD)) = some (.bl (!(ys.any fun y => decide (Str.ofString y = x)))) := by
  have a := (okD_str 0 hx).shp (by decide)
  have b := (okD_tup (n := 0) (ds := ys.map fun y => TL.D.str (Str.ofString y)) (fun d hd => by
    obtain ⟨y, _, rfl⟩ := List.mem_map.mp hd
    exact okD_str 0 (strOk_of y))).shp (by decide)
  simp [dNotIn, inD, a, b, Function.comp_def, eqv_str]
theorem blsOf_map {α : Type} (f : α → Bool) : ∀ l : List α, blsOf (l.map fun x => .bl (f x)) = some (l.map f)
  | [] => rfl
  | x :: l => by
    rw [List.map_cons, blsOf, blsOf_map f l]
    rfl
theorem oAll {α : Type} (f : α → Bool) (l : List α) : o1 .all (.lst (l.map fun x => .bl (f x))) = some (.bl (l.all f)) := by
  show (blsOf _).map _ = _
  rw [blsOf_map, Option.map, List.all_map]
  rfl
def offP (T : Tal) (r : Row) : Bool := !(T.cur.lookup r.name).isSome && r.wants.all fun w => decide (0 < done T w)
theorem done_cnt {n : Nat} {T : Tal} (ok : TOk n T) {w : String} (hw : w ∈ T.book.map Row.name) : done T w = (T.cnt w).d := by
  unfold done
  rw [ok.cnt hw]
  rfl
theorem all_num {n N l : Nat} {T : Tal} {st : Sto} (h : st[l]? = some (tS T)) (ok : TOk n T) {ws : List String} (hw : ∀ w ∈ ws, w ∈ T.book.map Row.name) {x1 x2 x3 x4 x5 : Option TL.D} :
    lcE (TL.run Pg N) (.o2 .gt (.pix (.pix (.fld "Tale" (.var 0) "numbers") (.var 5)) (.con (.int 1))) (.con (.int 0))) (.nm 5) [5] [] (ws.map nD) [some (.ref l), x1, x2, x3, x4, x5] st = .ok (ws.map fun w => .bl (decide (0 < done T w))) st :=
  lcE_la fun w hw' => by
    have c := ok.cnt (hw w hw')
    have a1 := f_num h
    have a2 := pix_num h c
    have a3 := pix_cnt h c
    refine ⟨_, by simp; rfl, by simp, ?_, rfl⟩
    rw [done_cnt ok (hw w hw')]
    simp [a1, a2, a3, Cnt.l]
theorem offered_go {n N l : Nat} {T : Tal} {st : Sto} (h : st[l]? = some (tS T)) (ok : TOk n T) : ∀ (rs : List Row) (acc : List String) (a b c : Option TL.D), (∀ r ∈ rs, r ∈ T.book) → acc.length + rs.length ≤ 20 →
    ∃ a' b' c', forE (TL.run Pg N) (.tp [2, 3, 4]) [.ifs (.and [.pin true (.var 2) (.fld "Tale" (.var 0) "current"), .o1 .all (.lc (.o2 .gt (.pix (.pix (.fld "Tale" (.var 0) "numbers") (.var 5)) (.con (.int 1))) (.con (.int 0))) (.nm 5) .tup [.var 3] [] [5])]) [.app 1 (.var 2)] []] (rs.map Row.d) [some (.ref l), some (.mlst (acc.map nD)), a, b, c, none] st = .nx [some (.ref l), some (.mlst ((acc ++ (rs.filter (offP T)).map Row.name).map nD)), a', b', c', none] st
  | [], acc, a, b, c, _, _ => ⟨a, b, c, by simp [forE_nil]⟩
  | r :: rs, acc, a, b, c, hr, hl => by
    have g := ok.good r (hr r List.mem_cons_self)
    have w := ok.wants r (hr r List.mem_cons_self)
    have an := fun x1 x2 x3 x4 x5 => all_num (N := N) h ok w.2 (x1 := x1) (x2 := x2) (x3 := x3) (x4 := x4) (x5 := x5)
    have oa := oAll (fun w => decide (0 < done T w)) r.wants
    have a1 := f_cur h
    have a2 := pin_cur h true r.name
    have al : acc.length < PySem.sizeLine := by unfold PySem.sizeLine; simp at hl; omega
    have ro := g.ok.own
    rw [List.length_cons] at hl
    by_cases p : offP T r = true
    · obtain ⟨a', b', c', e⟩ := offered_go (N := N) h ok rs (acc ++ [r.name]) (some (.str r.name)) (some (.tup (r.wants.map nD))) (some r.task) (fun x hx => hr x (List.mem_cons_of_mem _ hx)) (by simp; omega)
      refine ⟨a', b', c', ?_⟩
      rw [List.filter_cons, if_pos p, List.map_cons (f := Row.name)]
      generalize (rs.filter (offP T)).map Row.name = R at *
      unfold offP at p
      rw [Bool.and_eq_true] at p
      simp only [List.map_append, List.map_cons, List.map_nil, List.append_assoc, List.cons_append, List.nil_append] at e
      simp [forE_c, k_ForS, Row.d, a1, a2, an, oa, al, p.1, p.2, e]
    · obtain ⟨a', b', c', e⟩ := offered_go (N := N) h ok rs acc (some (.str r.name)) (some (.tup (r.wants.map nD))) (some r.task) (fun x hx => hr x (List.mem_cons_of_mem _ hx)) (by omega)
      refine ⟨a', b', c', ?_⟩
      rw [List.filter_cons, if_neg p]
      generalize (rs.filter (offP T)).map Row.name = R at *
      unfold offP at p
      simp only [List.map_append] at e
      cases q : (T.cur.lookup r.name).isSome with
      | true =>
        rw [q] at a2
        simp [forE_c, k_ForS, Row.d, a1, a2, e]
      | false =>
        rw [q] at a2
        rw [q] at p
        have p : (r.wants.all fun w => decide (0 < done T w)) = false := by simpa using p
        rw [p] at oa
        simp [forE_c, k_ForS, Row.d, a1, a2, an, oa, e]
theorem w_offered {n N l : Nat} (hN : 1 ≤ N) {T : Tal} {st : Sto} (h : st[l]? = some (tS T)) (ok : TOk n T) : TL.run Pg N 13 [.ref l] st = .ok (.tup (T.offered.map nD)) st := by
  obtain ⟨N, rfl⟩ : ∃ M, N = M + 1 := ⟨N - 1, by omega⟩
  rw [run_c (F := c_Tale_offered) rfl rfl]
  obtain ⟨a', b', c', e⟩ := offered_go (N := N) h ok T.book [] none none none (fun _ h => h) (by simpa using ok.bl)
  have a1 := f_book h
  simp only [List.map_nil, List.nil_append] at e
  have e2 : T.offered = (T.book.filter (offP T)).map Row.name := rfl
  rw [← e2] at e
  simp [c_Tale_offered, enter, a1, e]
theorem set_id {α : Type} {l : List α} {i : Nat} {x : α} (h : l[i]? = some x) : l.set i x = l := by
  apply List.ext_getElem?
  intro j
  rw [List.getElem?_set]
  split
  · next e =>
    subst e
    rw [if_pos (List.getElem?_eq_some_iff.mp h).1, h]
  · rfl
theorem off_book {T : Tal} {m : String} (h : m ∈ T.offered) : m ∈ T.book.map Row.name ∧ T.cur.lookup m = none := by
  obtain ⟨r, hr, rfl⟩ := List.mem_map.mp h
  obtain ⟨h1, h2⟩ := List.mem_filter.mp hr
  refine ⟨List.mem_map.mpr ⟨r, h1, rfl⟩, ?_⟩
  rw [Bool.and_eq_true] at h2
  cases q : T.cur.lookup r.name with
  | none => rfl
  | some d =>
    have := h2.1
    rw [q] at this
    cases this
theorem w_take {n N l : Nat} (hN : 2 ≤ N) {T : Tal} {st : Sto} (h : st[l]? = some (tS T)) (ok : TOk n T) {m : String} (hm : m ∈ T.offered) (hlog : T.log.length < 90000) : TL.run Pg N 14 [.ref l, .str m] st = .ok .non (st.set l (tS (T.take m))) := by
  obtain ⟨N, rfl⟩ : ∃ M, N = M + 1 := ⟨N - 1, by omega⟩
  rw [run_c (F := c_Tale_take) rfl rfl]
  obtain ⟨hb, hc⟩ := off_book hm
  obtain ⟨r, hr, hn, ht⟩ := find_row ok hb
  have g : Good n (T.taskOf m) := by rw [ht]; exact ok.good r hr
  have w1 := w_offered (N := N) (by omega) h ok
  have hs := hasT h (m := "offered") (by decide +kernel)
  have ni := notInT T.offered (strOk_of m)
  have any1 : (T.offered.any fun y => decide (Str.ofString y = Str.ofString m)) = true := List.any_eq_true.mpr ⟨m, hm, by simp⟩
  rw [any1] at ni
  have lc := lcE_l (C := TL.run Pg N) (ρ := [some (.ref l), some (nD m), none]) (st := st) (elt := .o2 .ix (.var 2) (.con (.int 2))) (tg := .nm 2) (own := [2]) (cond := [.o2 .eq (.o2 .ix (.var 2) (.con (.int 0))) (.var 1)]) (p := fun r => decide (r.name = m)) (f := Row.d) (g := Row.task) (xs := T.book) fun r hr => by
    have ro := (ok.good r hr).ok.own
    exact ⟨_, by simp [Row.d]; rfl, by simp [dEqs], fun _ => ⟨by simp, ro⟩⟩
  have hd : atI ((T.book.filter fun r => decide (r.name = m)).map Row.task) 0 = some (T.taskOf m) := by
    refine atI_nat (by decide) ?_
    have z := List.head?_filter (p := fun r : Row => decide (r.name = m)) (l := T.book)
    rw [List.head?_eq_getElem?] at z
    rw [List.getElem?_map]
    show Option.map Row.task ((T.book.filter fun r => decide (r.name = m))[0]?) = _
    rw [z]
    unfold Tal.taskOf
    cases q : T.book.find? fun r => decide (r.name = m) with
    | some r => rfl
    | none =>
      have := List.find?_eq_none.mp q r hr
      simp [hn] at this
  have gO := g.ok.own
  have fb := f_book h
  have fc := f_cur h
  have p1 := put_cur h (n := m) gO (by have := ok.cl; omega) ok.own
  have cn := ok.cnt hb
  obtain ⟨T1, e1⟩ : ∃ T1, T1 = { T with cur := put m (T.taskOf m) T.cur } := ⟨_, rfl⟩
  rw [← e1] at p1
  have h1 := set_at h T1
  obtain ⟨s1, hs1⟩ : ∃ s, s = st.set l (tS T1) := ⟨_, rfl⟩
  rw [← hs1] at p1 h1
  have cn1 : T1.num.lookup m = some (T.cnt m) := by rw [e1]; exact cn
  have fn := f_num h1
  have x1 := pix_num h1 cn1
  have x2 := pix_cnt h1 cn1 0
  have p2 := set_cnt h1 cn1 (c' := { T.cnt m with t := (T.cnt m).t + 1 }) (i := 0) (v := .int (((T.cnt m).t : Int) + 1)) (by decide) (by decide) rfl (by simp [Cnt.l])
  obtain ⟨T2, e2⟩ : ∃ T2, T2 = { T1 with num := put m { T.cnt m with t := (T.cnt m).t + 1 } T1.num } := ⟨_, rfl⟩
  rw [← e2] at p2
  have h2 := set_at h1 T2
  obtain ⟨s2, hs2⟩ : ∃ s, s = s1.set l (tS T2) := ⟨_, rfl⟩
  rw [← hs2] at p2 h2
  have fl := f_log h2
  have il := isL_log h2
  have p3 := app_log h2 (w := "take") (n := m) (by rw [e2, e1]; show T.log.length < _; omega)
  have fin : s2.set l (tS { T2 with log := T2.log ++ [("take", m)] }) = st.set l (tS (T.take m)) := by
    rw [hs2, hs1, List.set_set, List.set_set, e2, e1]
    rfl
  simp [c_Tale_take, enter, hs, w1, ni, fb, fc, lc, hd, gO, p1, fn, x1, x2, Cnt.l, p2, fl, il, p3, fin]
theorem w_give {n N l : Nat} (hN : 1 ≤ N) {T : Tal} {st : Sto} (h : st[l]? = some (tS T)) (ok : TOk n T) {m : String} {d : TL.D} (hm : T.cur.lookup m = some d) (hlog : T.log.length < 90000) : TL.run Pg N 15 [.ref l, .str m] st = .ok .non (st.set l (tS (T.give m))) := by
  obtain ⟨N, rfl⟩ : ∃ M, N = M + 1 := ⟨N - 1, by omega⟩
  rw [run_c (F := c_Tale_give_up) rfl rfl]
  have a1 := pin_cur h true m
  rw [hm] at a1
  have fc := f_cur h
  have im := isM_cur h
  have p1 := pop_cur h hm (ok.curn hm).2.ok.own
  obtain ⟨T1, e1⟩ : ∃ T1, T1 = { T with cur := del m T.cur } := ⟨_, rfl⟩
  rw [← e1] at p1
  have h1 := set_at h T1
  obtain ⟨s1, hs1⟩ : ∃ s, s = st.set l (tS T1) := ⟨_, rfl⟩
  rw [← hs1] at p1 h1
  have fl := f_log h1
  have il := isL_log h1
  have p3 := app_log h1 (w := "up") (n := m) (by rw [e1]; show T.log.length < _; omega)
  have fin : s1.set l (tS { T1 with log := T1.log ++ [("up", m)] }) = st.set l (tS (T.give m)) := by
    rw [hs1, List.set_set, e1]
    rfl
  simp [c_Tale_give_up, enter, a1, fc, im, p1, fl, il, p3, fin]
def goD (T : Tal) : List TL.D := (sortE T.cur).map fun e => .tup [.str e.1, e.2]
theorem w_going {n N l : Nat} (hN : 1 ≤ N) {T : Tal} {st : Sto} (h : st[l]? = some (tS T)) (ok : TOk n T) : TL.run Pg N 17 [.ref l] st = .ok (.tup (goD T)) st := by
  obtain ⟨N, rfl⟩ : ∃ M, N = M + 1 := ⟨N - 1, by omega⟩
  rw [run_c (F := c_Tale_going) rfl rfl]
  have a1 := f_cur h
  have a2 := items_cur h (by have := ok.cl; omega) ok.own
  simp [c_Tale_going, enter, a1, a2, goD]
theorem w_counts {n N l : Nat} (hN : 1 ≤ N) {T : Tal} {st : Sto} (h : st[l]? = some (tS T)) (ok : TOk n T) {m : String} (hm : m ∈ T.book.map Row.name) : TL.run Pg N 18 [.ref l, .str m] st = .ok (.tup (T.cnt m).l) st := by
  obtain ⟨N, rfl⟩ : ∃ M, N = M + 1 := ⟨N - 1, by omega⟩
  rw [run_c (F := c_Tale_counts) rfl rfl]
  have a1 := f_num h
  have a2 := pix_num h (ok.cnt hm)
  have a3 := tup_cnt h (ok.cnt hm)
  simp [c_Tale_counts, enter, a1, a2, a3]
theorem w_rows {N l : Nat} (hN : 1 ≤ N) {T : Tal} {st : Sto} (h : st[l]? = some (tS T)) (hlog : T.log.length < 100000) : TL.run Pg N 19 [.ref l] st = .ok (.tup (T.log.map logD)) st := by
  obtain ⟨N, rfl⟩ : ∃ M, N = M + 1 := ⟨N - 1, by omega⟩
  rw [run_c (F := c_Tale_rows) rfl rfl]
  have a1 := f_log h
  have a2 := tup_log h hlog
  simp [c_Tale_rows, enter, a1, a2]
/-- a new tale -/
def newT (B : List Row) : Tal := ⟨B, [], B.map fun r => (r.name, ⟨0, 0, 0⟩), []⟩
structure BOk (n : Nat) (B : List Row) : Prop where
  bn : (B.map Row.name).Nodup
  bl : B.length ≤ 20
  good : ∀ r ∈ B, Good n r.task
  wants : ∀ r ∈ B, r.wants.length ≤ 20 ∧ ∀ w ∈ r.wants, w ∈ B.map Row.name
theorem BOk.new {n : Nat} {B : List Row} (h : BOk n B) : TOk n (newT B) := by
  refine ⟨h.bn, h.bl, h.good, h.wants, ?_, List.nodup_nil, fun _ h => nomatch h⟩
  show (B.map fun r => (r.name, (⟨0, 0, 0⟩ : Cnt))).map (·.1) = B.map Row.name
  rw [List.map_map]
  rfl
theorem cntD_book : ∀ B : List Row, cntD (B.map Row.d) = some (sk Cnt.dn (B.map fun r => (r.name, ⟨0, 0, 0⟩)))
  | [] => rfl
  | r :: B => by
    rw [List.map_cons]
    unfold Row.d cntD
    rw [show (List.map (fun r : Row => TL.D.tup [.str r.name, .tup (r.wants.map nD), r.task]) B) = B.map Row.d from rfl, cntD_book B]
    rfl
theorem nodup_of {l : List String} (h : l.Nodup) : (l.map Str.ofString).Nodup := by
  unfold List.Nodup
  rw [List.pairwise_map]
  exact h.imp fun z e => z (by simpa using e)
theorem w_initT {n N : Nat} (hN : 1 ≤ N) {B : List Row} (ok : BOk n B) (st : Sto) : TL.run Pg N 12 [.ref st.length, .tup (B.map Row.d)] (st ++ [.ins "Tale" []]) = .ok .non (st ++ [tS (newT B)]) := by
  obtain ⟨N, rfl⟩ : ∃ M, N = M + 1 := ⟨N - 1, by omega⟩
  rw [run_c (F := c_Tale_init) rfl rfl]
  have s1 : setFD (st ++ [.ins "Tale" []]) "Tale" (.ref st.length) "book" (.tup (B.map Row.d)) = some (st ++ [.ins "Tale" [("book", .tup (B.map Row.d))]]) := by
    simp [setFD, putD]
  have s2 : setND (st ++ [.ins "Tale" [("book", .tup (B.map Row.d))]]) "Tale" (.ref st.length) "current" (.mdic []) = some (st ++ [.ins "Tale" [("book", .tup (B.map Row.d)), ("current", .mdic [])]]) := by
    simp [setND, List.lookup_cons, b1]
  have s3 : setND (st ++ [.ins "Tale" [("book", .tup (B.map Row.d)), ("current", .mdic [])]]) "Tale" (.ref st.length) "numbers" (.mdic (sk Cnt.dn (newT B).num)) = some (st ++ [.ins "Tale" [("book", .tup (B.map Row.d)), ("current", .mdic []), ("numbers", .mdic (sk Cnt.dn (newT B).num))]]) := by
    simp [setND, List.lookup_cons, b2, b3]
  have s4 : setND (st ++ [.ins "Tale" [("book", .tup (B.map Row.d)), ("current", .mdic []), ("numbers", .mdic (sk Cnt.dn (newT B).num))]]) "Tale" (.ref st.length) "log" (.mlst []) = some (st ++ [tS (newT B)]) := by
    simp [setND, List.lookup_cons, b4, b5, b6]
    rfl
  have nn : newD (.cnt 2 .tup) [.tup (B.map Row.d)] = some (.mdic (sk Cnt.dn (newT B).num)) := by
    show (match items .tup [.tup (B.map Row.d)] with
      | some ds => match cntD ds with
        | some kvs => if (kvs.map (fun x : Str × TL.D => x.1)).Nodup ∧ kvs.length ≤ 1000 then some (TL.D.mdic kvs) else none
        | none => none
      | none => none) = _
    rw [itTup]
    show (match cntD (B.map Row.d) with
        | some kvs => if (kvs.map (fun x : Str × TL.D => x.1)).Nodup ∧ kvs.length ≤ 1000 then some (TL.D.mdic kvs) else none
        | none => none) = _
    rw [cntD_book]
    show (if _ then _ else _) = _
    rw [if_pos]
    · rfl
    · refine ⟨?_, by rw [sk_length, List.length_map]; have := ok.bl; omega⟩
      unfold sk
      rw [List.map_map, List.map_map]
      have := nodup_of ok.bn
      rw [List.map_map] at this
      exact this
  have nd : newD .d [] = some (.mdic []) := rfl
  have nl : newD .l [] = some (.mlst []) := rfl
  simp [c_Tale_init, enter, s1, nd, okN, s2, nn, s3, nl, s4]

end TP

namespace TP
open TL
open PySem (Str PyData)
open L2 (atI)
theorem put_look {α : Type} {n m : String} {x : α} (hm : m ≠ n) : ∀ l : List (String × α), (put n x l).lookup m = l.lookup m
  | [] => by
    unfold put
    rw [List.lookup_cons, show (m == n) = false from by simpa using hm]
  | e :: r => by
    unfold put
    by_cases z : e.1 = n
    · rw [if_pos z, List.lookup_cons, List.lookup_cons, show (m == e.1) = false from by rw [z]; simpa using hm]
    · rw [if_neg z, List.lookup_cons, List.lookup_cons, put_look hm r]
theorem put_at {α : Type} {n : String} {x : α} : ∀ l : List (String × α), (put n x l).lookup n = some x
  | [] => by
    unfold put
    rw [List.lookup_cons, beq_self_eq_true]
  | e :: r => by
    unfold put
    by_cases z : e.1 = n
    · rw [if_pos z, List.lookup_cons, show (n == e.1) = true from by rw [z]; exact beq_self_eq_true n]
    · rw [if_neg z, List.lookup_cons, show (n == e.1) = false from by simpa using fun h => z h.symm, put_at r]
theorem del_look {α : Type} {n m : String} (hm : m ≠ n) : ∀ l : List (String × α), (del n l).lookup m = l.lookup m
  | [] => rfl
  | e :: r => by
    have ih := del_look (n := n) hm r
    unfold del at ih ⊢
    rw [List.filter_cons]
    by_cases z : e.1 = n
    · rw [if_neg (by simpa using z), List.lookup_cons, ih, show (m == e.1) = false from by rw [z]; simpa using hm]
    · rw [if_pos (by simpa using z), List.lookup_cons, List.lookup_cons, ih]
theorem del_at {α : Type} {n : String} : ∀ l : List (String × α), (del n l).lookup n = none
  | [] => rfl
  | e :: r => by
    have ih := del_at (n := n) r
    unfold del at ih ⊢
    rw [List.filter_cons]
    by_cases z : e.1 = n
    · rw [if_neg (by simpa using z), ih]
    · rw [if_pos (by simpa using z), List.lookup_cons, ih, show (n == e.1) = false from by simpa using fun h => z h.symm]
theorem one_look {n : Nat} {a m m' : String} {T : Tal} (h : m' ≠ m) : (T.one n a m).cur.lookup m' = T.cur.lookup m' := by
  unfold Tal.one
  split
  · rfl
  · split
    · exact del_look h _
    · exact del_look h _
    · exact put_look h _
abbrev deedB : List S := [.set 3 (.call 4 [.pix (.fld "Tale" (.var 0) "current") (.var 2), .var 1]), .ifs (.call 0 [.var 3]) [.ppop (.fld "Tale" (.var 0) "current") (.var 2), .set 4 (.o2 .add (.con (.int 1)) (.o1 .int (.o2 .eq (.var 3) (.con (.str "failed"))))), .plset (.pix (.fld "Tale" (.var 0) "numbers") (.var 2)) (.var 4) (.o2 .add (.pix (.pix (.fld "Tale" (.var 0) "numbers") (.var 2)) (.var 4)) (.con (.int 1))), .papp (.fld "Tale" (.var 0) "log") (.tup [.var 3, .var 2])] [.pput (.fld "Tale" (.var 0) "current") (.var 2) (.var 3)]]
theorem deed_one {n N l : Nat} (h30 : n ≤ 30) (hN : 2 * n + 1 ≤ N) {a m : String} {st : Sto} {T : Tal} (h : st[l]? = some (tS T)) (ok : TOk n T) (hlog : T.log.length < 90000) {d : TL.D} (hd : T.cur.lookup m = some d) (y z : Option TL.D) :
    ∃ y' z', execs (TL.run Pg N) deedB [some (.ref l), some (.str a), some (.str m), y, z] st = .nx [some (.ref l), some (.str a), some (.str m), y', z'] (st.set l (tS (T.one n a m))) := by
  obtain ⟨hm, g⟩ := ok.curn hd
  have r := beh_res (strOk_of a) g
  have gO := g.ok.own
  have rO := r.ok.own
  have b := w_behind n N st h30 hN (strOk_of a) g
  have io := w_is_over (N := N) (by omega) r st
  have fc := f_cur h
  have x0 := pix_cur h hd gO
  have cn := ok.cnt hm
  have over : ∀ (w : String) (i : Int) (c' : Cnt) (v : TL.D), beh n d a = .str w → (1 : Int) + (if w = "failed" then 1 else 0) = i → 0 ≤ i → i < 3 → atI (T.cnt m).l i = some v → (∃ j : Int, v = .int j ∧ (T.cnt m).l.set i.toNat (.int (j + 1)) = c'.l) →
      T.one n a m = { T with cur := del m T.cur, num := put m c' T.num, log := T.log ++ [(w, m)] } →
      ∃ y' z', execs (TL.run Pg N) deedB [some (.ref l), some (.str a), some (.str m), y, z] st = .nx [some (.ref l), some (.str a), some (.str m), y', z'] (st.set l (tS (T.one n a m))) := by
    intro w i c' v eb ei i0 i3 ev ⟨j, ej, es⟩ e1
    subst ej
    rw [eb] at b io
    have im := isM_cur h
    have p1 := pop_cur h hd gO
    obtain ⟨T1, e2⟩ : ∃ T1, T1 = { T with cur := del m T.cur } := ⟨_, rfl⟩
    rw [← e2] at p1
    have h1 := set_at h T1
    obtain ⟨s1, hs1⟩ : ∃ s, s = st.set l (tS T1) := ⟨_, rfl⟩
    rw [← hs1] at p1 h1
    have cn1 : T1.num.lookup m = some (T.cnt m) := by rw [e2]; exact cn
    have fn := f_num h1
    have x1 := pix_num h1 cn1
    have x2 := pix_cnt h1 cn1 i
    rw [ev] at x2
    have p2 := set_cnt h1 cn1 (c' := c') (i := i) (v := .int (j + 1)) i0 i3 rfl es
    obtain ⟨T2, e3⟩ : ∃ T2, T2 = { T1 with num := put m c' T1.num } := ⟨_, rfl⟩
    rw [← e3] at p2
    have h2 := set_at h1 T2
    obtain ⟨s2, hs2⟩ : ∃ s, s = s1.set l (tS T2) := ⟨_, rfl⟩
    rw [← hs2] at p2 h2
    have fl := f_log h2
    have il := isL_log h2
    have p3 := app_log h2 (w := w) (n := m) (by rw [e3, e2]; show T.log.length < _; omega)
    have fin : s2.set l (tS { T2 with log := T2.log ++ [(w, m)] }) = st.set l (tS (T.one n a m)) := by
      rw [hs2, hs1, List.set_set, List.set_set, e3, e2, e1]
    refine ⟨some (.str w), some (.int i), ?_⟩
    simp [deedB, fc, x0, b, io, TL.D.isS, im, p1, dEqs, ei, fn, x1, x2, p2, fl, il, p3, fin]
  rcases outS_res r with ⟨e, o⟩ | ⟨e, o⟩ | ⟨g', o⟩
  · exact over "done" 1 { T.cnt m with d := (T.cnt m).d + 1 } _ e (by simp) (by decide) (by decide) (atI1) ⟨_, rfl, by simp [Cnt.l]⟩ (by unfold Tal.one; rw [hd]; dsimp only; rw [o])
  · exact over "failed" 2 { T.cnt m with f := (T.cnt m).f + 1 } _ e (by simp) (by decide) (by decide) (atI2) ⟨_, rfl, by simp [Cnt.l]⟩ (by unfold Tal.one; rw [hd]; dsimp only; rw [o])
  · have p1 := put_cur h (n := m) rO (by have := ok.cl; omega) ok.own
    have e1 : T.one n a m = { T with cur := put m (beh n d a) T.cur } := by unfold Tal.one; rw [hd]; dsimp only; rw [o]
    rw [← e1] at p1
    have is : (beh n d a).isS = false := g'.isS
    refine ⟨some (beh n d a), z, ?_⟩
    simp [deedB, fc, x0, b, gO, rO, io, is, p1]
theorem deed_go {n N l : Nat} (h30 : n ≤ 30) (hN : 2 * n + 1 ≤ N) {a : String} : ∀ (ms : List String) {st : Sto} {T : Tal}, st[l]? = some (tS T) → TOk n T → T.log.length + ms.length < 90000 → ms.Nodup → (∀ m ∈ ms, ∃ d, T.cur.lookup m = some d) → ∀ (x y z : Option TL.D),
    ∃ x' y' z', forE (TL.run Pg N) (.nm 2) deedB (ms.map nD) [some (.ref l), some (.str a), x, y, z] st = .nx [some (.ref l), some (.str a), x', y', z'] (st.set l (tS (ms.foldl (Tal.one n a) T)))
  | [], st, T, h, _, _, _, _, x, y, z => ⟨x, y, z, by rw [List.map_nil, forE_nil, List.foldl_nil, set_id h]⟩
  | m :: ms, st, T, h, ok, hl, nd, hc, x, y, z => by
    obtain ⟨d, hd⟩ := hc m List.mem_cons_self
    rw [List.length_cons] at hl
    rw [List.nodup_cons] at nd
    obtain ⟨y', z', e⟩ := deed_one h30 hN (a := a) h ok (by omega) hd y z
    have h1 := set_at h (T.one n a m)
    obtain ⟨x2, y2, z2, e2⟩ := deed_go h30 hN ms h1 (ok.one a m) (by have := one_log n a T m; omega) nd.2 (fun m' hm' => by
      obtain ⟨d', hd'⟩ := hc m' (List.mem_cons_of_mem _ hm')
      exact ⟨d', by rw [one_look (fun q => nd.1 (by rw [← q]; exact hm'))]; exact hd'⟩) (some (nD m)) y' z'
    refine ⟨x2, y2, z2, ?_⟩
    rw [List.map_cons, forE_cons (ρ1 := [some (.ref l), some (.str a), some (.str m), y, z]) (by simp), e, seq_nx, e2, List.set_set]
    rfl
theorem insN_perm (x : String) : ∀ l : List String, (insN x l).Perm (x :: l)
  | [] => .refl _
  | y :: r => by
    unfold insN
    split
    · exact .refl _
    · exact ((insN_perm x r).cons y).trans (List.Perm.swap x y r)
theorem sortN_perm : ∀ l : List String, (sortN l).Perm l
  | [] => .refl _
  | x :: r => (insN_perm x (sortN r)).trans ((sortN_perm r).cons x)
theorem w_deed {n N l : Nat} (h30 : n ≤ 30) (hN : 2 * n + 2 ≤ N) {a : String} {st : Sto} {T : Tal} (h : st[l]? = some (tS T)) (ok : TOk n T) (hlog : T.log.length < 80000) : TL.run Pg N 16 [.ref l, .str a] st = .ok .non (st.set l (tS (T.deed n a))) := by
  obtain ⟨N, rfl⟩ : ∃ M, N = M + 1 := ⟨N - 1, by omega⟩
  rw [run_c (F := c_Tale_deed) rfl rfl]
  have fl := f_log h
  have il := isL_log h
  have p1 := app_log h (w := "deed") (n := a) (by omega)
  obtain ⟨T1, e1⟩ : ∃ T1, T1 = { T with log := T.log ++ [("deed", a)] } := ⟨_, rfl⟩
  rw [← e1] at p1
  have h1 := set_at h T1
  have ok1 : TOk n T1 := by rw [e1]; exact ok.log
  obtain ⟨s1, hs1⟩ : ∃ s, s = st.set l (tS T1) := ⟨_, rfl⟩
  rw [← hs1] at p1 h1
  have fc := f_cur h1
  have cl := ok1.cl
  have so := sort_cur h1 (by omega)
  have pm := sortN_perm (T1.cur.map (·.1))
  obtain ⟨x, y, z, e⟩ := deed_go (N := N) h30 (by omega) (a := a) (sortN (T1.cur.map (·.1))) h1 ok1 (by rw [pm.length_eq, List.length_map, e1]; show (T.log ++ _).length + T.cur.length < _; have := ok.cl; simp; omega) (pm.nodup_iff.mpr ok1.cn) (fun m hm => lookup_some (pm.mem_iff.mp hm)) none none none
  have fin : s1.set l (tS ((sortN (T1.cur.map (·.1))).foldl (Tal.one n a) T1)) = st.set l (tS (T.deed n a)) := by
    rw [hs1, List.set_set, e1]
    rfl
  rw [fin] at e
  have so' : psortD s1 (.ptr l ["current"]) = some (.lst ((sortN (T1.cur.map (·.1))).map nD)) := so
  generalize sortN (T1.cur.map (·.1)) = ms at *
  simp [c_Tale_deed, enter, fl, il, p1, fc, so', e]

end TP

namespace TP
open TL
open PySem (Str PyData)
open L2 (atI)
def play (n : Nat) (T : Tal) (r : String × String) : Tal := if r.1 = "take" then T.take r.2 else if r.1 = "up" then T.give r.2 else if r.1 = "deed" then T.deed n r.2 else T
def rOk (T : Tal) (r : String × String) : Prop := (r.1 = "take" → r.2 ∈ T.offered) ∧ (r.1 = "up" → ∃ d, T.cur.lookup r.2 = some d)
def Valid (n : Nat) : Tal → List (String × String) → Prop
  | _, [] => True
  | T, r :: rs => rOk T r ∧ Valid n (play n T r) rs
theorem Valid.append {n : Nat} : ∀ {rs ss : List (String × String)} {T : Tal}, Valid n T rs → Valid n (rs.foldl (play n) T) ss → Valid n T (rs ++ ss)
  | [], ss, T, _, h => h
  | r :: rs, ss, T, h, k => ⟨h.1, Valid.append h.2 k⟩
/-- rows that say what became of a task -/
def isOut (r : String × String) : Prop := r.1 = "done" ∨ r.1 = "failed"
theorem play_out {n : Nat} {r : String × String} (h : isOut r) (T : Tal) : play n T r = T := by
  unfold play
  rcases h with h | h <;> rw [h] <;> simp
theorem rOk_out {r : String × String} (h : isOut r) (T : Tal) : rOk T r := by
  unfold rOk
  rcases h with h | h <;> rw [h] <;> simp
theorem outs_go {n : Nat} : ∀ {rs : List (String × String)}, (∀ r ∈ rs, isOut r) → ∀ T, rs.foldl (play n) T = T ∧ Valid n T rs
  | [], _, T => ⟨rfl, trivial⟩
  | r :: rs, h, T => by
    have a := h r List.mem_cons_self
    obtain ⟨h1, h2⟩ := outs_go (n := n) (fun x hx => h x (List.mem_cons_of_mem _ hx)) T
    rw [List.foldl_cons]
    unfold Valid
    rw [play_out a]
    exact ⟨h1, rOk_out a T, h2⟩
/-- what a deed decides, in the names' order -/
def outs (n : Nat) (a : String) (T : Tal) (ms : List String) : List (String × String) := ms.filterMap fun m => (T.cur.lookup m).bind fun d => (outS (beh n d a)).map fun b : Bool => (if b then "done" else "failed", m)
theorem outs_cons (n : Nat) (a : String) (T : Tal) (m : String) (ms : List String) : outs n a T (m :: ms) = (match (T.cur.lookup m).bind fun d => (outS (beh n d a)).map fun b : Bool => (if b then "done" else "failed", m) with | none => [] | some r => [r]) ++ outs n a T ms := by
  unfold outs
  rw [List.filterMap_cons]
  split <;> rename_i h <;> rw [h] <;> rfl
theorem outs_same {n : Nat} {a : String} {T T' : Tal} : ∀ {ms : List String}, (∀ m ∈ ms, T'.cur.lookup m = T.cur.lookup m) → outs n a T' ms = outs n a T ms
  | [], _ => rfl
  | m :: ms, h => by
    rw [outs_cons, outs_cons, h m List.mem_cons_self, outs_same fun x hx => h x (List.mem_cons_of_mem _ hx)]
theorem outs_isOut {n : Nat} {a : String} {T : Tal} {ms : List String} : ∀ r ∈ outs n a T ms, isOut r := by
  intro r hr
  obtain ⟨m, _, e⟩ := List.mem_filterMap.mp hr
  cases q : T.cur.lookup m with
  | none => rw [q] at e; cases e
  | some d =>
    rw [q] at e
    cases q2 : outS (beh n d a) with
    | none => simp [q2] at e
    | some b =>
      simp [q2] at e
      rw [← e]
      cases b with
      | true => exact .inl rfl
      | false => exact .inr rfl
theorem one_step (n : Nat) (a m : String) (T : Tal) : (T.one n a m).book = T.book ∧ (T.one n a m).log = T.log ++ outs n a T [m] ∧ (T.one n a m).cur.lookup m = (T.cur.lookup m).bind fun d => if outS (beh n d a) = none then some (beh n d a) else none := by
  rw [outs_cons]
  unfold Tal.one
  cases q : T.cur.lookup m with
  | none => exact ⟨rfl, by simp [outs], q⟩
  | some d =>
    dsimp only [Option.bind]
    cases q2 : outS (beh n d a) with
    | none => exact ⟨rfl, by simp [outs], by simp only [if_true]; exact put_at _⟩
    | some b =>
      cases b with
      | true => exact ⟨rfl, rfl, by simp only [reduceCtorEq, if_false]; exact del_at _⟩
      | false => exact ⟨rfl, rfl, by simp only [reduceCtorEq, if_false]; exact del_at _⟩
theorem fold_step (n : Nat) (a : String) : ∀ (ms : List String) (T : Tal), ms.Nodup → (ms.foldl (Tal.one n a) T).book = T.book ∧ (ms.foldl (Tal.one n a) T).log = T.log ++ outs n a T ms ∧
    ∀ m, (ms.foldl (Tal.one n a) T).cur.lookup m = if m ∈ ms then (T.cur.lookup m).bind fun d => if outS (beh n d a) = none then some (beh n d a) else none else T.cur.lookup m
  | [], T, _ => ⟨rfl, by simp [outs], fun m => by simp⟩
  | x :: ms, T, nd => by
    rw [List.nodup_cons] at nd
    obtain ⟨h1, h2, h3⟩ := fold_step n a ms (T.one n a x) nd.2
    obtain ⟨g1, g2, g3⟩ := one_step n a x T
    rw [List.foldl_cons]
    refine ⟨h1.trans g1, ?_, fun m => ?_⟩
    · rw [h2, g2, outs_same (T := T) fun m hm => one_look fun q => nd.1 (by rw [← q]; exact hm), outs_cons, outs_cons]
      simp [outs]
    · rw [h3]
      by_cases e : m = x
      · subst e
        rw [if_neg nd.1, g3, if_pos List.mem_cons_self]
      · rw [one_look e]
        by_cases hm : m ∈ ms
        · rw [if_pos hm, if_pos (List.mem_cons_of_mem _ hm)]
        · rw [if_neg hm, if_neg (by simp [e, hm])]
theorem mem_of_lookup {α : Type} {m : String} {d : α} {l : List (String × α)} (h : l.lookup m = some d) : m ∈ l.map (·.1) := List.mem_map.mpr ⟨_, lookup_in h, rfl⟩
theorem deed_step {n : Nat} {a : String} {T : Tal} (ok : TOk n T) : (T.deed n a).book = T.book ∧ (T.deed n a).log = T.log ++ ("deed", a) :: outs n a T (sortN (T.cur.map (·.1))) ∧
    ∀ m, (T.deed n a).cur.lookup m = (T.cur.lookup m).bind fun d => if outS (beh n d a) = none then some (beh n d a) else none := by
  unfold Tal.deed
  have pm := sortN_perm (T.cur.map (·.1))
  obtain ⟨h1, h2, h3⟩ := fold_step n a (sortN (T.cur.map (·.1))) { T with log := T.log ++ [("deed", a)] } (pm.nodup_iff.mpr ok.cn)
  refine ⟨h1, ?_, fun m => ?_⟩
  · rw [h2]
    show (T.log ++ [("deed", a)]) ++ _ = _
    rw [List.append_assoc]
    rfl
  · rw [h3]
    show (if _ then (T.cur.lookup m).bind _ else T.cur.lookup m) = _
    cases q : T.cur.lookup m with
    | some d => rw [if_pos (pm.mem_iff.mpr (mem_of_lookup q))]
    | none =>
      split <;> rfl
def endW (w : String) : Bool := decide (w = "done") || decide (w = "failed") || decide (w = "up") || decide (w = "take")
def scS (m : String) (acc : List String × Option String) (r : String × String) : List String × Option String :=
  (if r.1 = "deed" ∧ acc.2 = none then acc.1 ++ [r.2] else acc.1, if r.2 = m ∧ endW r.1 = true ∧ acc.2 = none then some r.1 else acc.2)
def sc (m : String) (rs : List (String × String)) : List String × Option String := rs.foldl (scS m) ([], none)
theorem sc_stop {m : String} {ds : List String} {w : String} : ∀ rs : List (String × String), rs.foldl (scS m) (ds, some w) = (ds, some w)
  | [] => rfl
  | r :: rs => by
    rw [List.foldl_cons, show scS m (ds, some w) r = (ds, some w) from by simp [scS], sc_stop rs]
def aft (n : Nat) (t : TL.D) (as : List Str) : TL.D := as.foldl (fun t a => beh n t a) t
theorem decI_snoc {n : Nat} {a : Str} : ∀ {as : List Str} {t : TL.D} {i : Int}, decI n t as i = none → decI n t (as ++ [a]) i = if (beh n (aft n t as) a).isS then some (beh n (aft n t as) a, i + as.length + 1) else none
  | [], t, i, _ => by
    show (if _ then some (_, i + 1) else none) = _
    simp [aft]
  | b :: as, t, i, h => by
    have e : decI n t (b :: as) i = if (beh n t b).isS then some (beh n t b, i + 1) else decI n (beh n t b) as (i + 1) := rfl
    rw [e] at h
    have e2 : decI n t ((b :: as) ++ [a]) i = if (beh n t b).isS then some (beh n t b, i + 1) else decI n (beh n t b) (as ++ [a]) (i + 1) := rfl
    rw [e2]
    by_cases k : (beh n t b).isS = true
    · rw [if_pos k] at h
      cases h
    · rw [if_neg k] at h ⊢
      rw [decI_snoc h]
      have : i + 1 + (as.length : Int) + 1 = i + ((b :: as).length : Int) + 1 := by rw [List.length_cons]; omega
      rw [this]
      rfl
abbrev ofs (ds : List String) : List Str := ds.map Str.ofString
/-- a task taken: what its rows say of it is right -/
def RP (n : Nat) (t : TL.D) (m : String) (T : Tal) (acc : List String × Option String) : Prop := match acc.2 with
  | none => T.cur.lookup m = some (aft n t (ofs acc.1)) ∧ decI n t (ofs acc.1) 0 = none
  | some w => if w = "done" ∨ w = "failed" then decI n t (ofs acc.1) 0 = some (TL.D.str (Str.ofString w), ((acc.1.length : Nat) : Int)) else decI n t (ofs acc.1) 0 = none
def RI (n : Nat) (T : Tal) : Prop := ∀ pre m post, T.log = pre ++ ("take", m) :: post → RP n (T.taskOf m) m T (sc m post)
theorem split_log {L X pre post : List (String × String)} {x : String × String} (h : L ++ X = pre ++ x :: post) : (∃ p, L = pre ++ x :: p ∧ post = p ++ X) ∨ ∃ p, X = p ++ x :: post ∧ pre = L ++ p := by
  rcases List.append_eq_append_iff.mp h with ⟨a, h1, h2⟩ | ⟨c, h1, h2⟩
  · exact .inr ⟨a, h2, h1⟩
  · cases c with
    | nil =>
      rw [List.append_nil] at h1
      exact .inr ⟨[], by simpa using h2.symm, by simp [h1]⟩
    | cons y c =>
      rw [List.cons_append, List.cons.injEq] at h2
      exact .inl ⟨c, by rw [h1, h2.1], h2.2⟩
theorem sc_app (m : String) (p X : List (String × String)) : sc m (p ++ X) = X.foldl (scS m) (sc m p) := by
  unfold sc
  rw [List.foldl_append]
theorem RP.stop {n : Nat} {t : TL.D} {m : String} {T T' : Tal} {acc : List String × Option String} (h : acc.2 ≠ none) (r : RP n t m T acc) (X : List (String × String)) : RP n t m T' (X.foldl (scS m) acc) := by
  obtain ⟨ds, w⟩ := acc
  cases w with
  | none => exact absurd rfl h
  | some w =>
    rw [sc_stop]
    unfold RP at r ⊢
    exact r
theorem RI.take {n : Nat} {T : Tal} {m' : String} (h : RI n T) (hm : m' ∈ T.offered) : RI n (T.take m') := by
  intro pre m post e
  have e : T.log ++ [("take", m')] = pre ++ ("take", m) :: post := e
  have hc := (off_book hm).2
  rcases split_log e with ⟨p, e1, e2⟩ | ⟨p, e1, _⟩
  · have r := h pre m p e1
    subst e2
    rw [sc_app]
    by_cases w : (sc m p).2 = none
    · obtain ⟨⟨ds, w'⟩, hs⟩ : ∃ x, sc m p = x := ⟨_, rfl⟩
      rw [hs] at w r ⊢
      have w : w' = none := w
      subst w
      obtain ⟨r1, r2⟩ := r
      have ne : m ≠ m' := fun q => by subst q; rw [hc] at r1; cases r1
      have e3 : [("take", m')].foldl (scS m) (ds, none) = (ds, none) := by
        rw [List.foldl_cons, List.foldl_nil]
        have ne' : ¬ m' = m := fun q => ne q.symm
        simp [scS, ne']
      rw [e3]
      exact ⟨(put_look ne _).trans r1, r2⟩
    · exact RP.stop w r _
  · have : p = [] ∧ m' = m ∧ post = [] := by
      cases p with
      | nil => simpa using e1
      | cons x p => simp at e1
    obtain ⟨rfl, rfl, rfl⟩ := this
    exact ⟨put_at _, rfl⟩
theorem RI.give {n : Nat} {T : Tal} {m' : String} (h : RI n T) : RI n (T.give m') := by
  intro pre m post e
  have e : T.log ++ [("up", m')] = pre ++ ("take", m) :: post := e
  rcases split_log e with ⟨p, e1, e2⟩ | ⟨p, e1, _⟩
  · have r := h pre m p e1
    subst e2
    rw [sc_app]
    by_cases w : (sc m p).2 = none
    · obtain ⟨⟨ds, w'⟩, hs⟩ : ∃ x, sc m p = x := ⟨_, rfl⟩
      rw [hs] at w r ⊢
      have w : w' = none := w
      subst w
      obtain ⟨r1, r2⟩ := r
      by_cases q : m' = m
      · subst q
        have e3 : [("up", m')].foldl (scS m') (ds, none) = (ds, some "up") := by
          rw [List.foldl_cons, List.foldl_nil]
          simp [scS, endW]
        rw [e3]
        unfold RP
        dsimp only
        rw [if_neg (by simp)]
        exact r2
      · have e3 : [("up", m')].foldl (scS m) (ds, none) = (ds, none) := by
          rw [List.foldl_cons, List.foldl_nil]
          simp [scS, q]
        rw [e3]
        exact ⟨(del_look (fun z => q z.symm) _).trans r1, r2⟩
    · exact RP.stop w r _
  · cases p with
    | nil => simp at e1
    | cons x p => simp at e1
theorem sc_outs {n : Nat} {a m : String} {T : Tal} {ds : List String} : ∀ ms : List String, (outs n a T ms).foldl (scS m) (ds, none) = (ds, if m ∈ ms then (T.cur.lookup m).bind fun d => (outS (beh n d a)).map fun b : Bool => if b then "done" else "failed" else none)
  | [] => rfl
  | x :: ms => by
    rw [outs_cons, List.foldl_append]
    by_cases e : x = m
    · subst e
      rw [if_pos List.mem_cons_self]
      cases q : T.cur.lookup x with
      | none =>
        simp only [Option.bind, List.foldl_nil]
        rw [sc_outs ms, q]
        simp only [Option.bind, ite_self]
      | some d =>
        simp only [Option.bind]
        cases q2 : outS (beh n d a) with
        | none =>
          simp only [Option.map, List.foldl_nil]
          rw [sc_outs ms, q]
          simp [q2]
        | some b =>
          simp only [Option.map, List.foldl_cons, List.foldl_nil]
          cases b with
          | true => rw [show scS x (ds, none) (if true then "done" else "failed", x) = (ds, some "done") from by simp [scS, endW], sc_stop]; rfl
          | false => rw [show scS x (ds, none) (if false then "done" else "failed", x) = (ds, some "failed") from by simp [scS, endW], sc_stop]; rfl
    · have e2 : (match (T.cur.lookup x).bind fun d => (outS (beh n d a)).map fun b : Bool => (if b then "done" else "failed", x) with | none => [] | some r => [r]).foldl (scS m) (ds, none) = (ds, none) := by
        cases q : (T.cur.lookup x).bind fun d => (outS (beh n d a)).map fun b : Bool => (if b then "done" else "failed", x) with
        | none => rfl
        | some r =>
          have hr : isOut r ∧ r.2 = x := by
            cases q1 : T.cur.lookup x with
            | none => rw [q1] at q; cases q
            | some d =>
              rw [q1] at q
              simp only [Option.bind] at q
              cases q2 : outS (beh n d a) with
              | none => rw [q2] at q; cases q
              | some b =>
                rw [q2] at q
                simp only [Option.map, Option.some.injEq] at q
                rw [← q]
                cases b with
                | true => exact ⟨.inl rfl, rfl⟩
                | false => exact ⟨.inr rfl, rfl⟩
          have h1 : r.1 ≠ "deed" := by rcases hr.1 with h | h <;> rw [h] <;> decide
          show scS m (ds, none) r = _
          simp [scS, h1, hr.2, e]
      rw [e2, sc_outs ms]
      congr 1
      by_cases hm : m ∈ ms
      · rw [if_pos hm, if_pos (List.mem_cons_of_mem _ hm)]
      · rw [if_neg hm, if_neg (show ¬ m ∈ x :: ms from fun h => (List.mem_cons.mp h).elim (fun q => e q.symm) hm)]
theorem RI.deed {n : Nat} {T : Tal} {a : String} (ok : TOk n T) (h : RI n T) : RI n (T.deed n a) := by
  intro pre m post e
  obtain ⟨d1, d2, d3⟩ := deed_step (a := a) ok
  rw [d2] at e
  have et : (T.deed n a).taskOf m = T.taskOf m := by unfold Tal.taskOf; rw [d1]
  rw [et]
  rcases split_log e with ⟨p, e1, e2⟩ | ⟨p, e1, _⟩
  · have r := h pre m p e1
    subst e2
    rw [sc_app]
    by_cases w : (sc m p).2 = none
    · obtain ⟨⟨ds, w'⟩, hs⟩ : ∃ x, sc m p = x := ⟨_, rfl⟩
      rw [hs] at w r ⊢
      have w : w' = none := w
      subst w
      obtain ⟨r1, r2⟩ := r
      obtain ⟨hm, g⟩ := ok.curn r1
      have e3 : scS m (ds, none) ("deed", a) = (ds ++ [a], none) := by
        simp [scS, endW]
      have pm := sortN_perm (T.cur.map (·.1))
      rw [List.foldl_cons, e3, sc_outs, if_pos (pm.mem_iff.mpr (mem_of_lookup r1)), r1]
      have eo : ofs (ds ++ [a]) = ofs ds ++ [Str.ofString a] := by simp [ofs]
      have ea : aft n (T.taskOf m) (ofs (ds ++ [a])) = beh n (aft n (T.taskOf m) (ofs ds)) a := by
        rw [eo]
        unfold aft
        rw [List.foldl_append]
        rfl
      have sn := decI_snoc (n := n) (a := Str.ofString a) r2
      rw [← eo] at sn
      have len : (0 : Int) + ((ofs ds).length : Int) + 1 = ((ds ++ [a]).length : Int) := by simp [ofs]
      rw [len] at sn
      dsimp only [Option.bind]
      rcases outS_res (beh_res (strOk_of a) g) with ⟨eb, o⟩ | ⟨eb, o⟩ | ⟨g', o⟩
      · have mt : Option.map (fun b : Bool => if b then "done" else "failed") (some true) = some "done" := rfl
        rw [o, mt]
        rw [eb] at sn
        unfold RP
        dsimp only
        rw [if_pos (.inl rfl)]
        exact sn
      · have mt : Option.map (fun b : Bool => if b then "done" else "failed") (some false) = some "failed" := rfl
        rw [o, mt]
        rw [eb] at sn
        unfold RP
        dsimp only
        rw [if_pos (.inr rfl)]
        exact sn
      · rw [o]
        refine ⟨?_, ?_⟩
        · rw [d3, r1, ea]
          show (if _ then _ else _) = _
          rw [if_pos o]
        · rw [if_neg (by rw [g'.isS]; simp)] at sn
          exact sn
    · exact RP.stop w r _
  · cases p with
    | nil => simp at e1
    | cons x p =>
      rw [List.cons_append, List.cons.injEq] at e1
      have : ("take", m) ∈ outs n a T (sortN (T.cur.map (·.1))) := by rw [e1.2]; simp
      rcases outs_isOut _ this with h | h <;> simp at h
structure Pld (n : Nat) (B : List Row) (k : Nat) (T : Tal) : Prop where
  ok : TOk n T
  len : T.log.length ≤ 21 * k
  bk : T.book = B
  val : Valid n (newT B) T.log
  rep : T.log.foldl (play n) (newT B) = T
  rt : RI n T
theorem Pld.new {n : Nat} {B : List Row} (h : BOk n B) : Pld n B 0 (newT B) := ⟨h.new, Nat.zero_le _, rfl, trivial, rfl, fun pre m post e => by
  have e : [] = pre ++ ("take", m) :: post := e
  simp at e⟩
theorem Pld.take {n k : Nat} {B : List Row} {T : Tal} {m : String} (h : Pld n B k T) (hm : m ∈ T.offered) : Pld n B (k + 1) (T.take m) where
  ok := h.ok.take (off_book hm).1
  len := by
    show (T.log ++ [("take", m)]).length ≤ _
    rw [List.length_append]
    have := h.len
    simp
    omega
  bk := h.bk
  val := by
    show Valid n (newT B) (T.log ++ [("take", m)])
    refine h.val.append ?_
    rw [h.rep]
    exact ⟨⟨fun _ => hm, by simp⟩, trivial⟩
  rep := by
    show (T.log ++ [("take", m)]).foldl (play n) (newT B) = _
    rw [List.foldl_append, h.rep]
    rfl
  rt := h.rt.take hm
theorem Pld.give {n k : Nat} {B : List Row} {T : Tal} {m : String} {d : TL.D} (h : Pld n B k T) (hm : T.cur.lookup m = some d) : Pld n B (k + 1) (T.give m) where
  ok := h.ok.give m
  len := by
    show (T.log ++ [("up", m)]).length ≤ _
    rw [List.length_append]
    have := h.len
    simp
    omega
  bk := h.bk
  val := by
    show Valid n (newT B) (T.log ++ [("up", m)])
    refine h.val.append ?_
    rw [h.rep]
    exact ⟨⟨by simp, fun _ => ⟨d, hm⟩⟩, trivial⟩
  rep := by
    show (T.log ++ [("up", m)]).foldl (play n) (newT B) = _
    rw [List.foldl_append, h.rep]
    rfl
  rt := h.rt.give
theorem outs_len {n : Nat} {a : String} {T : Tal} {ms : List String} : (outs n a T ms).length ≤ ms.length := List.length_filterMap_le ..
theorem Pld.deed {n k : Nat} {B : List Row} {T : Tal} {a : String} (h : Pld n B k T) : Pld n B (k + 1) (T.deed n a) := by
  obtain ⟨d1, d2, d3⟩ := deed_step (a := a) h.ok
  have cl := h.ok.cl
  have ol := outs_len (n := n) (a := a) (T := T) (ms := sortN (T.cur.map (·.1)))
  rw [(sortN_perm _).length_eq, List.length_map] at ol
  have o := outs_go (n := n) (outs_isOut (n := n) (a := a) (T := T) (ms := sortN (T.cur.map (·.1)))) (T.deed n a)
  refine ⟨h.ok.deed a, ?_, d1.trans h.bk, ?_, ?_, h.rt.deed h.ok⟩
  · rw [d2, List.length_append, List.length_cons]
    have := h.len
    omega
  · rw [d2]
    refine h.val.append ?_
    rw [h.rep]
    exact ⟨⟨by simp, by simp⟩, o.2⟩
  · rw [d2, List.foldl_append, h.rep]
    exact o.1

end TP

namespace TP
open TL
open PySem (Str PyData)
open L2 (atI)
theorem forE_I {C : Cal} {tg : T} {body : List S} {I : Nat → TL.Env → Sto → Prop} : ∀ (xs : List TL.D) (j : Nat) (ρ : TL.Env) (st : Sto), I j ρ st → (∀ i x ρ st, xs[i]? = some x → I (j + i) ρ st → ∃ ρ1 ρ2 st2, bindT tg x ρ = some ρ1 ∧ execs C body ρ1 st = .nx ρ2 st2 ∧ I (j + i + 1) ρ2 st2) →
    ∃ ρ' st', forE C tg body xs ρ st = .nx ρ' st' ∧ I (j + xs.length) ρ' st'
  | [], j, ρ, st, h, _ => ⟨ρ, st, forE_nil, h⟩
  | x :: xs, j, ρ, st, h, s => by
    obtain ⟨ρ1, ρ2, st2, h1, h2, h3⟩ := s 0 x ρ st rfl h
    obtain ⟨ρ', st', e, h4⟩ := forE_I (I := I) xs (j + 1) ρ2 st2 h3 fun i y ρ st hy hi => by
      have z := s (i + 1) y ρ st (by simpa using hy)
      rw [show j + (i + 1) = j + 1 + i from by omega] at z
      exact z hi
    refine ⟨ρ', st', ?_, ?_⟩
    · rw [forE_cons h1, h2, seq_nx, e]
    · rw [List.length_cons, show j + (xs.length + 1) = j + 1 + xs.length from by omega]
      exact h4
theorem told_go {n N l : Nat} (h30 : n ≤ 30) (hN : 2 * n + 2 ≤ N) {x0 x1 : Option TL.D} : ∀ (rs : List (String × String)) {st : Sto} {T : Tal}, st[l]? = some (tS T) → TOk n T → Valid n T rs → T.log.length + 21 * rs.length < 80000 → ∀ (x y : Option TL.D),
    ∃ x' y', forE (TL.run Pg N) (.tp [3, 4]) [.ifs (.o2 .eq (.var 3) (.con (.str "take"))) [.expr (.meth 14 "Tale" "take" (.var 2) [.var 4])] [.ifs (.o2 .eq (.var 3) (.con (.str "up"))) [.expr (.meth 15 "Tale" "give_up" (.var 2) [.var 4])] [.ifs (.o2 .eq (.var 3) (.con (.str "deed"))) [.expr (.meth 16 "Tale" "deed" (.var 2) [.var 4])] []]]] (rs.map logD) [x0, x1, some (.ref l), x, y] st = .nx [x0, x1, some (.ref l), x', y'] (st.set l (tS (rs.foldl (play n) T)))
  | [], st, T, h, _, _, _, x, y => ⟨x, y, by rw [List.map_nil, forE_nil, List.foldl_nil, set_id h]⟩
  | (w, m) :: rs, st, T, h, ok, v, hl, x, y => by
    obtain ⟨v1, v2⟩ := v
    rw [List.length_cons] at hl
    have h1 := set_at h (play n T (w, m))
    have pk : TOk n (play n T (w, m)) ∧ (play n T (w, m)).log.length ≤ T.log.length + 21 := by
      unfold play
      split
      · next e => exact ⟨ok.take (off_book (v1.1 e)).1, by show (T.log ++ [_]).length ≤ _; simp⟩
      · split
        · exact ⟨ok.give _, by show (T.log ++ [_]).length ≤ _; simp⟩
        · split
          · refine ⟨ok.deed _, ?_⟩
            show (T.deed n m).log.length ≤ _
            rw [(deed_step ok).2.1, List.length_append, List.length_cons]
            have ol := outs_len (n := n) (a := m) (T := T) (ms := sortN (T.cur.map (·.1)))
            rw [(sortN_perm _).length_eq, List.length_map] at ol
            have := ok.cl
            omega
          · exact ⟨ok, by omega⟩
    obtain ⟨x', y', e⟩ := told_go (N := N) h30 hN (x0 := x0) (x1 := x1) rs h1 pk.1 v2 (by have := pk.2; omega) (some (.str w)) (some (.str m))
    refine ⟨x', y', ?_⟩
    rw [List.set_set] at e
    rw [List.map_cons, forE_cons (ρ1 := [x0, x1, some (.ref l), some (.str w), some (.str m)]) (by simp [logD]), List.foldl_cons]
    have m1 := hasT h (m := "take") (by decide +kernel)
    have m2 := hasT h (m := "give_up") (by decide +kernel)
    have m3 := hasT h (m := "deed") (by decide +kernel)
    have e1 : ∃ x, play n T (w, m) = x := ⟨_, rfl⟩
    by_cases c1 : w = "take"
    · have wt := w_take (N := N) (by omega) h ok (v1.1 c1) (by omega)
      have ep : play n T (w, m) = T.take m := if_pos c1
      rw [ep] at e ⊢
      simp [dEqs, c1, m1, wt]
      rw [c1] at e
      exact e
    · by_cases c2 : w = "up"
      · obtain ⟨d, hd⟩ := v1.2 c2
        have wt := w_give (N := N) (by omega) h ok hd (by omega)
        have ep : play n T (w, m) = T.give m := (if_neg c1).trans (if_pos c2)
        rw [ep] at e ⊢
        simp [dEqs, c2, m2, wt]
        rw [c2] at e
        exact e
      · by_cases c3 : w = "deed"
        · have wt := w_deed (N := N) h30 hN (a := m) h ok (by omega)
          have ep : play n T (w, m) = T.deed n m := (if_neg c1).trans ((if_neg c2).trans (if_pos c3))
          rw [ep] at e ⊢
          simp [dEqs, c3, m3, wt]
          rw [c3] at e
          exact e
        · have ep : play n T (w, m) = T := (if_neg c1).trans ((if_neg c2).trans (if_neg c3))
          rw [ep] at e ⊢
          simp [dEqs, c1, c2, c3]
          rw [set_id h] at *
          exact e
theorem w_told_again {n N : Nat} (h30 : n ≤ 30) (hN : 2 * n + 3 ≤ N) {B : List Row} (ok : BOk n B) {rs : List (String × String)} (v : Valid n (newT B) rs) (hl : 21 * rs.length < 80000) (st : Sto) : TL.run Pg N 5 [.tup (B.map Row.d), .tup (rs.map logD)] st = .ok (.ref st.length) (st ++ [tS (rs.foldl (play n) (newT B))]) := by
  obtain ⟨N, rfl⟩ : ∃ M, N = M + 1 := ⟨N - 1, by omega⟩
  rw [run_c (F := c_told_again) rfl rfl]
  have i1 := w_initT (N := N) (by omega) ok st
  have h1 : (st ++ [tS (newT B)])[st.length]? = some (tS (newT B)) := by simp
  obtain ⟨x, y, e⟩ := told_go (N := N) h30 (by omega) (x0 := some (.tup (B.map Row.d))) (x1 := some (.tup (rs.map logD))) rs h1 ok.new v (by show ([] : List (String × String)).length + _ < _; simpa using hl) none none
  have se : (st ++ [tS (newT B)]).set st.length (tS (rs.foldl (play n) (newT B))) = st ++ [tS (rs.foldl (play n) (newT B))] := by simp
  rw [se] at e
  simp [c_told_again, enter, i1, e]
/-- all that is asked of a tale -/
def allD (B : List Row) (T : Tal) : TL.D := .tup [.tup (T.offered.map nD), .tup (goD T), .tup (T.log.map logD), .lst (B.map fun r => .tup (T.cnt r.name).l)]
theorem insE_perm {α : Type} (x : String × α) : ∀ l : List (String × α), (insE x l).Perm (x :: l)
  | [] => .refl _
  | y :: r => by
    unfold insE
    split
    · exact .refl _
    · exact ((insE_perm x r).cons y).trans (List.Perm.swap x y r)
theorem sortE_perm {α : Type} : ∀ l : List (String × α), (sortE l).Perm l
  | [] => .refl _
  | x :: r => (insE_perm x (sortE r)).trans ((sortE_perm r).cons x)
theorem allD_ok {n : Nat} {B : List Row} {T : Tal} (ok : TOk n T) : okD (2 * n + 3) (allD B T) := by
  refine okD_tup fun d hd => ?_
  simp at hd
  rcases hd with rfl | rfl | rfl | rfl
  · refine (okD_tup (n := 0) fun d hd => ?_).mono (by omega)
    obtain ⟨m, _, rfl⟩ := List.mem_map.mp hd
    exact okD_str 0 (strOk_of _)
  · refine okD_tup (n := 2 * n + 1) fun d hd => ?_
    obtain ⟨e, he, rfl⟩ := List.mem_map.mp hd
    refine okD_tup (n := 2 * n) fun d hd => ?_
    simp at hd
    rcases hd with rfl | rfl
    · exact okD_str _ (strOk_of _)
    · exact (ok.cs e ((sortE_perm _).mem_iff.mp he)).2.ok
  · refine (okD_tup (n := 1) fun d hd => ?_).mono (by omega)
    obtain ⟨e, _, rfl⟩ := List.mem_map.mp hd
    refine okD_tup (n := 0) fun d hd => ?_
    simp at hd
    rcases hd with rfl | rfl
    · exact okD_str 0 (strOk_of _)
    · exact okD_str 0 (strOk_of _)
  · refine (okD_lst (n := 1) fun d hd => ?_).mono (by omega)
    obtain ⟨e, _, rfl⟩ := List.mem_map.mp hd
    refine okD_tup (n := 0) fun d hd => ?_
    unfold Cnt.l at hd
    simp at hd
    rcases hd with rfl | rfl | rfl <;> exact okD_int 0 _

end TP

namespace TP
open TL
open PySem (Str PyData)
open L2 (atI)
def nmE (d : TL.D) : TL.D := match d with
  | .tup [_, .tup (x :: _)] => x
  | _ => .non
def pmE (z : Int) (d : TL.D) : Bool := match d with
  | .tup [.int j, _] => decide ((z + j) % 3 = 0)
  | _ => false
def NAMES : List String := ["art", "bread", "coin", "dog", "end"]
theorem w__law_book' {N : Nat} (hN : 20 ≤ N) (z : Int) (st : Sto) : ∃ B, BOk 3 B ∧ B ≠ [] ∧ (∀ m ∈ B.map Row.name, m ∈ NAMES) ∧ TL.run Pg N 10 [.int z] st = .ok (.tup (B.map Row.d)) st := by
  obtain ⟨N, rfl⟩ : ∃ M, N = M + 1 := ⟨N - 1, by omega⟩
  rw [run_c (F := c__law_book) rfl rfl]
  have r5 := oMod (i := z) (j := 5) (by decide)
  have h0 := Int.emod_nonneg z (b := 5) (by decide)
  have h1 := Int.emod_lt_of_pos z (b := 5) (by decide)
  have it := itRng (k := 1 + z % 5) (by omega) (by omega)
  obtain ⟨ρ', st', e, ⟨B, a3, a4, a5, a6, a7, rfl, rfl, hB, hg, hw, hn⟩⟩ := forE_I (C := TL.run Pg N) (tg := .nm 2) (body := [.set 3 (.o2 .div (.call 8 [.var 0, .var 2]) (.con (.int 4))), .set 4 (.tup []), .ifs (.o2 .eq (.o2 .mod (.o2 .div (.var 3) (.con (.int 128))) (.con (.int 2))) (.con (.int 0))) [.set 4 (.o1 .tuple (.lc (.o2 .ix (.var 7) (.con (.int 0))) (.tp [6, 7]) .enumT [.var 1] [.o2 .eq (.o2 .mod (.o2 .add (.o2 .div (.var 3) (.con (.int 4))) (.var 6)) (.con (.int 3))) (.con (.int 0))] [6, 7]))] [], .set 5 (.call 9 [.o2 .div (.var 3) (.con (.int 256)), .o2 .add (.con (.int 1)) (.o2 .mod (.var 3) (.con (.int 3))), .con (.int 2)]), .set 1 (.o2 .add (.var 1) (.tup [.tup [.o2 .ix (.tup [.con (.str "art"), .con (.str "bread"), .con (.str "coin"), .con (.str "dog"), .con (.str "end")]) (.var 2), .var 4, .var 5]]))])
    (I := fun k ρ s => ∃ (B : List Row) (a3 a4 a5 a6 a7 : Option TL.D), s = st ∧ ρ = [some (.int z), some (.tup (B.map Row.d)), a6, a3, a4, a5, none, none] ∧ B.length = k ∧ (∀ r ∈ B, Good 3 r.task) ∧ (∀ r ∈ B, r.wants.length ≤ 20 ∧ ∀ w ∈ r.wants, w ∈ B.map Row.name) ∧ B.map Row.name = NAMES.take k)
    ((List.range (1 + z % 5).toNat).map fun (i : Nat) => .int (i : Int)) 0 [some (.int z), some (.tup []), none, none, none, none, none, none] st ⟨[], none, none, none, none, none, rfl, rfl, rfl, (fun _ h => nomatch h), (fun _ h => nomatch h), rfl⟩ (by
      rintro i x ρ s hx ⟨B, a3, a4, a5, a6, a7, rfl, rfl, hB, hg, hw, hn⟩
      rw [Nat.zero_add] at hB hn
      have hi : i < (1 + z % 5).toNat := by
        have := (List.getElem?_eq_some_iff.mp hx).1
        simpa using this
      have ex : x = .int (i : Int) := by
        rw [List.getElem?_map, List.getElem?_range hi] at hx
        exact (Option.some.inj hx).symm
      subst ex
      have w1 := w__law_drawn (N := N) (by omega) z i s
      have d4 := oDiv (i := drawZ z i) (j := 4) (by decide) (by decide)
      generalize drawZ z i / 4 = q at *
      have d128 := oDiv (i := q) (j := 128) (by decide) (by decide)
      have m2 := oMod (i := q / 128) (j := 2) (by decide)
      have d256 := oDiv (i := q) (j := 256) (by decide) (by decide)
      have m3 := oMod (i := q) (j := 3) (by decide)
      have k0 := Int.emod_nonneg q (b := 3) (by decide)
      have k1 := Int.emod_lt_of_pos q (b := 3) (by decide)
      obtain ⟨c, hc⟩ : ∃ c : Nat, q % 3 = c := ⟨(q % 3).toNat, by omega⟩
      rw [hc] at m3 k0 k1
      obtain ⟨t, gt, wt⟩ := w__law_task c N (q / 256) 2 s (by decide) (by decide) (by omega)
      have ce : (c : Int) + 1 = 1 + (c : Int) := by omega
      rw [ce] at wt
      have wt : TL.run Pg N 9 [.int (q / 256), .int (1 + (c : Int)), .int 2] s = .ok t s := wt
      have gt := gt.mono (m := 3) (by omega)
      have tO := gt.ok.own
      have d44 := oDiv (i := q) (j := 4) (by decide) (by decide)
      have lc := lcE_map (C := TL.run Pg N) (ρ := [some (.int z), some (.tup (B.map Row.d)), some (.int (i : Int)), some (.int q), some (.tup []), a5, none, none]) (st := s) (elt := .o2 .ix (.var 7) (.con (.int 0))) (tg := .tp [6, 7]) (own := [6, 7]) (cond := [.o2 .eq (.o2 .mod (.o2 .add (.o2 .div (.var 3) (.con (.int 4))) (.var 6)) (.con (.int 3))) (.con (.int 0))]) (p := pmE (q / 4)) (g := nmE) (xs := (B.map Row.d).zipIdx.map fun p => .tup [.int (p.2 : Nat), p.1]) fun x hx => by
        obtain ⟨p, hp, rfl⟩ := List.mem_map.mp hx
        obtain ⟨y, j⟩ := p
        obtain ⟨_, _, hy⟩ := List.mem_zipIdx hp
        have hy' : y ∈ B.map Row.d := by rw [hy]; exact List.getElem_mem _
        obtain ⟨r, _, rfl⟩ := List.mem_map.mp hy'
        have mj := oMod (i := q / 4 + (j : Int)) (j := 3) (by decide)
        exact ⟨_, by simp; rfl, by simp [d44, mj, pmE], fun _ => ⟨by simp [Row.d, nmE], rfl⟩⟩
      obtain ⟨ws, hws, hwl, hwe⟩ : ∃ ws : List String, (∀ w ∈ ws, w ∈ B.map Row.name) ∧ ws.length ≤ 20 ∧ (((B.map Row.d).zipIdx.map fun p => TL.D.tup [.int (p.2 : Nat), p.1]).filter (pmE (q / 4))).map nmE = ws.map nD := by
        have g : ∀ (L : List TL.D), (∀ x ∈ L, ∃ w, w ∈ B.map Row.name ∧ nmE x = nD w) → ∃ ws : List String, (∀ w ∈ ws, w ∈ B.map Row.name) ∧ ws.length = L.length ∧ L.map nmE = ws.map nD := by
          intro L
          induction L with
          | nil => intro _; exact ⟨[], (fun _ h => nomatch h), rfl, rfl⟩
          | cons x L ih =>
            intro h
            obtain ⟨w, h1, h2⟩ := h x List.mem_cons_self
            obtain ⟨ws, g1, g2, g3⟩ := ih fun y hy => h y (List.mem_cons_of_mem _ hy)
            exact ⟨w :: ws, fun v hv => by rcases List.mem_cons.mp hv with rfl | hv; exact h1; exact g1 v hv, by simp [g2], by rw [List.map_cons, List.map_cons, h2, g3]⟩
        obtain ⟨ws, g1, g2, g3⟩ := g (((B.map Row.d).zipIdx.map fun p => TL.D.tup [.int (p.2 : Nat), p.1]).filter (pmE (q / 4))) fun x hx => by
          obtain ⟨p, hp, rfl⟩ := List.mem_map.mp (List.mem_filter.mp hx).1
          obtain ⟨y, j⟩ := p
          obtain ⟨_, _, hy⟩ := List.mem_zipIdx hp
          have hy' : y ∈ B.map Row.d := by rw [hy]; exact List.getElem_mem _
          obtain ⟨r, hr, rfl⟩ := List.mem_map.mp hy'
          exact ⟨r.name, List.mem_map.mpr ⟨r, hr, rfl⟩, rfl⟩
        refine ⟨ws, g1, ?_, g3⟩
        rw [g2]
        refine Nat.le_trans (List.length_filter_le _ _) ?_
        rw [List.length_map, List.length_zipIdx, List.length_map, hB]
        omega
      rw [hwe] at lc
      obtain ⟨nm, hnm, hnt, hix⟩ : ∃ nm : String, nm ∉ NAMES.take i ∧ NAMES.take (i + 1) = NAMES.take i ++ [nm] ∧ atI [TL.D.str "art", .str "bread", .str "coin", .str "dog", .str "end"] (i : Int) = some (.str nm) := by
        have : i = 0 ∨ i = 1 ∨ i = 2 ∨ i = 3 ∨ i = 4 := by omega
        rcases this with rfl | rfl | rfl | rfl | rfl
        · exact ⟨"art", by decide, rfl, rfl⟩
        · exact ⟨"bread", by decide, rfl, rfl⟩
        · exact ⟨"coin", by decide, rfl, rfl⟩
        · exact ⟨"dog", by decide, rfl, rfl⟩
        · exact ⟨"end", by decide, rfl, rfl⟩
      have fin : ∀ ws : List String, (∀ w ∈ ws, w ∈ B.map Row.name) → ws.length ≤ 20 → ∃ (B' : List Row), B.map Row.d ++ [.tup [.str nm, .tup (ws.map nD), t]] = B'.map Row.d ∧ B'.length = i + 1 ∧ (∀ r ∈ B', Good 3 r.task) ∧ (∀ r ∈ B', r.wants.length ≤ 20 ∧ ∀ w ∈ r.wants, w ∈ B'.map Row.name) ∧ B'.map Row.name = NAMES.take (i + 1) := by
        intro ws g1 g2
        refine ⟨B ++ [⟨nm, ws, t⟩], by rw [List.map_append]; rfl, by rw [List.length_append, hB]; rfl, ?_, ?_, by rw [List.map_append, hn, hnt]; rfl⟩
        · intro r hr
          rcases List.mem_append.mp hr with hr | hr
          · exact hg r hr
          · rw [List.mem_singleton.mp hr]
            exact gt
        · intro r hr
          rw [List.map_append]
          rcases List.mem_append.mp hr with hr | hr
          · exact ⟨(hw r hr).1, fun w hv => List.mem_append_left _ ((hw r hr).2 w hv)⟩
          · rw [List.mem_singleton.mp hr]
            exact ⟨g2, fun w hv => List.mem_append_left _ (g1 w hv)⟩
      have ad := fun ws : List String => oAddt (a := B.map Row.d) (b := [.tup [.str nm, .tup (ws.map nD), t]]) (by rw [List.length_map, hB]; simp; omega)
      by_cases c2 : q / 128 % 2 = 0
      · obtain ⟨B', f1, f2⟩ := fin ws hws hwl
        have ad := ad ws
        rw [f1] at ad
        refine ⟨[some (.int z), some (.tup (B.map Row.d)), some (.int (i : Int)), a3, a4, a5, none, none], [some (.int z), some (.tup (B'.map Row.d)), some (.int (i : Int)), some (.int q), some (.tup (ws.map nD)), some t, none, none], s, by simp, ?_, ⟨B', some (.int q), some (.tup (ws.map nD)), some t, some (.int (i : Int)), none, rfl, rfl, by rw [Nat.zero_add]; exact f2⟩⟩
        simp [w1, d4, d128, m2, c2, lc, d256, m3, wt, tO, hix, ad]
      · obtain ⟨B', f1, f2⟩ := fin [] (fun _ h => nomatch h) (Nat.zero_le _)
        have ad := ad []
        rw [f1] at ad
        refine ⟨[some (.int z), some (.tup (B.map Row.d)), some (.int (i : Int)), a3, a4, a5, none, none], [some (.int z), some (.tup (B'.map Row.d)), some (.int (i : Int)), some (.int q), some (.tup []), some t, none, none], s, by simp, ?_, ⟨B', some (.int q), some (.tup []), some t, some (.int (i : Int)), none, rfl, rfl, by rw [Nat.zero_add]; exact f2⟩⟩
        rw [List.map_nil] at ad
        simp [w1, d4, d128, m2, c2, d256, m3, wt, tO, hix, ad])
  rw [Nat.zero_add, List.length_map, List.length_range] at hB hn
  refine ⟨B, ⟨?_, by omega, hg, hw⟩, by rintro rfl; simp at hB; omega, by rw [hn]; exact fun m hm => List.mem_of_mem_take hm, ?_⟩
  · rw [hn]
    exact List.Nodup.sublist (List.take_sublist _ _) (by decide)
  · simp [c__law_book, enter, r5, it, e]
theorem w__law_book {N : Nat} (hN : 20 ≤ N) (z : Int) (st : Sto) : ∃ B, BOk 3 B ∧ B ≠ [] ∧ TL.run Pg N 10 [.int z] st = .ok (.tup (B.map Row.d)) st := by
  obtain ⟨B, h1, h2, _, h3⟩ := w__law_book' hN z st
  exact ⟨B, h1, h2, h3⟩

end TP

namespace TP
open TL
open PySem (Str PyData)
open L2 (atI)
def ro (n : String) : String := if n = "art" then "b" else if n = "bread" then "bb" else if n = "coin" then "cat" else if n = "dog" then "ccc" else if n = "end" then "zoo" else n
theorem ro_inj : ∀ a ∈ NAMES, ∀ b ∈ NAMES, ro a = ro b → a = b := by decide
theorem ro_le : ∀ a ∈ NAMES, ∀ b ∈ NAMES, strLe (Str.ofString (ro a)) (Str.ofString (ro b)) = strLe (Str.ofString a) (Str.ofString b) := by decide +kernel
def rE {α : Type} (e : String × α) : String × α := (ro e.1, e.2)
def rRow (r : Row) : Row := ⟨ro r.name, r.wants.map ro, r.task⟩
def rl (e : String × String) : String × String := if e.1 = "deed" then e else (e.1, ro e.2)
def ren (T : Tal) : Tal := ⟨T.book.map rRow, T.cur.map rE, T.num.map rE, T.log.map rl⟩
abbrev InN (l : List String) : Prop := ∀ m ∈ l, m ∈ NAMES
theorem look_ren {α : Type} {n : String} (hn : n ∈ NAMES) : ∀ {l : List (String × α)}, InN (l.map (·.1)) → (l.map rE).lookup (ro n) = l.lookup n
  | [], _ => rfl
  | e :: l, h => by
    have h0 := h e.1 (by simp)
    have ih := look_ren hn (l := l) fun m hm => h m (List.mem_cons_of_mem _ hm)
    rw [List.map_cons, List.lookup_cons, List.lookup_cons, ih]
    by_cases z : n = e.1
    · rw [show (ro n == (rE e).1) = true from by rw [z]; exact beq_self_eq_true _, show (n == e.1) = true from by rw [z]; exact beq_self_eq_true _]
      rfl
    · rw [show (ro n == (rE e).1) = false from beq_eq_false_iff_ne.mpr fun q => z (ro_inj n hn e.1 h0 q), show (n == e.1) = false from beq_eq_false_iff_ne.mpr z]
theorem put_ren {α : Type} {n : String} {x : α} (hn : n ∈ NAMES) : ∀ {l : List (String × α)}, InN (l.map (·.1)) → put (ro n) x (l.map rE) = (put n x l).map rE
  | [], _ => rfl
  | e :: l, h => by
    have h0 := h e.1 (by simp)
    have ih := put_ren hn (x := x) (l := l) fun m hm => h m (List.mem_cons_of_mem _ hm)
    rw [List.map_cons]
    unfold put
    by_cases z : e.1 = n
    · rw [if_pos (show (rE e).1 = ro n from by rw [← z]; rfl), if_pos z]
      rfl
    · rw [if_neg (show ¬ (rE e).1 = ro n from fun q => z (ro_inj e.1 h0 n hn q)), if_neg z, ih]
      rfl
theorem del_ren {α : Type} {n : String} (hn : n ∈ NAMES) : ∀ {l : List (String × α)}, InN (l.map (·.1)) → del (ro n) (l.map rE) = (del n l).map rE
  | [], _ => rfl
  | e :: l, h => by
    have h0 := h e.1 (by simp)
    have ih := del_ren hn (l := l) fun m hm => h m (List.mem_cons_of_mem _ hm)
    unfold del at ih ⊢
    rw [List.map_cons, List.filter_cons, List.filter_cons, ih]
    by_cases z : e.1 = n
    · rw [if_neg (by simp [rE, z]), if_neg (by simp [z])]
    · rw [if_pos (decide_eq_true (show (rE e).1 ≠ ro n from fun q => z (ro_inj e.1 h0 n hn q))), if_pos (decide_eq_true (show e.1 ≠ n from z)), List.map_cons]
theorem insN_ren {x : String} (hx : x ∈ NAMES) : ∀ {l : List String}, InN l → insN (ro x) (l.map ro) = (insN x l).map ro
  | [], _ => rfl
  | y :: l, h => by
    have h0 := h y (by simp)
    have ih := insN_ren hx (l := l) fun m hm => h m (List.mem_cons_of_mem _ hm)
    rw [List.map_cons]
    unfold insN
    rw [ro_le x hx y h0, ih]
    split <;> rfl
theorem sortN_in {l : List String} (h : InN l) : InN (sortN l) := fun m hm => h m ((sortN_perm l).mem_iff.mp hm)
theorem sortN_ren : ∀ {l : List String}, InN l → sortN (l.map ro) = (sortN l).map ro
  | [], _ => rfl
  | x :: l, h => by
    have hl : InN l := fun m hm => h m (List.mem_cons_of_mem _ hm)
    show insN (ro x) (sortN (l.map ro)) = _
    rw [sortN_ren hl, insN_ren (h x (by simp)) (sortN_in hl)]
    rfl
theorem insE_ren {α : Type} {x : String × α} (hx : x.1 ∈ NAMES) : ∀ {l : List (String × α)}, InN (l.map (·.1)) → insE (rE x) (l.map rE) = (insE x l).map rE
  | [], _ => rfl
  | y :: l, h => by
    have h0 := h y.1 (by simp)
    have ih := insE_ren hx (l := l) fun m hm => h m (List.mem_cons_of_mem _ hm)
    rw [List.map_cons]
    unfold insE
    rw [show strLe (Str.ofString (rE x).1) (Str.ofString (rE y).1) = strLe (Str.ofString x.1) (Str.ofString y.1) from ro_le x.1 hx y.1 h0, ih]
    split <;> rfl
theorem sortE_ren {α : Type} : ∀ {l : List (String × α)}, InN (l.map (·.1)) → sortE (l.map rE) = (sortE l).map rE
  | [], _ => rfl
  | x :: l, h => by
    have hl : InN (l.map (·.1)) := fun m hm => h m (List.mem_cons_of_mem _ hm)
    have hs : InN ((sortE l).map (·.1)) := fun m hm => by
      obtain ⟨e, he, rfl⟩ := List.mem_map.mp hm
      exact hl _ (List.mem_map.mpr ⟨e, (sortE_perm l).mem_iff.mp he, rfl⟩)
    show insE (rE x) (sortE (l.map rE)) = _
    rw [sortE_ren hl, insE_ren (h x.1 (by simp)) hs]
    rfl
structure NB (n : Nat) (T : Tal) : Prop where
  ok : TOk n T
  nm : InN (T.book.map Row.name)
  lg : ∀ r ∈ T.log, r.1 = "deed" ∨ r.2 ∈ NAMES
theorem NB.cur {n : Nat} {T : Tal} (h : NB n T) : InN (T.cur.map (·.1)) := fun m hm => by
  obtain ⟨e, he, rfl⟩ := List.mem_map.mp hm
  exact h.nm _ (h.ok.cs e he).1
theorem NB.num {n : Nat} {T : Tal} (h : NB n T) : InN (T.num.map (·.1)) := by rw [h.ok.num]; exact h.nm
theorem ren_cnt {n : Nat} {T : Tal} (h : NB n T) {m : String} (hm : m ∈ NAMES) : (ren T).cnt (ro m) = T.cnt m := by
  show ((T.num.map rE).lookup (ro m)).getD _ = _
  rw [look_ren hm h.num]
  rfl
theorem ren_done {n : Nat} {T : Tal} (h : NB n T) {m : String} (hm : m ∈ NAMES) : done (ren T) (ro m) = done T m := by
  show (((T.num.map rE).lookup (ro m)).map Cnt.d).getD 0 = _
  rw [look_ren hm h.num]
  rfl
theorem ren_offP {n : Nat} {T : Tal} (h : NB n T) {r : Row} (hr : r ∈ T.book) : offP (ren T) (rRow r) = offP T r := by
  have hn := h.nm r.name (List.mem_map.mpr ⟨r, hr, rfl⟩)
  have hw : ∀ w ∈ r.wants, w ∈ NAMES := fun w hw => h.nm w ((h.ok.wants r hr).2 w hw)
  show (!((T.cur.map rE).lookup (ro r.name)).isSome && (r.wants.map ro).all fun w => decide (0 < done (ren T) w)) = _
  rw [look_ren hn h.cur, List.all_map]
  unfold offP
  congr 1
  generalize r.wants = ws at hw ⊢
  induction ws with
  | nil => rfl
  | cons w ws ih =>
    rw [List.all_cons, List.all_cons, ih fun x hx => hw x (List.mem_cons_of_mem _ hx)]
    congr 1
    show decide (0 < done (ren T) (ro w)) = _
    rw [ren_done h (hw w List.mem_cons_self)]
theorem ren_offered {n : Nat} {T : Tal} (h : NB n T) : (ren T).offered = T.offered.map ro := by
  have e1 : (ren T).offered = ((T.book.map rRow).filter (offP (ren T))).map Row.name := rfl
  have e2 : T.offered = (T.book.filter (offP T)).map Row.name := rfl
  have key : ∀ rs : List Row, (∀ r ∈ rs, r ∈ T.book) → ((rs.map rRow).filter (offP (ren T))).map Row.name = ((rs.filter (offP T)).map Row.name).map ro := by
    intro rs
    induction rs with
    | nil => intro _; rfl
    | cons r rs ih =>
      intro hr
      have ih := ih fun x hx => hr x (List.mem_cons_of_mem _ hx)
      rw [List.map_cons, List.filter_cons, List.filter_cons, ren_offP h (hr r List.mem_cons_self)]
      cases offP T r with
      | true => rw [if_pos rfl, if_pos rfl, List.map_cons, List.map_cons, List.map_cons, ih]; rfl
      | false => rw [if_neg (by decide), if_neg (by decide), ih]
  rw [e1, e2, key _ fun _ h => h]
theorem ren_task {n : Nat} {T : Tal} (h : NB n T) {m : String} (hm : m ∈ NAMES) : (ren T).taskOf (ro m) = T.taskOf m := by
  have key : ∀ rs : List Row, (∀ r ∈ rs, r ∈ T.book) → ((rs.map rRow).find? fun r => decide (r.name = ro m)) = (rs.find? fun r => decide (r.name = m)).map rRow := by
    intro rs
    induction rs with
    | nil => intro _; rfl
    | cons r rs ih =>
      intro hr
      have ih := ih fun x hx => hr x (List.mem_cons_of_mem _ hx)
      have hn := h.nm r.name (List.mem_map.mpr ⟨r, hr r List.mem_cons_self, rfl⟩)
      rw [List.map_cons, List.find?_cons, List.find?_cons]
      by_cases z : r.name = m
      · rw [show decide ((rRow r).name = ro m) = true from decide_eq_true (by rw [← z]; rfl), show decide (r.name = m) = true from decide_eq_true z]
        rfl
      · rw [show decide ((rRow r).name = ro m) = false from decide_eq_false fun q => z (ro_inj _ hn _ hm q), show decide (r.name = m) = false from decide_eq_false z, ih]
  unfold Tal.taskOf
  rw [show (ren T).book = T.book.map rRow from rfl, key _ fun _ h => h]
  cases T.book.find? fun r => decide (r.name = m) <;> rfl
theorem rl_row {w m : String} (h : w ≠ "deed") : rl (w, m) = (w, ro m) := if_neg h
theorem ren_take {n : Nat} {T : Tal} (h : NB n T) {m : String} (hm : m ∈ NAMES) : ren (T.take m) = (ren T).take (ro m) := by
  show Tal.mk _ _ _ _ = Tal.mk _ _ _ _
  rw [ren_task h hm, ren_cnt h hm, show (ren T).cur = T.cur.map rE from rfl, show (ren T).num = T.num.map rE from rfl, put_ren hm h.cur, put_ren hm h.num]
  show Tal.mk _ _ _ ((T.log ++ [("take", m)]).map rl) = _
  rw [List.map_append]
  rfl
theorem ren_give {n : Nat} {T : Tal} (h : NB n T) {m : String} (hm : m ∈ NAMES) : ren (T.give m) = (ren T).give (ro m) := by
  show Tal.mk _ _ _ _ = Tal.mk _ _ _ _
  rw [show (ren T).cur = T.cur.map rE from rfl, del_ren hm h.cur]
  show Tal.mk _ _ _ ((T.log ++ [("up", m)]).map rl) = _
  rw [List.map_append]
  rfl
theorem ren_one {n : Nat} {T : Tal} (h : NB n T) {a m : String} (hm : m ∈ NAMES) : ren (T.one n a m) = (ren T).one n a (ro m) := by
  unfold Tal.one
  rw [show (ren T).cur = T.cur.map rE from rfl, look_ren hm h.cur]
  cases q : T.cur.lookup m with
  | none => rfl
  | some d =>
    dsimp only
    cases q2 : outS (beh n d a) with
    | none =>
      dsimp only
      show Tal.mk _ _ _ _ = Tal.mk _ _ _ _
      rw [put_ren hm h.cur]
      rfl
    | some b =>
      cases b with
      | true =>
        dsimp only
        show Tal.mk _ _ _ _ = Tal.mk _ _ _ _
        rw [ren_cnt h hm, del_ren hm h.cur, show (ren T).num = T.num.map rE from rfl, put_ren hm h.num]
        show Tal.mk _ _ _ ((T.log ++ [("done", m)]).map rl) = _
        rw [List.map_append]
        rfl
      | false =>
        dsimp only
        show Tal.mk _ _ _ _ = Tal.mk _ _ _ _
        rw [ren_cnt h hm, del_ren hm h.cur, show (ren T).num = T.num.map rE from rfl, put_ren hm h.num]
        show Tal.mk _ _ _ ((T.log ++ [("failed", m)]).map rl) = _
        rw [List.map_append]
        rfl
theorem NB.one {n : Nat} {T : Tal} (h : NB n T) {a m : String} (hm : m ∈ NAMES) : NB n (T.one n a m) := by
  obtain ⟨g1, g2, _⟩ := one_step n a m T
  refine ⟨h.ok.one a m, by rw [g1]; exact h.nm, fun r hr => ?_⟩
  rw [g2] at hr
  rcases List.mem_append.mp hr with hr | hr
  · exact h.lg r hr
  · refine .inr ?_
    obtain ⟨x, hx, e⟩ := List.mem_filterMap.mp hr
    have : x = m := by simpa using hx
    subst this
    cases q : T.cur.lookup x with
    | none => rw [q] at e; cases e
    | some d =>
      rw [q] at e
      simp only [Option.bind] at e
      cases q2 : outS (beh n d a) with
      | none => rw [q2] at e; cases e
      | some b =>
        rw [q2] at e
        simp only [Option.map, Option.some.injEq] at e
        rw [← e]
        exact hm
theorem ren_fold {n : Nat} {a : String} : ∀ (ms : List String) {T : Tal}, NB n T → InN ms → ren (ms.foldl (Tal.one n a) T) = (ms.map ro).foldl (Tal.one n a) (ren T) ∧ NB n (ms.foldl (Tal.one n a) T)
  | [], T, h, _ => ⟨rfl, h⟩
  | m :: ms, T, h, hm => by
    have h0 := hm m List.mem_cons_self
    obtain ⟨h1, h2⟩ := ren_fold (a := a) ms (h.one (a := a) h0) fun x hx => hm x (List.mem_cons_of_mem _ hx)
    rw [List.foldl_cons, List.map_cons, List.foldl_cons, h1, ren_one h h0]
    exact ⟨rfl, h2⟩
theorem ren_deed {n : Nat} {T : Tal} (h : NB n T) (a : String) : ren (T.deed n a) = (ren T).deed n a ∧ NB n (T.deed n a) := by
  have h1 : NB n { T with log := T.log ++ [("deed", a)] } := ⟨h.ok.log, h.nm, fun r hr => by
    rcases List.mem_append.mp hr with hr | hr
    · exact h.lg r hr
    · rw [List.mem_singleton.mp hr]
      exact .inl rfl⟩
  obtain ⟨f1, f2⟩ := ren_fold (a := a) (sortN (T.cur.map (·.1))) h1 (sortN_in h.cur)
  refine ⟨?_, f2⟩
  unfold Tal.deed
  rw [f1]
  have e1 : (ren T).cur.map (·.1) = (T.cur.map (·.1)).map ro := by
    show (T.cur.map rE).map (·.1) = _
    rw [List.map_map, List.map_map]
    rfl
  rw [e1, sortN_ren h.cur]
  congr 1
  show Tal.mk _ _ _ ((T.log ++ [("deed", a)]).map rl) = _
  rw [List.map_append]
  rfl
theorem NB.take {n : Nat} {T : Tal} (h : NB n T) {m : String} (hm : m ∈ T.book.map Row.name) : NB n (T.take m) := ⟨h.ok.take hm, h.nm, fun r hr => by
  rcases List.mem_append.mp (show r ∈ T.log ++ [("take", m)] from hr) with hr | hr
  · exact h.lg r hr
  · rw [List.mem_singleton.mp hr]
    exact .inr (h.nm m hm)⟩
theorem NB.give {n : Nat} {T : Tal} (h : NB n T) {m : String} (hm : m ∈ NAMES) : NB n (T.give m) := ⟨h.ok.give m, h.nm, fun r hr => by
  rcases List.mem_append.mp (show r ∈ T.log ++ [("up", m)] from hr) with hr | hr
  · exact h.lg r hr
  · rw [List.mem_singleton.mp hr]
    exact .inr hm⟩
theorem ren_new (B : List Row) : ren (newT B) = newT (B.map rRow) := by
  show Tal.mk _ _ _ _ = Tal.mk _ _ _ _
  show Tal.mk _ _ ((B.map fun r => (r.name, (⟨0, 0, 0⟩ : Cnt))).map rE) _ = Tal.mk _ _ ((B.map rRow).map fun r => (r.name, (⟨0, 0, 0⟩ : Cnt))) _
  rw [List.map_map, List.map_map]
  rfl
theorem BOk.ren {n : Nat} {B : List Row} (h : BOk n B) (hn : InN (B.map Row.name)) : BOk n (B.map rRow) := by
  have en : (B.map rRow).map Row.name = (B.map Row.name).map ro := by rw [List.map_map, List.map_map]; rfl
  refine ⟨?_, by rw [List.length_map]; exact h.bl, ?_, ?_⟩
  · rw [en]
    unfold List.Nodup
    rw [List.pairwise_map]
    exact List.Pairwise.imp_of_mem (fun ha hb z q => z (ro_inj _ (hn _ ha) _ (hn _ hb) q)) h.bn
  · intro r hr
    obtain ⟨r0, h0, rfl⟩ := List.mem_map.mp hr
    exact h.good r0 h0
  · intro r hr
    obtain ⟨r0, h0, rfl⟩ := List.mem_map.mp hr
    refine ⟨by show (r0.wants.map ro).length ≤ 20; rw [List.length_map]; exact (h.wants r0 h0).1, fun w hw => ?_⟩
    obtain ⟨w0, hw0, rfl⟩ := List.mem_map.mp (show w ∈ r0.wants.map ro from hw)
    rw [en]
    exact List.mem_map.mpr ⟨w0, (h.wants r0 h0).2 w0 hw0, rfl⟩
theorem ren_goD {n : Nat} {T : Tal} (h : NB n T) : goD (ren T) = (sortE T.cur).map fun e => .tup [.str (Str.ofString (ro e.1)), e.2] := by
  unfold goD
  rw [show (ren T).cur = T.cur.map rE from rfl, sortE_ren h.cur, List.map_map]
  rfl

end TP

namespace TP
open TL
open PySem (Str PyData)
open L2 (atI)
theorem letter4 (i : Int) : ∃ a : String, o2 .ix (.str "abcd") (.int (i % 4)) = some (.str a) := by
  have h1 := Int.emod_nonneg i (b := 4) (by decide)
  have h2 := Int.emod_lt_of_pos i (b := 4) (by decide)
  generalize i % 4 = j at *
  have : j = 0 ∨ j = 1 ∨ j = 2 ∨ j = 3 := by omega
  rcases this with rfl | rfl | rfl | rfl
  · exact ⟨"a", rfl⟩
  · exact ⟨"b", rfl⟩
  · exact ⟨"c", rfl⟩
  · exact ⟨"d", rfl⟩
theorem eqv_tup_nil (ds : List TL.D) : (TL.D.tup ds).eqv (.tup []) = decide (ds = []) := by
  unfold TL.D.eqv TL.D.py PyData.eqv
  cases ds <;> simp [pys, PyData.eqvAll]
theorem ne_nil {n : Nat} {ds : List TL.D} (h : ∀ d ∈ ds, okD n d) (hn : n + 1 ≤ 64) : dNe (.tup ds) (.tup []) = some (.bl (!decide (ds = []))) := by
  rw [dNe_ok (okD_tup h) (okD_tup (n := n) (ds := []) (fun _ h => by cases h)) hn hn, eqv_tup_nil]
theorem ne_self {n : Nat} {ds : List TL.D} (h : ∀ d ∈ ds, okD n d) (hn : n + 1 ≤ 64) : dNe (.tup ds) (.tup ds) = some (.bl false) := by
  have k := okD_tup h
  rw [dNe_ok k k hn hn, k.eqv_refl]
  rfl
theorem goD_ok {n : Nat} {T : Tal} (ok : TOk n T) : ∀ d ∈ goD T, okD (2 * n + 1) d := by
  intro d hd
  obtain ⟨e, he, rfl⟩ := List.mem_map.mp hd
  refine okD_tup (n := 2 * n) fun d hd => ?_
  simp at hd
  rcases hd with rfl | rfl
  · exact okD_str _ (strOk_of _)
  · exact (ok.cs e ((sortE_perm _).mem_iff.mp he)).2.ok
theorem nDs_ok (l : List String) : ∀ d ∈ l.map nD, okD 0 d := fun d hd => by
  obtain ⟨m, _, rfl⟩ := List.mem_map.mp hd
  exact okD_str 0 (strOk_of _)
theorem log_ok (l : List (String × String)) : ∀ d ∈ l.map logD, okD 1 d := fun d hd => by
  obtain ⟨e, _, rfl⟩ := List.mem_map.mp hd
  refine okD_tup (n := 0) fun d hd => ?_
  simp at hd
  rcases hd with rfl | rfl <;> exact okD_str 0 (strOk_of _)
/-- the names and what they are called -/
def called : List (String × String) := [("art", "b"), ("bread", "bb"), ("coin", "cat"), ("dog", "ccc"), ("end", "zoo")]
def namesKV : List (Str × TL.D) := sk nD called
theorem called_at : ∀ m ∈ NAMES, called.lookup m = some (ro m) := by decide
theorem names_ix {m : String} (hm : m ∈ NAMES) : o2 .ix (.dic namesKV) (.str m) = some (nD (ro m)) := by
  show namesKV.lookup (Str.ofString m) = _
  unfold namesKV
  rw [sk_lookup, called_at m hm]
  rfl
theorem dz_names : dzD (.tup [.str "art", .str "bread", .str "coin", .str "dog", .str "end"]) (.tup [.str "b", .str "bb", .str "cat", .str "ccc", .str "zoo"]) = some (.dic namesKV) := by
  have k : keysD [.str (Str.ofString "art"), .str (Str.ofString "bread"), .str (Str.ofString "coin"), .str (Str.ofString "dog"), .str (Str.ofString "end")] = some [Str.ofString "art", Str.ofString "bread", Str.ofString "coin", Str.ofString "dog", Str.ofString "end"] := rfl
  unfold dzD
  dsimp only
  rw [k]
  dsimp only [Option.bind]
  rw [if_pos ⟨by decide +kernel, rfl, by decide⟩]
  rfl
/-- the book, called otherwise -/
def ledD (B : List Row) : List TL.D := (B.map rRow).map Row.d
theorem execs_app {C : Cal} : ∀ (a b : List S) (ρ : TL.Env) (st : Sto), execs C (a ++ b) ρ st = (execs C a ρ st).seq (execs C b)
  | [], b, ρ, st => by
    rw [List.nil_append, ex0, seq_nx]
  | s :: a, b, ρ, st => by
    rw [List.cons_append, ex1, ex1]
    cases exec C s ρ st with
    | nx ρ1 st1 => rw [seq_nx, seq_nx, execs_app a b]
    | _ => rfl
abbrev EV (ns : List Int) (B : List Row) (num : Int) (a5 a6 a7 a10 a11 a12 a13 a14 : Option TL.D) : TL.Env := [some (.fls (ns.map .int)), some (.tup (B.map Row.d)), some (.dic namesKV), some (.tup (ledD B)), some (.int num), a5, a6, a7, some (.ref 0), some (.ref 1), a10, a11, a12, a13, a14, none, none, none]
abbrev HEAD : List S := [.set 10 (.o2 .div (.call 8 [.var 4, .var 5]) (.con (.int 4))), .ifs (.and [.o2 .eq (.o2 .mod (.var 10) (.con (.int 3))) (.con (.int 0)), .o2 .ne (.meth 13 "Tale" "offered" (.var 8) []) (.tup [])]) [.set 11 (.o2 .ix (.meth 13 "Tale" "offered" (.var 8) []) (.o2 .mod (.o2 .div (.var 10) (.con (.int 3))) (.o1 .len (.meth 13 "Tale" "offered" (.var 8) [])))), .expr (.meth 14 "Tale" "take" (.var 8) [.var 11]), .expr (.meth 14 "Tale" "take" (.var 9) [.o2 .ix (.var 2) (.var 11)])] [.ifs (.and [.o2 .eq (.o2 .mod (.var 10) (.con (.int 7))) (.con (.int 0)), .o2 .ne (.meth 17 "Tale" "going" (.var 8) []) (.tup [])]) [.set 11 (.o2 .ix (.o2 .ix (.meth 17 "Tale" "going" (.var 8) []) (.con (.int 0))) (.con (.int 0))), .expr (.meth 15 "Tale" "give_up" (.var 8) [.var 11]), .expr (.meth 15 "Tale" "give_up" (.var 9) [.o2 .ix (.var 2) (.var 11)])] [.set 14 (.o2 .ix (.con (.str "abcd")) (.o2 .mod (.o2 .div (.var 10) (.con (.int 3))) (.con (.int 4)))), .expr (.meth 16 "Tale" "deed" (.var 8) [.var 14]), .expr (.meth 16 "Tale" "deed" (.var 9) [.var 14])]]]
abbrev TAIL : List S := [.ifs (.o2 .ne (.meth 13 "Tale" "offered" (.var 9) []) (.o1 .tuple (.lc (.o2 .ix (.var 2) (.var 11)) (.nm 11) .tup [.meth 13 "Tale" "offered" (.var 8) []] [] [11]))) [.ret (.con (.bl false))] [], .ifs (.o2 .ne (.meth 17 "Tale" "going" (.var 9) []) (.o1 .tuple (.lc (.tup [.o2 .ix (.var 2) (.var 11), .var 13]) (.tp [11, 13]) .tup [.meth 17 "Tale" "going" (.var 8) []] [] [11, 13]))) [.ret (.con (.bl false))] []]
theorem ren_ok {n : Nat} {T : Tal} {B : List Row} {k : Nat} (h : Pld n B k (ren T)) : TOk n (ren T) := h.ok
/-- the two tales side by side -/
structure Two (B : List Row) (k : Nat) (T : Tal) : Prop where
  nb : NB 3 T
  one : Pld 3 B k T
  two : Pld 3 (B.map rRow) k (ren T)
theorem tail_ok {N : Nat} (hN : 10 ≤ N) {B : List Row} {k : Nat} {T : Tal} (h : Two B k T) {ns : List Int} {num : Int} {a5 a6 a7 a10 a11 a12 a13 a14 : Option TL.D} :
    execs (TL.run Pg N) TAIL (EV ns B num a5 a6 a7 a10 a11 a12 a13 a14) [tS T, tS (ren T)] = .nx (EV ns B num a5 a6 a7 a10 a11 a12 a13 a14) [tS T, tS (ren T)] := by
  have g0 : [tS T, tS (ren T)][0]? = some (tS T) := rfl
  have g1 : [tS T, tS (ren T)][1]? = some (tS (ren T)) := rfl
  have o0 := w_offered (N := N) (by omega) g0 h.one.ok
  have o1 := w_offered (N := N) (by omega) g1 h.two.ok
  have d0 := w_going (N := N) (by omega) g0 h.one.ok
  have d1 := w_going (N := N) (by omega) g1 h.two.ok
  have mo0 := hasT g0 (m := "offered") (by decide +kernel)
  have mo1 := hasT g1 (m := "offered") (by decide +kernel)
  have mg0 := hasT g0 (m := "going") (by decide +kernel)
  have mg1 := hasT g1 (m := "going") (by decide +kernel)
  have l1 := lcE_la (C := TL.run Pg N) (ρ := EV ns B num a5 a6 a7 a10 a11 a12 a13 a14) (st := [tS T, tS (ren T)]) (elt := .o2 .ix (.var 2) (.var 11)) (tg := .nm 11) (own := [11]) (cond := []) (f := nD) (g := fun m => nD (ro m)) (xs := T.offered) fun m hm => by
    have ix := names_ix (h.nb.nm m (off_book hm).1)
    exact ⟨_, by simp [EV]; rfl, by simp, by simp [ix], rfl⟩
  have l2 := lcE_la (C := TL.run Pg N) (ρ := EV ns B num a5 a6 a7 a10 a11 a12 a13 a14) (st := [tS T, tS (ren T)]) (elt := .tup [.o2 .ix (.var 2) (.var 11), .var 13]) (tg := .tp [11, 13]) (own := [11, 13]) (cond := []) (f := fun e => .tup [.str (Str.ofString e.1), e.2]) (g := fun e => .tup [.str (Str.ofString (ro e.1)), e.2]) (xs := sortE T.cur) fun e he => by
    have hc := (sortE_perm _).mem_iff.mp he
    have ix := names_ix (h.nb.cur e.1 (List.mem_map.mpr ⟨e, hc, rfl⟩))
    have eo := (h.one.ok.cs e hc).2.ok.own
    exact ⟨_, by simp [EV]; rfl, by simp, by simp [ix, eo], rfl⟩
  have e1 : (ren T).offered.map nD = T.offered.map fun m => nD (ro m) := by rw [ren_offered h.nb, List.map_map]; rfl
  have e2 := ren_goD h.nb
  have n1 := ne_self (nDs_ok (ren T).offered) (by decide)
  have n2 := ne_self (goD_ok h.two.ok) (by decide)
  rw [e1] at o1 n1
  rw [e2] at d1 n2
  have d0' : TL.run Pg N 17 [.ref 0] [tS T, tS (ren T)] = .ok (.tup ((sortE T.cur).map fun e => .tup [.str (Str.ofString e.1), e.2])) [tS T, tS (ren T)] := d0
  generalize ((sortE T.cur).map fun e => TL.D.tup [.str (Str.ofString (ro e.1)), e.2]) = G1 at *
  generalize ((sortE T.cur).map fun e => TL.D.tup [.str (Str.ofString e.1), e.2]) = G0 at *
  generalize (T.offered.map fun m => nD (ro m)) = O1 at *
  generalize T.offered.map nD = O0 at *
  simp only [EV] at l1 l2
  simp [TAIL, EV, mo0, mo1, mg0, mg1, o0, o1, d0', d1, l1, l2, n1, n2]

end TP

namespace TP
open TL
open PySem (Str PyData)
open L2 (atI)
abbrev lawN : Nat := 60
theorem Two.take {B : List Row} {k : Nat} {T : Tal} {m : String} (h : Two B k T) (hm : m ∈ T.offered) : Two B (k + 1) (T.take m) ∧ ro m ∈ (ren T).offered ∧ ren (T.take m) = (ren T).take (ro m) := by
  have hn := h.nb.nm m (off_book hm).1
  have e := ren_take h.nb hn
  have ho : ro m ∈ (ren T).offered := by rw [ren_offered h.nb]; exact List.mem_map.mpr ⟨m, hm, rfl⟩
  exact ⟨⟨h.nb.take (off_book hm).1, h.one.take hm, by rw [e]; exact h.two.take ho⟩, ho, e⟩
theorem Two.give {B : List Row} {k : Nat} {T : Tal} {m : String} {d : TL.D} (h : Two B k T) (hm : T.cur.lookup m = some d) : Two B (k + 1) (T.give m) ∧ (ren T).cur.lookup (ro m) = some d ∧ ren (T.give m) = (ren T).give (ro m) := by
  have hn := h.nb.nm m (h.one.ok.curn hm).1
  have e := ren_give h.nb hn
  have ho : (ren T).cur.lookup (ro m) = some d := (look_ren hn h.nb.cur).trans hm
  exact ⟨⟨h.nb.give hn, h.one.give hm, by rw [e]; exact h.two.give ho⟩, ho, e⟩
theorem Two.deed {B : List Row} {k : Nat} {T : Tal} (h : Two B k T) (a : String) : Two B (k + 1) (T.deed 3 a) ∧ ren (T.deed 3 a) = (ren T).deed 3 a := by
  obtain ⟨e, nb⟩ := ren_deed h.nb a
  exact ⟨⟨nb, h.one.deed, by rw [e]; exact h.two.deed⟩, e⟩
theorem head_one {N : Nat} (hN : 10 ≤ N) {B : List Row} {k i : Nat} (hk : k ≤ 1000) {T : Tal} (h : Two B k T) {ns : List Int} {num : Int} (a10 a11 a14 : Option TL.D) :
    ∃ T' b10 b11 b14, Two B (k + 1) T' ∧ execs (TL.run Pg N) HEAD (EV ns B num (some (.int (i : Nat))) none none a10 a11 none none a14) [tS T, tS (ren T)] = .nx (EV ns B num (some (.int (i : Nat))) none none b10 b11 none none b14) [tS T', tS (ren T')] := by
  have g0 : [tS T, tS (ren T)][0]? = some (tS T) := rfl
  have w0 := w__law_drawn (N := N) (by omega) num i [tS T, tS (ren T)]
  have d4 := oDiv (i := drawZ num i) (j := 4) (by decide) (by decide)
  have pl := h.one.len
  have pl2 := h.two.len
  generalize drawZ num i / 4 = z at *
  have r3 := oMod (i := z) (j := 3) (by decide)
  have r7 := oMod (i := z) (j := 7) (by decide)
  have d3 := oDiv (i := z) (j := 3) (by decide) (by decide)
  have q4 := oMod (i := z / 3) (j := 4) (by decide)
  have mo := hasT g0 (m := "offered") (by decide +kernel)
  have mg := hasT g0 (m := "going") (by decide +kernel)
  have mt := hasT g0 (m := "take") (by decide +kernel)
  have mu := hasT g0 (m := "give_up") (by decide +kernel)
  have md := hasT g0 (m := "deed") (by decide +kernel)
  have w1 := w_offered (N := N) (by omega) g0 h.one.ok
  have w2 := w_going (N := N) (by omega) g0 h.one.ok
  have ne := ne_nil (nDs_ok T.offered) (by decide)
  have ng := ne_nil (goD_ok h.one.ok) (by decide)
  by_cases c3 : z % 3 = 0 ∧ T.offered ≠ []
  · obtain ⟨c3, o0⟩ := c3
    have lp : 0 < T.offered.length := List.length_pos_iff.mpr o0
    have rl := oMod (i := z / 3) (j := (T.offered.length : Int)) (by omega)
    have j0 := Int.emod_nonneg (z / 3) (b := (T.offered.length : Int)) (by omega)
    have j1 := Int.emod_lt_of_pos (z / 3) (b := (T.offered.length : Int)) (by omega)
    generalize z / 3 % (T.offered.length : Int) = j at *
    have hj : j.toNat < T.offered.length := by omega
    have ix : atI (T.offered.map nD) j = some (nD (T.offered[j.toNat]'hj)) := atI_nat j0 (by rw [List.getElem?_map, List.getElem?_eq_getElem hj]; rfl)
    have hm : T.offered[j.toNat]'hj ∈ T.offered := List.getElem_mem _
    generalize T.offered[j.toNat]'hj = m at *
    obtain ⟨t1, t2, t3⟩ := h.take hm
    have nx := names_ix (h.nb.nm m (off_book hm).1)
    have wt := w_take (N := N) (by omega) g0 h.one.ok hm (by omega)
    have wt : TL.run Pg N 14 [.ref 0, .str m] [tS T, tS (ren T)] = .ok .non [tS (T.take m), tS (ren T)] := wt
    have g1 : [tS (T.take m), tS (ren T)][1]? = some (tS (ren T)) := rfl
    have mt1 := hasT g1 (m := "take") (by decide +kernel)
    have wt1 := w_take (N := N) (by omega) g1 h.two.ok t2 (by omega)
    have wt1 : TL.run Pg N 14 [.ref 1, .str (ro m)] [tS (T.take m), tS (ren T)] = .ok .non [tS (T.take m), tS (ren (T.take m))] := by rw [t3]; exact wt1
    have ne : dNe (.tup (T.offered.map nD)) (.tup []) = some (.bl true) := by
      rw [ne]
      simp [o0]
    refine ⟨T.take m, some (.int z), some (nD m), a14, t1, ?_⟩
    simp [HEAD, EV, w0, d4, r3, c3, mo, w1, ne, d3, rl, ix, mt, wt, nx, mt1, wt1]
  · have skip : ∀ (P : Prop), (z % 3 = 0 → T.offered = [] → P) → (¬ z % 3 = 0 → P) → P := fun P f g => by
      by_cases c : z % 3 = 0
      · exact f c (Classical.byContradiction fun q => c3 ⟨c, q⟩)
      · exact g c
    by_cases c7 : z % 7 = 0 ∧ goD T ≠ []
    · obtain ⟨c7, n0⟩ := c7
      obtain ⟨e, r, he⟩ : ∃ e r, sortE T.cur = e :: r := by
        cases q : sortE T.cur with
        | nil => exact absurd (by unfold goD; rw [q]; rfl) n0
        | cons e r => exact ⟨e, r, rfl⟩
      have gd : goD T = .tup [.str (Str.ofString e.1), e.2] :: r.map (fun e => .tup [.str (Str.ofString e.1), e.2]) := by unfold goD; rw [he]; rfl
      have hm : e.1 ∈ T.cur.map (·.1) := List.mem_map.mpr ⟨e, (sortE_perm T.cur).mem_iff.mp (by rw [he]; exact List.mem_cons_self), rfl⟩
      obtain ⟨d, hd⟩ := lookup_some hm
      obtain ⟨t1, t2, t3⟩ := h.give hd
      have nx := names_ix (h.nb.cur e.1 hm)
      have wu := w_give (N := N) (by omega) g0 h.one.ok hd (by omega)
      have wu : TL.run Pg N 15 [.ref 0, .str e.1] [tS T, tS (ren T)] = .ok .non [tS (T.give e.1), tS (ren T)] := wu
      have g1 : [tS (T.give e.1), tS (ren T)][1]? = some (tS (ren T)) := rfl
      have mu1 := hasT g1 (m := "give_up") (by decide +kernel)
      have wu1 := w_give (N := N) (by omega) g1 h.two.ok t2 (by omega)
      have wu1 : TL.run Pg N 15 [.ref 1, .str (ro e.1)] [tS (T.give e.1), tS (ren T)] = .ok .non [tS (T.give e.1), tS (ren (T.give e.1))] := by rw [t3]; exact wu1
      refine ⟨T.give e.1, some (.int z), some (nD e.1), a14, t1, ?_⟩
      rw [gd] at ng w2
      simp at ng
      refine skip _ (fun c o0 => ?_) fun c => ?_
      · rw [o0] at w1 ne
        simp at w1 ne
        simp [HEAD, EV, w0, d4, r3, c, mo, w1, ne, r7, c7, mg, w2, ng, mu, wu, nx, mu1, wu1]
      · simp [HEAD, EV, w0, d4, r3, c, r7, c7, mg, w2, ng, mu, wu, nx, mu1, wu1]
    · obtain ⟨a, ha⟩ := letter4 (z / 3)
      obtain ⟨t1, t3⟩ := h.deed a
      have wd := w_deed (N := N) (a := a) (by decide) (by omega) g0 h.one.ok (by omega)
      have wd : TL.run Pg N 16 [.ref 0, .str a] [tS T, tS (ren T)] = .ok .non [tS (T.deed 3 a), tS (ren T)] := wd
      have g1 : [tS (T.deed 3 a), tS (ren T)][1]? = some (tS (ren T)) := rfl
      have md1 := hasT g1 (m := "deed") (by decide +kernel)
      have wd1 := w_deed (N := N) (a := a) (by decide) (by omega) g1 h.two.ok (by omega)
      have wd1 : TL.run Pg N 16 [.ref 1, .str a] [tS (T.deed 3 a), tS (ren T)] = .ok .non [tS (T.deed 3 a), tS (ren (T.deed 3 a))] := by rw [t3]; exact wd1
      refine ⟨T.deed 3 a, some (.int z), a11, some (nD a), t1, ?_⟩
      refine skip _ (fun c o0 => ?_) fun c => ?_
      · rw [o0] at w1 ne
        simp at w1 ne
        by_cases c7' : z % 7 = 0
        · have n0 : goD T = [] := Classical.byContradiction fun q => c7 ⟨c7', q⟩
          rw [n0] at ng w2
          simp at ng
          simp [HEAD, EV, w0, d4, r3, c, mo, w1, ne, r7, c7', mg, w2, ng, d3, q4, ha, md, wd, md1, wd1]
        · simp [HEAD, EV, w0, d4, r3, c, mo, w1, ne, r7, c7', d3, q4, ha, md, wd, md1, wd1]
      · by_cases c7' : z % 7 = 0
        · have n0 : goD T = [] := Classical.byContradiction fun q => c7 ⟨c7', q⟩
          rw [n0] at ng w2
          simp at ng
          simp [HEAD, EV, w0, d4, r3, c, r7, c7', mg, w2, ng, d3, q4, ha, md, wd, md1, wd1]
        · simp [HEAD, EV, w0, d4, r3, c, r7, c7', d3, q4, ha, md, wd, md1, wd1]
theorem law_holds : ∀ ns : List Int, ns.length ≤ 63 → ∃ st', TL.run (Ts.map (·.code)) lawN 11 [.fls (ns.map .int)] [] = .ok (.bl true) st' := by
  intro ns hl
  show ∃ st', TL.run Pg 60 11 _ _ = _
  rw [run_c (n := 59) (F := c_law) rfl rfl]
  have m0 := w__law_mixed (N := 59) (by decide) ns 0 []
  obtain ⟨B, bo, bne, bn, wb⟩ := w__law_book' (N := 59) (by decide) (mixZ ns 0) []
  have bo' := bo.ren bn
  have inner : ∀ (x1 x2 x3 x4 x5 x6 x7 x8 x9 x10 x11 x12 x13 x14 x15 x16 : Option TL.D) (ws : List String), InN ws → lcE (TL.run Pg 59) (.o2 .ix (.var 2) (.var 17)) (.nm 17) [17] [] (ws.map nD) [x1, x2, some (.dic namesKV), x3, x4, x5, x6, x7, x8, x9, x10, x11, x12, x13, x14, x15, x16, none] [] = .ok (ws.map fun w => nD (ro w)) [] := fun x1 x2 x3 x4 x5 x6 x7 x8 x9 x10 x11 x12 x13 x14 x15 x16 ws hw => lcE_la fun w h => by
    have ix := names_ix (hw w h)
    exact ⟨_, by simp; rfl, by simp, by simp [ix], rfl⟩
  have led := lcE_la (C := TL.run Pg 59) (ρ := [some (.fls (ns.map .int)), some (.tup (B.map Row.d)), some (.dic namesKV), none, none, none, none, none, none, none, none, none, none, none, none, none, none, none]) (st := []) (elt := .tup [.o2 .ix (.var 2) (.var 11), .o1 .tuple (.lc (.o2 .ix (.var 2) (.var 17)) (.nm 17) .tup [.var 12] [] [17]), .var 13]) (tg := .tp [11, 12, 13]) (own := [11, 12, 13]) (cond := []) (f := Row.d) (g := fun r => Row.d (rRow r)) (xs := B) fun r hr => by
    have ix := names_ix (bn r.name (List.mem_map.mpr ⟨r, hr, rfl⟩))
    have iw := fun x1 x2 x3 x4 x5 x6 x7 x8 x9 x10 x11 x12 x13 x14 x15 x16 => inner x1 x2 x3 x4 x5 x6 x7 x8 x9 x10 x11 x12 x13 x14 x15 x16 r.wants fun w hw => bn w ((bo.wants r hr).2 w hw)
    have tO := (bo.good r hr).ok.own
    exact ⟨_, by simp [Row.d]; rfl, by simp, by simp [ix, iw, tO, Row.d, rRow, Function.comp_def], rfl⟩
  have eled : (B.map fun r => Row.d (rRow r)) = ledD B := by unfold ledD; rw [List.map_map]; rfl
  rw [eled] at led
  have i1 := w_initT (N := 59) (by decide) bo []
  have i2 : TL.run Pg 59 12 [.ref 1, .tup (ledD B)] [tS (newT B), .ins "Tale" []] = .ok .non [tS (newT B), tS (newT (B.map rRow))] := w_initT (N := 59) (by decide) bo' [tS (newT B)]
  have m1 := w__law_mixed (N := 59) (by decide) ns 1 [tS (newT B), tS (newT (B.map rRow))]
  have r20 := oMod (i := mixZ ns 1) (j := 20) (by decide)
  have q0 := Int.emod_nonneg (mixZ ns 1) (b := 20) (by decide)
  have q1 := Int.emod_lt_of_pos (mixZ ns 1) (b := 20) (by decide)
  have it := itRng (k := mixZ ns 1 % 20) q0 (by omega)
  generalize hkk : mixZ ns 1 % 20 = kk at *
  have tw0 : Two B 0 (newT B) := ⟨⟨bo.new, bn, fun r hr => (nomatch hr)⟩, Pld.new bo, by rw [ren_new]; exact Pld.new bo'⟩
  obtain ⟨ρ', st', lo, T, a5, a10, a11, a14, tw, rfl, rfl⟩ := forE_I (C := TL.run Pg 59) (tg := .nm 5) (body := HEAD ++ TAIL)
    (I := fun k ρ s => ∃ (T : Tal) (a5 a10 a11 a14 : Option TL.D), Two B k T ∧ s = [tS T, tS (ren T)] ∧ ρ = EV ns B (mixZ ns 1) a5 none none a10 a11 none none a14)
    ((List.range kk.toNat).map fun (i : Nat) => .int (i : Int)) 0 (EV ns B (mixZ ns 1) none none none none none none none none) [tS (newT B), tS (newT (B.map rRow))] ⟨newT B, none, none, none, none, tw0, by rw [ren_new], rfl⟩ (by
      rintro i x ρ s hx ⟨T, a5, a10, a11, a14, tw, rfl, rfl⟩
      have hi : i < kk.toNat := by
        have := (List.getElem?_eq_some_iff.mp hx).1
        simpa using this
      have ex : x = .int (i : Int) := by
        rw [List.getElem?_map, List.getElem?_range hi] at hx
        exact (Option.some.inj hx).symm
      subst ex
      obtain ⟨T', b10, b11, b14, tw', e⟩ := head_one (N := 59) (by decide) (ns := ns) (num := mixZ ns 1) (i := i) (by omega) tw a10 a11 a14
      refine ⟨EV ns B (mixZ ns 1) (some (.int (i : Nat))) none none a10 a11 none none a14, _, _, by simp [EV], ?_, T', some (.int (i : Nat)), b10, b11, b14, tw', rfl, rfl⟩
      rw [execs_app, e, seq_nx, tail_ok (by decide) tw'])
  rw [Nat.zero_add, List.length_map, List.length_range] at tw
  have kl : kk.toNat ≤ 20 := by omega
  generalize kk.toNat = k at *
  have pl := tw.one.len
  have pl2 := tw.two.len
  have g0 : [tS T, tS (ren T)][0]? = some (tS T) := rfl
  have g1 : [tS T, tS (ren T)][1]? = some (tS (ren T)) := rfl
  have mc0 := hasT g0 (m := "counts") (by decide +kernel)
  have mc1 := hasT g1 (m := "counts") (by decide +kernel)
  have mr0 := hasT g0 (m := "rows") (by decide +kernel)
  have mr1 := hasT g1 (m := "rows") (by decide +kernel)
  have mg1 := hasT g1 (m := "going") (by decide +kernel)
  have mo1 := hasT g1 (m := "offered") (by decide +kernel)
  obtain ⟨ρ2, st2, lo2, rfl, c11, c12, c13, rfl⟩ := forE_I (C := TL.run Pg 59) (tg := .tp [11, 12, 13]) (body := [.ifs (.o2 .ne (.meth 18 "Tale" "counts" (.var 9) [.o2 .ix (.var 2) (.var 11)]) (.meth 18 "Tale" "counts" (.var 8) [.var 11])) [.ret (.con (.bl false))] []])
    (I := fun _ ρ s => s = [tS T, tS (ren T)] ∧ ∃ a11 a12 a13 : Option TL.D, ρ = EV ns B (mixZ ns 1) a5 none none a10 a11 a12 a13 a14)
    (B.map Row.d) 0 (EV ns B (mixZ ns 1) a5 none none a10 a11 none none a14) [tS T, tS (ren T)] ⟨rfl, a11, none, none, rfl⟩ (by
      rintro i x ρ s hx ⟨rfl, a11, a12, a13, rfl⟩
      obtain ⟨r, hr, rfl⟩ : ∃ r ∈ B, x = Row.d r := by
        obtain ⟨r, hr, e⟩ := List.mem_map.mp (List.mem_of_getElem? hx)
        exact ⟨r, hr, e.symm⟩
      have hb : r.name ∈ B.map Row.name := List.mem_map.mpr ⟨r, hr, rfl⟩
      have hn := bn _ hb
      have ix := names_ix hn
      have w0 := w_counts (N := 59) (by decide) g0 tw.one.ok (m := r.name) (by rw [tw.one.bk]; exact hb)
      have w1 := w_counts (N := 59) (by decide) g1 tw.two.ok (m := ro r.name) (by rw [tw.two.bk, List.map_map]; exact List.mem_map.mpr ⟨r, hr, rfl⟩)
      rw [ren_cnt tw.nb hn] at w1
      have ne := ne_self (n := 0) (ds := (T.cnt r.name).l) (fun d hd => by
        unfold Cnt.l at hd
        simp at hd
        rcases hd with rfl | rfl | rfl <;> exact okD_int 0 _) (by decide)
      have tO := (bo.good r hr).ok.own
      exact ⟨EV ns B (mixZ ns 1) a5 none none a10 (some (.str r.name)) (some (.tup (r.wants.map nD))) (some r.task) a14, EV ns B (mixZ ns 1) a5 none none a10 (some (.str r.name)) (some (.tup (r.wants.map nD))) (some r.task) a14, [tS T, tS (ren T)], by simp [EV, Row.d], by simp [EV, mc1, mc0, ix, w0, w1, ne], rfl, some (.str r.name), some (.tup (r.wants.map nD)), some r.task, rfl⟩)
  have w0 := w_rows (N := 59) (by decide) g0 (by omega)
  have w1 := w_rows (N := 59) (by decide) g1 (by omega)
  have lr := lcE_la (C := TL.run Pg 59) (ρ := EV ns B (mixZ ns 1) a5 none none a10 c11 c12 c13 a14) (st := [tS T, tS (ren T)]) (elt := .ife (.o2 .eq (.var 15) (.con (.str "deed"))) (.tup [.var 15, .var 16]) (.tup [.var 15, .o2 .ix (.var 2) (.var 16)])) (tg := .tp [15, 16]) (own := [15, 16]) (cond := []) (f := logD) (g := fun r => logD (rl r)) (xs := T.log) fun r hr => by
    by_cases c : r.1 = "deed"
    · have e : rl r = r := if_pos c
      exact ⟨_, by simp [EV, logD]; rfl, by simp, by simp [dEqs, c, e, logD], rfl⟩
    · have e : rl r = (r.1, ro r.2) := if_neg c
      have ix := names_ix ((tw.nb.lg r hr).resolve_left c)
      exact ⟨_, by simp [EV, logD]; rfl, by simp, by simp [dEqs, c, e, logD, ix], rfl⟩
  have el : (ren T).log.map logD = T.log.map fun r => logD (rl r) := by
    show (T.log.map rl).map logD = _
    rw [List.map_map]
    rfl
  have nl := ne_self (log_ok (ren T).log) (by decide)
  have ta := w_told_again (N := 59) (n := 3) (by decide) (by decide) bo' tw.two.val (by omega) [tS T, tS (ren T)]
  rw [tw.two.rep] at ta
  have ta : TL.run Pg 59 5 [.tup (ledD B), .tup ((ren T).log.map logD)] [tS T, tS (ren T)] = .ok (.ref 2) [tS T, tS (ren T), tS (ren T)] := ta
  have k1 : [tS T, tS (ren T), tS (ren T)][1]? = some (tS (ren T)) := rfl
  have k2 : [tS T, tS (ren T), tS (ren T)][2]? = some (tS (ren T)) := rfl
  have mg1' := hasT k1 (m := "going") (by decide +kernel)
  have mo1' := hasT k1 (m := "offered") (by decide +kernel)
  have mg2 := hasT k2 (m := "going") (by decide +kernel)
  have mo2 := hasT k2 (m := "offered") (by decide +kernel)
  have mr2 := hasT k2 (m := "rows") (by decide +kernel)
  have wg1 := w_going (N := 59) (by decide) k1 tw.two.ok
  have wo1 := w_offered (N := 59) (by decide) k1 tw.two.ok
  have wg2 := w_going (N := 59) (by decide) k2 tw.two.ok
  have wo2 := w_offered (N := 59) (by decide) k2 tw.two.ok
  have wr2 := w_rows (N := 59) (by decide) k2 (by omega)
  rw [el] at w1 nl ta wr2
  have all3 : okD 10 (.tup [.tup (goD (ren T)), .tup ((ren T).offered.map nD), .tup (T.log.map fun r => logD (rl r))]) := okD_tup (n := 9) fun d hd => by
    simp at hd
    rcases hd with rfl | rfl | rfl
    · exact (okD_tup (goD_ok tw.two.ok)).mono (by decide)
    · exact (okD_tup (nDs_ok _)).mono (by decide)
    · rw [← el]
      exact (okD_tup (log_ok _)).mono (by decide)
  have ee := dEq_ok all3 all3 (by decide) (by decide)
  rw [all3.eqv_refl] at ee
  generalize goD (ren T) = G at *
  generalize (ren T).offered.map nD = O at *
  generalize (T.log.map fun r => logD (rl r)) = L at *
  refine ⟨[tS T, tS (ren T), tS (ren T)], ?_⟩
  simp at m0 m1 i1
  simp only [EV] at lo lo2 lr
  have dz := dz_names
  simp [c_law, enter, m0, wb, dz, led, i1, i2, m1, r20, hkk, it]
  simp [HEAD, TAIL] at lo
  simp [lo, lo2, mr0, mr1, w0, w1, lr, nl, ta, mg1', mo1', mg2, mo2, mr2, wg1, wo1, wg2, wo2, wr2, ee]

end TP

namespace TP
open PySem L2 TL
theorem all_mk {l : PySem.W.OpenLaw} {w : World} {K : PySem.W.Frag} {h : Heap} {mg : Str → Option Value} {f0 f1 f2 f3 f4 f5 f6 f7 f8 f9 f10 f11 f12 f13 f14 f15 f16 f17 f18 f19 C x0 x1 x2 : Addr} (X : K.In h) (G : h.Ns mainGlobals mg)
  {od0 an0 : Option Addr} {sl0 : Array (Option Value)} {oc0 kV0 dc0 pm0 cd0 ct0 : Value}
  {od1 an1 : Option Addr} {sl1 : Array (Option Value)} {oc1 kV1 dc1 pm1 cd1 ct1 : Value}
  {od2 an2 : Option Addr} {sl2 : Array (Option Value)} {oc2 kV2 dc2 pm2 cd2 ct2 : Value}
  {od3 an3 : Option Addr} {sl3 : Array (Option Value)} {oc3 kV3 dc3 pm3 cd3 ct3 : Value}
  {od4 an4 : Option Addr} {sl4 : Array (Option Value)} {oc4 kV4 dc4 pm4 cd4 ct4 : Value}
  {od5 an5 : Option Addr} {sl5 : Array (Option Value)} {oc5 kV5 dc5 pm5 cd5 ct5 : Value}
  {od6 an6 : Option Addr} {sl6 : Array (Option Value)} {oc6 kV6 dc6 pm6 cd6 ct6 : Value}
  {od7 an7 : Option Addr} {sl7 : Array (Option Value)} {oc7 kV7 dc7 pm7 cd7 ct7 : Value}
  {od8 an8 : Option Addr} {sl8 : Array (Option Value)} {oc8 kV8 dc8 pm8 cd8 ct8 : Value}
  {od9 an9 : Option Addr} {sl9 : Array (Option Value)} {oc9 kV9 dc9 pm9 cd9 ct9 : Value}
  {od10 an10 : Option Addr} {sl10 : Array (Option Value)} {oc10 kV10 dc10 pm10 cd10 ct10 : Value}
  {od11 an11 : Option Addr} {sl11 : Array (Option Value)} {oc11 kV11 dc11 pm11 cd11 ct11 : Value}
  {od12 an12 : Option Addr} {sl12 : Array (Option Value)} {oc12 kV12 dc12 pm12 cd12 ct12 : Value}
  {od13 an13 : Option Addr} {sl13 : Array (Option Value)} {oc13 kV13 dc13 pm13 cd13 ct13 : Value}
  {od14 an14 : Option Addr} {sl14 : Array (Option Value)} {oc14 kV14 dc14 pm14 cd14 ct14 : Value}
  {od15 an15 : Option Addr} {sl15 : Array (Option Value)} {oc15 kV15 dc15 pm15 cd15 ct15 : Value}
  {od16 an16 : Option Addr} {sl16 : Array (Option Value)} {oc16 kV16 dc16 pm16 cd16 ct16 : Value}
  {od17 an17 : Option Addr} {sl17 : Array (Option Value)} {oc17 kV17 dc17 pm17 cd17 ct17 : Value}
  {od18 an18 : Option Addr} {sl18 : Array (Option Value)} {oc18 kV18 dc18 pm18 cd18 ct18 : Value}
  {od19 an19 : Option Addr} {sl19 : Array (Option Value)} {oc19 kV19 dc19 pm19 cd19 ct19 : Value}
  (aC : PySem.W.nsIn K mainGlobals "Tale" = some (some (.ref C)))
  (ax0 : PySem.W.nsIn K mainGlobals "TaleError" = some (some (.ref x0)))
  (ax1 : PySem.W.nsIn K mainGlobals "NotOffered" = some (some (.ref x1)))
  (ax2 : PySem.W.nsIn K mainGlobals "NotGoing" = some (some (.ref x2)))
  (a0 : PySem.W.nsIn K mainGlobals "is_over" = some (some (.ref f0)))
  (l0 : K.lookup f0 = some ⟨oc0, od0, .func (PySem.W.fnOf "is_over" "is_over" (defArgs (top 7)) (defBody (top 7)) (defScope (top 7)) .none kV0 dc0 pm0 an0 cd0 ct0), sl0⟩) (c0 : PySem.W.codeIn K cd0 "is_over" = true) (k0 : PySem.W.keepIn K (.ref f0) = true)
  (a1 : PySem.W.nsIn K mainGlobals "grouped" = some (some (.ref f1)))
  (l1 : K.lookup f1 = some ⟨oc1, od1, .func (PySem.W.fnOf "grouped" "grouped" (defArgs (top 8)) (defBody (top 8)) (defScope (top 8)) .none kV1 dc1 pm1 an1 cd1 ct1), sl1⟩) (c1 : PySem.W.codeIn K cd1 "grouped" = true) (k1 : PySem.W.keepIn K (.ref f1) = true)
  (a2 : PySem.W.nsIn K mainGlobals "group_behind" = some (some (.ref f2)))
  (l2 : K.lookup f2 = some ⟨oc2, od2, .func (PySem.W.fnOf "group_behind" "group_behind" (defArgs (top 9)) (defBody (top 9)) (defScope (top 9)) .none kV2 dc2 pm2 an2 cd2 ct2), sl2⟩) (c2 : PySem.W.codeIn K cd2 "group_behind" = true) (k2 : PySem.W.keepIn K (.ref f2) = true)
  (a3 : PySem.W.nsIn K mainGlobals "then_behind" = some (some (.ref f3)))
  (l3 : K.lookup f3 = some ⟨oc3, od3, .func (PySem.W.fnOf "then_behind" "then_behind" (defArgs (top 10)) (defBody (top 10)) (defScope (top 10)) .none kV3 dc3 pm3 an3 cd3 ct3), sl3⟩) (c3 : PySem.W.codeIn K cd3 "then_behind" = true) (k3 : PySem.W.keepIn K (.ref f3) = true)
  (a4 : PySem.W.nsIn K mainGlobals "behind" = some (some (.ref f4)))
  (l4 : K.lookup f4 = some ⟨oc4, od4, .func (PySem.W.fnOf "behind" "behind" (defArgs (top 11)) (defBody (top 11)) (defScope (top 11)) .none kV4 dc4 pm4 an4 cd4 ct4), sl4⟩) (c4 : PySem.W.codeIn K cd4 "behind" = true) (k4 : PySem.W.keepIn K (.ref f4) = true)
  (a5 : PySem.W.nsIn K mainGlobals "told_again" = some (some (.ref f5)))
  (l5 : K.lookup f5 = some ⟨oc5, od5, .func (PySem.W.fnOf "told_again" "told_again" (defArgs (top 14)) (defBody (top 14)) (defScope (top 14)) .none kV5 dc5 pm5 an5 cd5 ct5), sl5⟩) (c5 : PySem.W.codeIn K cd5 "told_again" = true) (k5 : PySem.W.keepIn K (.ref f5) = true)
  (a6 : PySem.W.nsIn K mainGlobals "_law_cell_at" = some (some (.ref f6)))
  (l6 : K.lookup f6 = some ⟨oc6, od6, .func (PySem.W.fnOf "_law_cell_at" "_law_cell_at" (defArgs (top 16)) (defBody (top 16)) (defScope (top 16)) .none kV6 dc6 pm6 an6 cd6 ct6), sl6⟩) (c6 : PySem.W.codeIn K cd6 "_law_cell_at" = true) (k6 : PySem.W.keepIn K (.ref f6) = true)
  (a7 : PySem.W.nsIn K mainGlobals "_law_mixed" = some (some (.ref f7)))
  (l7 : K.lookup f7 = some ⟨oc7, od7, .func (PySem.W.fnOf "_law_mixed" "_law_mixed" (defArgs (top 17)) (defBody (top 17)) (defScope (top 17)) .none kV7 dc7 pm7 an7 cd7 ct7), sl7⟩) (c7 : PySem.W.codeIn K cd7 "_law_mixed" = true) (k7 : PySem.W.keepIn K (.ref f7) = true)
  (a8 : PySem.W.nsIn K mainGlobals "_law_drawn" = some (some (.ref f8)))
  (l8 : K.lookup f8 = some ⟨oc8, od8, .func (PySem.W.fnOf "_law_drawn" "_law_drawn" (defArgs (top 18)) (defBody (top 18)) (defScope (top 18)) .none kV8 dc8 pm8 an8 cd8 ct8), sl8⟩) (c8 : PySem.W.codeIn K cd8 "_law_drawn" = true) (k8 : PySem.W.keepIn K (.ref f8) = true)
  (a9 : PySem.W.nsIn K mainGlobals "_law_task" = some (some (.ref f9)))
  (l9 : K.lookup f9 = some ⟨oc9, od9, .func (PySem.W.fnOf "_law_task" "_law_task" (defArgs (top 19)) (defBody (top 19)) (defScope (top 19)) .none kV9 dc9 pm9 an9 cd9 ct9), sl9⟩) (c9 : PySem.W.codeIn K cd9 "_law_task" = true) (k9 : PySem.W.keepIn K (.ref f9) = true)
  (a10 : PySem.W.nsIn K mainGlobals "_law_book" = some (some (.ref f10)))
  (l10 : K.lookup f10 = some ⟨oc10, od10, .func (PySem.W.fnOf "_law_book" "_law_book" (defArgs (top 20)) (defBody (top 20)) (defScope (top 20)) .none kV10 dc10 pm10 an10 cd10 ct10), sl10⟩) (c10 : PySem.W.codeIn K cd10 "_law_book" = true) (k10 : PySem.W.keepIn K (.ref f10) = true)
  (a11 : PySem.W.nsIn K mainGlobals "law" = some (some (.ref f11)))
  (l11 : K.lookup f11 = some ⟨oc11, od11, .func (PySem.W.fnOf "law" "law" (defArgs (top 21)) (defBody (top 21)) (defScope (top 21)) .none kV11 dc11 pm11 an11 cd11 ct11), sl11⟩) (c11 : PySem.W.codeIn K cd11 "law" = true) (k11 : PySem.W.keepIn K (.ref f11) = true)
  (a12 : PySem.W.findIn K (.ref C) "__init__" = some (some (.ref f12))) (i12 : PySem.W.isFn K (.ref f12) = true)
  (l12 : K.lookup f12 = some ⟨oc12, od12, .func (PySem.W.fnOf "__init__" "Tale.__init__" (defArgs (inClass (top 13) 0)) (defBody (inClass (top 13) 0)) (defScope (inClass (top 13) 0)) .none kV12 dc12 pm12 an12 cd12 ct12), sl12⟩) (c12 : PySem.W.codeIn K cd12 "Tale.__init__" = true) (k12 : PySem.W.keepIn K (.ref f12) = true)
  (a13 : PySem.W.findIn K (.ref C) "offered" = some (some (.ref f13))) (i13 : PySem.W.isFn K (.ref f13) = true)
  (l13 : K.lookup f13 = some ⟨oc13, od13, .func (PySem.W.fnOf "offered" "Tale.offered" (defArgs (inClass (top 13) 1)) (defBody (inClass (top 13) 1)) (defScope (inClass (top 13) 1)) .none kV13 dc13 pm13 an13 cd13 ct13), sl13⟩) (c13 : PySem.W.codeIn K cd13 "Tale.offered" = true) (k13 : PySem.W.keepIn K (.ref f13) = true)
  (a14 : PySem.W.findIn K (.ref C) "take" = some (some (.ref f14))) (i14 : PySem.W.isFn K (.ref f14) = true)
  (l14 : K.lookup f14 = some ⟨oc14, od14, .func (PySem.W.fnOf "take" "Tale.take" (defArgs (inClass (top 13) 2)) (defBody (inClass (top 13) 2)) (defScope (inClass (top 13) 2)) .none kV14 dc14 pm14 an14 cd14 ct14), sl14⟩) (c14 : PySem.W.codeIn K cd14 "Tale.take" = true) (k14 : PySem.W.keepIn K (.ref f14) = true)
  (a15 : PySem.W.findIn K (.ref C) "give_up" = some (some (.ref f15))) (i15 : PySem.W.isFn K (.ref f15) = true)
  (l15 : K.lookup f15 = some ⟨oc15, od15, .func (PySem.W.fnOf "give_up" "Tale.give_up" (defArgs (inClass (top 13) 3)) (defBody (inClass (top 13) 3)) (defScope (inClass (top 13) 3)) .none kV15 dc15 pm15 an15 cd15 ct15), sl15⟩) (c15 : PySem.W.codeIn K cd15 "Tale.give_up" = true) (k15 : PySem.W.keepIn K (.ref f15) = true)
  (a16 : PySem.W.findIn K (.ref C) "deed" = some (some (.ref f16))) (i16 : PySem.W.isFn K (.ref f16) = true)
  (l16 : K.lookup f16 = some ⟨oc16, od16, .func (PySem.W.fnOf "deed" "Tale.deed" (defArgs (inClass (top 13) 4)) (defBody (inClass (top 13) 4)) (defScope (inClass (top 13) 4)) .none kV16 dc16 pm16 an16 cd16 ct16), sl16⟩) (c16 : PySem.W.codeIn K cd16 "Tale.deed" = true) (k16 : PySem.W.keepIn K (.ref f16) = true)
  (a17 : PySem.W.findIn K (.ref C) "going" = some (some (.ref f17))) (i17 : PySem.W.isFn K (.ref f17) = true)
  (l17 : K.lookup f17 = some ⟨oc17, od17, .func (PySem.W.fnOf "going" "Tale.going" (defArgs (inClass (top 13) 5)) (defBody (inClass (top 13) 5)) (defScope (inClass (top 13) 5)) .none kV17 dc17 pm17 an17 cd17 ct17), sl17⟩) (c17 : PySem.W.codeIn K cd17 "Tale.going" = true) (k17 : PySem.W.keepIn K (.ref f17) = true)
  (a18 : PySem.W.findIn K (.ref C) "counts" = some (some (.ref f18))) (i18 : PySem.W.isFn K (.ref f18) = true)
  (l18 : K.lookup f18 = some ⟨oc18, od18, .func (PySem.W.fnOf "counts" "Tale.counts" (defArgs (inClass (top 13) 6)) (defBody (inClass (top 13) 6)) (defScope (inClass (top 13) 6)) .none kV18 dc18 pm18 an18 cd18 ct18), sl18⟩) (c18 : PySem.W.codeIn K cd18 "Tale.counts" = true) (k18 : PySem.W.keepIn K (.ref f18) = true)
  (a19 : PySem.W.findIn K (.ref C) "rows" = some (some (.ref f19))) (i19 : PySem.W.isFn K (.ref f19) = true)
  (l19 : K.lookup f19 = some ⟨oc19, od19, .func (PySem.W.fnOf "rows" "Tale.rows" (defArgs (inClass (top 13) 7)) (defBody (inClass (top 13) 7)) (defScope (inClass (top 13) 7)) .none kV19 dc19 pm19 an19 cd19 ct19), sl19⟩) (c19 : PySem.W.codeIn K cd19 "Tale.rows" = true) (k19 : PySem.W.keepIn K (.ref f19) = true)
  (pg : PySem.W.plainGet K C Str.empty = true) (hd : PySem.W.hasDictIn K C = true) (po : PySem.W.plainOver K C = true) (sa : PySem.W.findIn K (.ref C) "__setattr__" = some (some (.builtin "object.__setattr__"))) (mk : PySem.W.makesIn K C = true) (kc : PySem.W.keepIn K (.ref C) = true)
  (nf0 : PySem.W.findIn K (.ref C) "book" = some none)
  (nf1 : PySem.W.findIn K (.ref C) "current" = some none)
  (nf2 : PySem.W.findIn K (.ref C) "numbers" = some none)
  (nf3 : PySem.W.findIn K (.ref C) "log" = some none)
  (xx0 : PySem.W.excIn K x0 [.type "ValueError", .type "Exception", .type "BaseException", .type "object"] "ValueError.__new__" = true) (kx0 : PySem.W.keepIn K (.ref x0) = true) (bx0 : PySem.W.subIn K (.ref x0) (.type "BaseException") = some true) (tx0 : PySem.W.typeIn K (.ref x0) = some (.type "type")) (ix0 : PySem.W.isClsIn K x0 = true)
  (xx1 : PySem.W.excIn K x1 [.type "ValueError", .type "Exception", .type "BaseException", .type "object"] "ValueError.__new__" = true) (kx1 : PySem.W.keepIn K (.ref x1) = true) (bx1 : PySem.W.subIn K (.ref x1) (.type "BaseException") = some true) (tx1 : PySem.W.typeIn K (.ref x1) = some (.type "type")) (ix1 : PySem.W.isClsIn K x1 = true)
  (xx2 : PySem.W.excIn K x2 [.type "ValueError", .type "Exception", .type "BaseException", .type "object"] "ValueError.__new__" = true) (kx2 : PySem.W.keepIn K (.ref x2) = true) (bx2 : PySem.W.subIn K (.ref x2) (.type "BaseException") = some true) (tx2 : PySem.W.typeIn K (.ref x2) = some (.type "type")) (ix2 : PySem.W.isClsIn K x2 = true)
  {tk0 : Tok} (q0 : PySem.W.nsIn K mainGlobals "DONE" = some (some (.str "done" tk0)))
  {tk1 : Tok} (q1 : PySem.W.nsIn K mainGlobals "FAILED" = some (some (.str "failed" tk1)))
  (z0 : PySem.W.nsIn K mainGlobals "all" = some none)
  (z1 : PySem.W.nsIn K mainGlobals "dict" = some none)
  (z2 : PySem.W.nsIn K mainGlobals "enumerate" = some none)
  (z3 : PySem.W.nsIn K mainGlobals "int" = some none)
  (z4 : PySem.W.nsIn K mainGlobals "isinstance" = some none)
  (z5 : PySem.W.nsIn K mainGlobals "len" = some none)
  (z6 : PySem.W.nsIn K mainGlobals "list" = some none)
  (z7 : PySem.W.nsIn K mainGlobals "max" = some none)
  (z8 : PySem.W.nsIn K mainGlobals "range" = some none)
  (z9 : PySem.W.nsIn K mainGlobals "sorted" = some none)
  (z10 : PySem.W.nsIn K mainGlobals "str" = some none)
  (z11 : PySem.W.nsIn K mainGlobals "tuple" = some none)
  (z12 : PySem.W.nsIn K mainGlobals "zip" = some none)
  : ProgOk K mg Gt Ts (fun j => ([.ref x0, .ref x1, .ref x2] : List Value).getD j .none) where
  fns := by decide +kernel
  chk := by
    intro t ht
    rcases List.mem_cons.mp ht with rfl | ht
    · exact TP.k0
    rcases List.mem_cons.mp ht with rfl | ht
    · exact TP.k1
    rcases List.mem_cons.mp ht with rfl | ht
    · exact TP.k2
    rcases List.mem_cons.mp ht with rfl | ht
    · exact TP.k3
    rcases List.mem_cons.mp ht with rfl | ht
    · exact TP.k4
    rcases List.mem_cons.mp ht with rfl | ht
    · exact TP.k5
    rcases List.mem_cons.mp ht with rfl | ht
    · exact TP.k6
    rcases List.mem_cons.mp ht with rfl | ht
    · exact TP.k7
    rcases List.mem_cons.mp ht with rfl | ht
    · exact TP.k8
    rcases List.mem_cons.mp ht with rfl | ht
    · exact TP.k9
    rcases List.mem_cons.mp ht with rfl | ht
    · exact TP.k10
    rcases List.mem_cons.mp ht with rfl | ht
    · exact TP.k11
    rcases List.mem_cons.mp ht with rfl | ht
    · exact TP.k12
    rcases List.mem_cons.mp ht with rfl | ht
    · exact TP.k13
    rcases List.mem_cons.mp ht with rfl | ht
    · exact TP.k14
    rcases List.mem_cons.mp ht with rfl | ht
    · exact TP.k15
    rcases List.mem_cons.mp ht with rfl | ht
    · exact TP.k16
    rcases List.mem_cons.mp ht with rfl | ht
    · exact TP.k17
    rcases List.mem_cons.mp ht with rfl | ht
    · exact TP.k18
    rcases List.mem_cons.mp ht with rfl | ht
    · exact TP.k19
    cases ht
  at_ := by
    intro t ht hq
    rcases List.mem_cons.mp ht with rfl | ht
    · exact ⟨f0, _, fun_mk (st := (top 7)) l0 c0 k0, PySem.W.mg_of X G a0, (fun_mk (st := (top 7)) l0 c0 k0).binds fun _ _ _ _ _ _ us hl => match us, hl with | [_], _ => rfl⟩
    rcases List.mem_cons.mp ht with rfl | ht
    · exact ⟨f1, _, fun_mk (st := (top 8)) l1 c1 k1, PySem.W.mg_of X G a1, (fun_mk (st := (top 8)) l1 c1 k1).binds fun _ _ _ _ _ _ us hl => match us, hl with | [_, _], _ => rfl⟩
    rcases List.mem_cons.mp ht with rfl | ht
    · exact ⟨f2, _, fun_mk (st := (top 9)) l2 c2 k2, PySem.W.mg_of X G a2, (fun_mk (st := (top 9)) l2 c2 k2).binds fun _ _ _ _ _ _ us hl => match us, hl with | [_, _], _ => rfl⟩
    rcases List.mem_cons.mp ht with rfl | ht
    · exact ⟨f3, _, fun_mk (st := (top 10)) l3 c3 k3, PySem.W.mg_of X G a3, (fun_mk (st := (top 10)) l3 c3 k3).binds fun _ _ _ _ _ _ us hl => match us, hl with | [_, _], _ => rfl⟩
    rcases List.mem_cons.mp ht with rfl | ht
    · exact ⟨f4, _, fun_mk (st := (top 11)) l4 c4 k4, PySem.W.mg_of X G a4, (fun_mk (st := (top 11)) l4 c4 k4).binds fun _ _ _ _ _ _ us hl => match us, hl with | [_, _], _ => rfl⟩
    rcases List.mem_cons.mp ht with rfl | ht
    · exact ⟨f5, _, fun_mk (st := (top 14)) l5 c5 k5, PySem.W.mg_of X G a5, (fun_mk (st := (top 14)) l5 c5 k5).binds fun _ _ _ _ _ _ us hl => match us, hl with | [_, _], _ => rfl⟩
    rcases List.mem_cons.mp ht with rfl | ht
    · exact ⟨f6, _, fun_mk (st := (top 16)) l6 c6 k6, PySem.W.mg_of X G a6, (fun_mk (st := (top 16)) l6 c6 k6).binds fun _ _ _ _ _ _ us hl => match us, hl with | [_, _], _ => rfl⟩
    rcases List.mem_cons.mp ht with rfl | ht
    · exact ⟨f7, _, fun_mk (st := (top 17)) l7 c7 k7, PySem.W.mg_of X G a7, (fun_mk (st := (top 17)) l7 c7 k7).binds fun _ _ _ _ _ _ us hl => match us, hl with | [_, _], _ => rfl⟩
    rcases List.mem_cons.mp ht with rfl | ht
    · exact ⟨f8, _, fun_mk (st := (top 18)) l8 c8 k8, PySem.W.mg_of X G a8, (fun_mk (st := (top 18)) l8 c8 k8).binds fun _ _ _ _ _ _ us hl => match us, hl with | [_, _], _ => rfl⟩
    rcases List.mem_cons.mp ht with rfl | ht
    · exact ⟨f9, _, fun_mk (st := (top 19)) l9 c9 k9, PySem.W.mg_of X G a9, (fun_mk (st := (top 19)) l9 c9 k9).binds fun _ _ _ _ _ _ us hl => match us, hl with | [_, _, _], _ => rfl⟩
    rcases List.mem_cons.mp ht with rfl | ht
    · exact ⟨f10, _, fun_mk (st := (top 20)) l10 c10 k10, PySem.W.mg_of X G a10, (fun_mk (st := (top 20)) l10 c10 k10).binds fun _ _ _ _ _ _ us hl => match us, hl with | [_], _ => rfl⟩
    rcases List.mem_cons.mp ht with rfl | ht
    · exact ⟨f11, _, fun_mk (st := (top 21)) l11 c11 k11, PySem.W.mg_of X G a11, (fun_mk (st := (top 21)) l11 c11 k11).binds fun _ _ _ _ _ _ us hl => match us, hl with | [_], _ => rfl⟩
    rcases List.mem_cons.mp ht with rfl | ht
    · exact absurd hq (by decide +kernel)
    rcases List.mem_cons.mp ht with rfl | ht
    · exact absurd hq (by decide +kernel)
    rcases List.mem_cons.mp ht with rfl | ht
    · exact absurd hq (by decide +kernel)
    rcases List.mem_cons.mp ht with rfl | ht
    · exact absurd hq (by decide +kernel)
    rcases List.mem_cons.mp ht with rfl | ht
    · exact absurd hq (by decide +kernel)
    rcases List.mem_cons.mp ht with rfl | ht
    · exact absurd hq (by decide +kernel)
    rcases List.mem_cons.mp ht with rfl | ht
    · exact absurd hq (by decide +kernel)
    rcases List.mem_cons.mp ht with rfl | ht
    · exact absurd hq (by decide +kernel)
    cases ht
  exc := by
    intro j x h
    match j, h with
    | 0, h =>
      have e := Option.some.inj (show some ("TaleError" : Str) = some x from h)
      subst e
      exact ⟨x0, _, _, _, _, rfl, PySem.W.mg_of X G ax0, PySem.F.excBase_ValueError, xx0, kx0, bx0, tx0⟩
    | 1, h =>
      have e := Option.some.inj (show some ("NotOffered" : Str) = some x from h)
      subst e
      exact ⟨x1, _, _, _, _, rfl, PySem.W.mg_of X G ax1, PySem.F.excBase_ValueError, xx1, kx1, bx1, tx1⟩
    | 2, h =>
      have e := Option.some.inj (show some ("NotGoing" : Str) = some x from h)
      subst e
      exact ⟨x2, _, _, _, _, rfl, PySem.W.mg_of X G ax2, PySem.F.excBase_ValueError, xx2, kx2, bx2, tx2⟩
    | _ + 3, h => exact nomatch (show (none : Option Str) = some x from h)
  exm := by
    intro i j b h
    cases h
  clss := by
    intro ct hct
    rcases List.mem_cons.mp hct with rfl | hct
    · refine ⟨C, PySem.W.mg_of X G aC, aC, ⟨pg, hd, po, sa⟩, ?_, ?_, f12, _, t12, rfl, ⟨mk, a12, i12, kc⟩, fun_mk (st := (inClass (top 13) 0)) l12 c12 k12, (fun_mk (st := (inClass (top 13) 0)) l12 c12 k12).binds fun _ _ _ _ _ _ us hl => match us, hl with | [_, _], _ => rfl⟩
      · intro f hf
        rcases List.mem_cons.mp hf with rfl | hf
        · exact nf0
        rcases List.mem_cons.mp hf with rfl | hf
        · exact nf1
        rcases List.mem_cons.mp hf with rfl | hf
        · exact nf2
        rcases List.mem_cons.mp hf with rfl | hf
        · exact nf3
        cases hf
      · intro m i hm
        rcases List.mem_cons.mp hm with e | hm
        · cases e
          exact ⟨f13, _, t13, rfl, ⟨a13, i13, k13⟩, fun_mk (st := (inClass (top 13) 1)) l13 c13 k13, (fun_mk (st := (inClass (top 13) 1)) l13 c13 k13).binds fun _ _ _ _ _ _ us hl => match us, hl with | [_], _ => rfl⟩
        rcases List.mem_cons.mp hm with e | hm
        · cases e
          exact ⟨f14, _, t14, rfl, ⟨a14, i14, k14⟩, fun_mk (st := (inClass (top 13) 2)) l14 c14 k14, (fun_mk (st := (inClass (top 13) 2)) l14 c14 k14).binds fun _ _ _ _ _ _ us hl => match us, hl with | [_, _], _ => rfl⟩
        rcases List.mem_cons.mp hm with e | hm
        · cases e
          exact ⟨f15, _, t15, rfl, ⟨a15, i15, k15⟩, fun_mk (st := (inClass (top 13) 3)) l15 c15 k15, (fun_mk (st := (inClass (top 13) 3)) l15 c15 k15).binds fun _ _ _ _ _ _ us hl => match us, hl with | [_, _], _ => rfl⟩
        rcases List.mem_cons.mp hm with e | hm
        · cases e
          exact ⟨f16, _, t16, rfl, ⟨a16, i16, k16⟩, fun_mk (st := (inClass (top 13) 4)) l16 c16 k16, (fun_mk (st := (inClass (top 13) 4)) l16 c16 k16).binds fun _ _ _ _ _ _ us hl => match us, hl with | [_, _], _ => rfl⟩
        rcases List.mem_cons.mp hm with e | hm
        · cases e
          exact ⟨f17, _, t17, rfl, ⟨a17, i17, k17⟩, fun_mk (st := (inClass (top 13) 5)) l17 c17 k17, (fun_mk (st := (inClass (top 13) 5)) l17 c17 k17).binds fun _ _ _ _ _ _ us hl => match us, hl with | [_], _ => rfl⟩
        rcases List.mem_cons.mp hm with e | hm
        · cases e
          exact ⟨f18, _, t18, rfl, ⟨a18, i18, k18⟩, fun_mk (st := (inClass (top 13) 6)) l18 c18 k18, (fun_mk (st := (inClass (top 13) 6)) l18 c18 k18).binds fun _ _ _ _ _ _ us hl => match us, hl with | [_, _], _ => rfl⟩
        rcases List.mem_cons.mp hm with e | hm
        · cases e
          exact ⟨f19, _, t19, rfl, ⟨a19, i19, k19⟩, fun_mk (st := (inClass (top 13) 7)) l19 c19 k19, (fun_mk (st := (inClass (top 13) 7)) l19 c19 k19).binds fun _ _ _ _ _ _ us hl => match us, hl with | [_], _ => rfl⟩
        cases hm
    cases hct
  cst := by
    intro x d h
    by_cases e0 : x = "DONE"
    · subst e0
      have hd : List.lookup ("DONE" : Str) Gt.consts = some (.str "done" : TL.D) := by rfl
      rw [hd] at h
      cases h
      exact ⟨_, .str "done", PySem.W.mg_of X G q0, ⟨_, rfl⟩, fun _ _ _ => ⟨rfl, by decide +kernel⟩⟩
    by_cases e1 : x = "FAILED"
    · subst e1
      have hd : List.lookup ("FAILED" : Str) Gt.consts = some (.str "failed" : TL.D) := by rfl
      rw [hd] at h
      cases h
      exact ⟨_, .str "failed", PySem.W.mg_of X G q1, ⟨_, rfl⟩, fun _ _ _ => ⟨rfl, by decide +kernel⟩⟩
    have hn : Gt.consts.lookup x = none := by
      show List.lookup x ([("DONE", .str "done"), ("FAILED", .str "failed")] : List (Str × TL.D)) = none
      simp only [List.lookup_cons, List.lookup_nil]
      rw [show (x == ("DONE" : Str)) = false from by simpa using e0]
      rw [show (x == ("FAILED" : Str)) = false from by simpa using e1]
    rw [hn] at h
    cases h
  blt := by
    intro x hx
    rcases List.mem_cons.mp hx with rfl | hx
    · exact PySem.W.mg_none_of X G z0
    rcases List.mem_cons.mp hx with rfl | hx
    · exact PySem.W.mg_none_of X G z1
    rcases List.mem_cons.mp hx with rfl | hx
    · exact PySem.W.mg_none_of X G z2
    rcases List.mem_cons.mp hx with rfl | hx
    · exact PySem.W.mg_none_of X G z3
    rcases List.mem_cons.mp hx with rfl | hx
    · exact PySem.W.mg_none_of X G z4
    rcases List.mem_cons.mp hx with rfl | hx
    · exact PySem.W.mg_none_of X G z5
    rcases List.mem_cons.mp hx with rfl | hx
    · exact PySem.W.mg_none_of X G z6
    rcases List.mem_cons.mp hx with rfl | hx
    · exact PySem.W.mg_none_of X G z7
    rcases List.mem_cons.mp hx with rfl | hx
    · exact PySem.W.mg_none_of X G z8
    rcases List.mem_cons.mp hx with rfl | hx
    · exact PySem.W.mg_none_of X G z9
    rcases List.mem_cons.mp hx with rfl | hx
    · exact PySem.W.mg_none_of X G z10
    rcases List.mem_cons.mp hx with rfl | hx
    · exact PySem.W.mg_none_of X G z11
    rcases List.mem_cons.mp hx with rfl | hx
    · exact PySem.W.mg_none_of X G z12
    cases hx
end TP
open PySem PySem.W PyProof.Rows
set_option maxRecDepth 100000 in
set_option maxHeartbeats 0 in
theorem PySem.Challenge.cw_taletask_k55_whole_names_of_tasks_holds : PySem.Challenge.rw_taletask_k55_whole_names_of_tasks.Holds := by
  w_on; o_law; k_head; (case hw => w_witness2)
  k_fill
  refine TL.walk (l := PySem.Challenge.rw_taletask_k55_whole_names_of_tasks) (G := TP.Gt) (T := TP.Ts) (t := TP.t11) (i := 11) (n := TP.lawN) (x := "_law_script") rfl rfl ⟨rfl, by decide, by decide⟩ (fun w h Y => PySem.W.kIn_of Y) rfl rfl rfl rfl ?F (fun w fa fd Fu s u => by obtain ⟨_, _, _, _, _, _, _, _, _, rfl, _, _⟩ := Fu.ex; exact .of_eq rfl) TP.law_holds
  case F =>
    intro w mg h KX G
    refine' ⟨_, TP.all_mk (l := PySem.Challenge.rw_taletask_k55_whole_names_of_tasks) (w := w) KX G ?aC ?ax0 ?ax1 ?ax2 ?a0 ?l0 ?c0 ?k0 ?a1 ?l1 ?c1 ?k1 ?a2 ?l2 ?c2 ?k2 ?a3 ?l3 ?c3 ?k3 ?a4 ?l4 ?c4 ?k4 ?a5 ?l5 ?c5 ?k5 ?a6 ?l6 ?c6 ?k6 ?a7 ?l7 ?c7 ?k7 ?a8 ?l8 ?c8 ?k8 ?a9 ?l9 ?c9 ?k9 ?a10 ?l10 ?c10 ?k10 ?a11 ?l11 ?c11 ?k11 ?a12 ?i12 ?l12 ?c12 ?k12 ?a13 ?i13 ?l13 ?c13 ?k13 ?a14 ?i14 ?l14 ?c14 ?k14 ?a15 ?i15 ?l15 ?c15 ?k15 ?a16 ?i16 ?l16 ?c16 ?k16 ?a17 ?i17 ?l17 ?c17 ?k17 ?a18 ?i18 ?l18 ?c18 ?k18 ?a19 ?i19 ?l19 ?c19 ?k19 ?pg ?hd ?po ?sa ?mk ?kc ?nf0 ?nf1 ?nf2 ?nf3 ?xx0 ?kx0 ?bx0 ?tx0 ?ix0 ?xx1 ?kx1 ?bx1 ?tx1 ?ix1 ?xx2 ?kx2 ?bx2 ?tx2 ?ix2 ?q0 ?q1 ?z0 ?z1 ?z2 ?z3 ?z4 ?z5 ?z6 ?z7 ?z8 ?z9 ?z10 ?z11 ?z12⟩
    (case aC => k_is)
    (case ax0 => k_is)
    (case ax1 => k_is)
    (case ax2 => k_is)
    (case a0 => k_is)
    (case l0 => k_is)
    (case c0 => k_is)
    (case k0 => k_is)
    (case a1 => k_is)
    (case l1 => k_is)
    (case c1 => k_is)
    (case k1 => k_is)
    (case a2 => k_is)
    (case l2 => k_is)
    (case c2 => k_is)
    (case k2 => k_is)
    (case a3 => k_is)
    (case l3 => k_is)
    (case c3 => k_is)
    (case k3 => k_is)
    (case a4 => k_is)
    (case l4 => k_is)
    (case c4 => k_is)
    (case k4 => k_is)
    (case a5 => k_is)
    (case l5 => k_is)
    (case c5 => k_is)
    (case k5 => k_is)
    (case a6 => k_is)
    (case l6 => k_is)
    (case c6 => k_is)
    (case k6 => k_is)
    (case a7 => k_is)
    (case l7 => k_is)
    (case c7 => k_is)
    (case k7 => k_is)
    (case a8 => k_is)
    (case l8 => k_is)
    (case c8 => k_is)
    (case k8 => k_is)
    (case a9 => k_is)
    (case l9 => k_is)
    (case c9 => k_is)
    (case k9 => k_is)
    (case a10 => k_is)
    (case l10 => k_is)
    (case c10 => k_is)
    (case k10 => k_is)
    (case a11 => k_is)
    (case l11 => k_is)
    (case c11 => k_is)
    (case k11 => k_is)
    (case a12 => k_is)
    (case i12 => k_is)
    (case l12 => k_is)
    (case c12 => k_is)
    (case k12 => k_is)
    (case a13 => k_is)
    (case i13 => k_is)
    (case l13 => k_is)
    (case c13 => k_is)
    (case k13 => k_is)
    (case a14 => k_is)
    (case i14 => k_is)
    (case l14 => k_is)
    (case c14 => k_is)
    (case k14 => k_is)
    (case a15 => k_is)
    (case i15 => k_is)
    (case l15 => k_is)
    (case c15 => k_is)
    (case k15 => k_is)
    (case a16 => k_is)
    (case i16 => k_is)
    (case l16 => k_is)
    (case c16 => k_is)
    (case k16 => k_is)
    (case a17 => k_is)
    (case i17 => k_is)
    (case l17 => k_is)
    (case c17 => k_is)
    (case k17 => k_is)
    (case a18 => k_is)
    (case i18 => k_is)
    (case l18 => k_is)
    (case c18 => k_is)
    (case k18 => k_is)
    (case a19 => k_is)
    (case i19 => k_is)
    (case l19 => k_is)
    (case c19 => k_is)
    (case k19 => k_is)
    (case pg => k_is)
    (case hd => k_is)
    (case po => k_is)
    (case sa => k_is)
    (case mk => k_is)
    (case kc => k_is)
    (case nf0 => k_is)
    (case nf1 => k_is)
    (case nf2 => k_is)
    (case nf3 => k_is)
    (case xx0 => k_exc)
    (case kx0 => k_is)
    (case bx0 => k_is)
    (case tx0 => k_is)
    (case ix0 => k_is)
    (case xx1 => k_exc)
    (case kx1 => k_is)
    (case bx1 => k_is)
    (case tx1 => k_is)
    (case ix1 => k_is)
    (case xx2 => k_exc)
    (case kx2 => k_is)
    (case bx2 => k_is)
    (case tx2 => k_is)
    (case ix2 => k_is)
    (case q0 => k_is)
    (case q1 => k_is)
    (case z0 => k_is)
    (case z1 => k_is)
    (case z2 => k_is)
    (case z3 => k_is)
    (case z4 => k_is)
    (case z5 => k_is)
    (case z6 => k_is)
    (case z7 => k_is)
    (case z8 => k_is)
    (case z9 => k_is)
    (case z10 => k_is)
    (case z11 => k_is)
    (case z12 => k_is)

