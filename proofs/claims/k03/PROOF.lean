import PyProof.Rows.All
import HandS.Base
import HandS.Call
import HandS.List
import HandS.ForMost
import HandS.Gcd
import HandS.IsInst
import HandS.Wide
import HandS.Zip
import HandS.TupMul
import HandS.TupAny
import HandS.Style
import HandS.NoneIn
import PySem.Challenge.RW_polytopebench_k03_whole_excess_along_way
set_option Elab.async false
set_option linter.all false
/-! A small language of expressions and statements, its values, and what it computes: a plain function, no heap of Python in sight but for lists that are changed (cells). -/
namespace Py
open PySem

/-- data: .lst is a list that nobody changes any more, .frz a given one (the script), .cel i the i-th list that may be changed -/
inductive D where
  | non | bl (b : Bool) | int (i : Int) | str (x : Str) | ty (n : String)
  | tup (ds : List D) | lst (ds : List D) | frz (ds : List D) | cel (i : Nat)
  deriving Inhabited

abbrev Hs := List (List D)
abbrev Sg := List (Option D)

inductive Bop where | add | sub | mul | fdiv | mod | pow
  deriving DecidableEq
inductive Cop where | eq | ne | lt | le | gt | ge | is_ | isn | in_ | nin
  deriving DecidableEq
inductive Blt where | len | abs | int | max | min | sum | tuple | list (m : Bool) | isi | gcd | all | any
  deriving DecidableEq
inductive Mth where | append | popAt | extend | index | count
  deriving DecidableEq

mutual
inductive E where
  | var (i : Nat)
  | non | bl (b : Bool) | int (i : Int) | str (x : Str) | ty (n : String)
  | glob (x : Str)
  | op (o : Bop) (a b : E)
  | neg (a : E)
  | cmp (o : Cop) (a b : E)
  | chn (o o' : Cop) (a b c : E)
  | bop (k : Bool) (es : Es)
  | not (a : E)
  | ife (c a b : E)
  | tup (es : Es)
  | lst (m : Bool) (es : Es)
  | ix (a i : E)
  | sl (a : E) (lo hi : Eo)
  | cl (f : Nat) (es : Es)
  | ck (f : Nat) (es ks : Es) (perm : List Nat)
  | bt (b : Blt) (es : Es)
  | mt (m : Mth) (o : E) (es : Es)
  | cp (m : Bool) (elt : E) (t : Tg) (it : It) (ifs : Eo) (own : List Nat)
inductive Es where
  | nil | cons (e : E) (es : Es)
inductive Eo where
  | none | some (e : E)
inductive Tg where
  | name (i : Nat) | tup (ts : Tgs) | sub (o i : E)
inductive Tgs where
  | nil | cons (t : Tg) (ts : Tgs)
inductive It where
  | seq (e : E) | rng1 (a : E) | rng2 (a b : E) | zip (a b : E) | enm (a : E)
end

mutual
inductive S where
  | asg (t : Tg) (e : E)
  | par (i j : Nat) (a b : E)
  | aug (i : Nat) (o : Bop) (e : E)
  | augS (a i : E) (o : Bop) (e : E)
  | ex (e : E)
  | ret (e : E) | retN
  | ite (c : E) (a b : Ss)
  | for_ (t : Tg) (it : It) (b : Ss)
  | whl (c : E) (b : Ss)
  | never
  | pass | brk | cnt
inductive Ss where
  | nil | cons (s : S) (ss : Ss)
end

inductive O where
  | nx (σ : Sg) (h : Hs) | rt (d : D) (h : Hs) | bk (σ : Sg) (h : Hs) | ct (σ : Sg) (h : Hs)

/-- the largest length that is let: far below the model's line -/
def lim : Nat := 100000

/-- two numbers whose product is let -/
def mulOk (i j : Int) : Bool := decide (i.natAbs.log2 + j.natAbs.log2 < 1000000)

def binop : Bop → D → D → Option D
  | .add, .int i, .int j => some (.int (i + j))
  | .add, .tup xs, .tup ys => if xs.length + ys.length ≤ lim then some (.tup (xs ++ ys)) else none
  | .add, .lst xs, .lst ys => if xs.length + ys.length ≤ lim then some (.lst (xs ++ ys)) else none
  | .sub, .int i, .int j => some (.int (i - j))
  | .mul, .int i, .int j => if mulOk i j then some (.int (i * j)) else none
  | .mul, .tup xs, .int k => if xs ≠ [] ∧ 2 ≤ k ∧ k ≤ 1000 ∧ xs.length ≤ 1000 then some (.tup (List.replicate k.toNat xs).flatten) else none
  | .mul, .lst xs, .int k => if 0 ≤ k ∧ k ≤ 1000 ∧ xs.length ≤ 1000 then some (.lst (List.replicate k.toNat xs).flatten) else none
  | .fdiv, .int i, .int j => if 0 < j ∧ j.natAbs.log2 < 9000 then some (.int (i / j)) else none
  | .mod, .int i, .int j => if 0 < j then some (.int (i % j)) else none
  | .pow, .int i, .int j => if 0 ≤ j ∧ j ≤ 1000 ∧ i.natAbs < 2 ^ 64 then some (.int (i ^ j.toNat)) else none
  | _, _, _ => none

mutual
/-- as plain data, the cells looked up (twice at most) -/
def toP : D → Option PyData
  | .non => some .none
  | .bl b => some (.bool b)
  | .int i => some (.int i)
  | .str x => some (.str x)
  | .tup ds => (toPs ds).map .tuple
  | .lst ds => (toPs ds).map .list
  | .ty _ => none
  | .frz _ => none
  | .cel _ => none
def toPs : List D → Option (List PyData)
  | [] => some []
  | d :: ds => (toP d).bind fun p => (toPs ds).map fun ps => p :: ps
end

/-- a cell that holds no cells, read as a list -/
def rd (h : Hs) : D → D
  | .cel i => match h[i]? with
    | some ds => .lst ds
    | none => .cel i
  | d => d

def eqD (h : Hs) (a b : D) : Option Bool := (toP (rd h a)).bind fun p => (toP (rd h b)).bind fun q => if SeqAt.shaped p && SeqAt.shaped q then some (PyData.eqv p q) else none

/-- a list of ints -/
def intsD : List D → Option (List Int)
  | [] => some []
  | .int i :: ds => (intsD ds).map (i :: ·)
  | _ :: _ => none
def boolsD : List D → Option (List Bool)
  | [] => some []
  | .bl b :: ds => (boolsD ds).map (b :: ·)
  | _ :: _ => none
def isNon : D → Bool
  | .non => true
  | _ => false

def cmpop (h : Hs) : Cop → D → D → Option Bool
  | .eq, .int i, .int j => some (decide (i = j))
  | .ne, .int i, .int j => some (!decide (i = j))
  | .eq, a, b => eqD h a b
  | .ne, a, b => (eqD h a b).map (!·)
  | .lt, .int i, .int j => some (decide (i < j))
  | .le, .int i, .int j => some (decide (i ≤ j))
  | .gt, .int i, .int j => some (decide (j < i))
  | .ge, .int i, .int j => some (decide (j ≤ i))
  | .is_, .bl a, .bl b => some (decide (a = b))
  | .is_, a, .non => some (isNon a)
  | .isn, a, .non => some (!isNon a)
  | .in_, .int i, .tup ds => (intsD ds).map fun ns => ns.any fun j => decide (j = i)
  | .nin, .int i, .tup ds => (intsD ds).map fun ns => !(ns.any fun j => decide (j = i))
  | _, _, _ => none

def tyOf : D → Option String
  | .non => some "NoneType"
  | .bl _ => some "bool"
  | .int _ => some "int"
  | .str _ => some "str"
  | .tup _ => some "tuple"
  | .lst _ => some "list"
  | .frz _ => some "list"
  | .cel _ => some "list"
  | .ty _ => none
def testT : List String := ["bool", "int", "str", "tuple", "list", "dict"]
def isK (a b : String) : Option Bool := if b ∈ testT then some (a == b || (a == "bool" && b == "int")) else none
def isAny (a : String) : List D → Option Bool
  | [] => some false
  | .ty t :: ds => (isK a t).bind fun b => (isAny a ds).map fun c => b || c
  | _ :: _ => none

def maxI : List Int → Int
  | [] => 0
  | [a] => a
  | a :: b :: r => let m := maxI (b :: r); if m > a then m else a
def minI : List Int → Int
  | [] => 0
  | [a] => a
  | a :: b :: r => let m := minI (b :: r); if m < a then m else a

def blt : Blt → List D → Hs → Option (D × Hs)
  | .len, [.tup ds], h => some (.int ds.length, h)
  | .len, [.lst ds], h => some (.int ds.length, h)
  | .len, [.frz ds], h => some (.int ds.length, h)
  | .len, [.cel i], h => (h[i]?).map fun ds => (.int ds.length, h)
  | .abs, [.int i], h => some (.int (if i < 0 then -i else i), h)
  | .int, [.int i], h => some (.int i, h)
  | .int, [.bl k], h => some (.int (if k then 1 else 0), h)
  | .max, [.int i, .int j], h => some (.int (if j > i then j else i), h)
  | .min, [.int i, .int j], h => some (.int (if j < i then j else i), h)
  | .max, [.lst ds], h => (intsD ds).bind fun ns => if ns = [] then none else some (.int (maxI ns), h)
  | .min, [.lst ds], h => (intsD ds).bind fun ns => if ns = [] then none else some (.int (minI ns), h)
  | .sum, [.lst ds], h => (intsD ds).map fun ns => (.int ns.sum, h)
  | .tuple, [.lst ds], h => some (.tup ds, h)
  | .tuple, [.tup ds], h => some (.tup ds, h)
  | .tuple, [.cel i], h => (h[i]?).map fun ds => (.tup ds, h)
  | .list m, [.tup ds], h => if m then some (.cel h.length, h ++ [ds]) else some (.lst ds, h)
  | .list m, [.lst ds], h => if m then some (.cel h.length, h ++ [ds]) else some (.lst ds, h)
  | .list m, [.cel i], h => (h[i]?).map fun ds => if m then (.cel h.length, h ++ [ds]) else (.lst ds, h)
  | .isi, [x, .ty t], h => (tyOf x).bind fun k => (isK k t).map fun b => (.bl b, h)
  | .isi, [x, .tup ts], h => (tyOf x).bind fun k => (isAny k ts).map fun b => (.bl b, h)
  | .gcd, [.int a, .int b], h => some (.int (Nat.gcd a.natAbs b.natAbs : Nat), h)
  | .all, [.lst ds], h => (boolsD ds).map fun bs => (.bl (bs.all id), h)
  | .any, [.lst ds], h => (boolsD ds).map fun bs => (.bl (bs.any id), h)
  | _, _, _ => none

def ixD {α : Type} (xs : List α) (i : Int) : Option α := L2.atI xs i

def getI (h : Hs) : D → D → Option D
  | .tup ds, .int i => L2.atI ds i
  | .lst ds, .int i => L2.atI ds i
  | .frz ds, .int i => L2.atI ds i
  | .cel c, .int i => (h[c]?).bind fun ds => L2.atI ds i
  | _, _ => none

def cutD (xs : List D) (lo hi : Option Int) : List D := (xs.drop (HT.sIx xs.length 0 lo)).take (HT.sIx xs.length xs.length hi - HT.sIx xs.length 0 lo)
def slI (h : Hs) : D → Option Int → Option Int → Option D
  | .tup ds, lo, hi => some (.tup (cutD ds lo hi))
  | .lst ds, lo, hi => some (.lst (cutD ds lo hi))
  | .frz ds, lo, hi => some (.lst (cutD ds lo hi))
  | .cel c, lo, hi => (h[c]?).map fun ds => .lst (cutD ds lo hi)
  | _, _, _ => none

def meth : Mth → D → List D → Hs → Option (D × Hs)
  | .append, .cel c, [x], h => (h[c]?).bind fun ds => if ds.length < lim then some (.non, h.set c (ds ++ [x])) else none
  | .popAt, .cel c, [.int i], h => (h[c]?).bind fun ds => if 0 ≤ i ∧ i < ds.length ∧ ds.length < lim then (ds[i.toNat]?).map fun x => (x, h.set c (ds.eraseIdx i.toNat)) else none
  | _, _, _, _ => none

open scoped Classical in
/-- a for's turns; all: the whole of what is walked, src: the cell that is walked (it has to stay) -/
noncomputable def loopF (bind : D → Sg → Hs → Option (Sg × Hs)) (run : Sg → Hs → Option O) (src : Option Nat) (all : List D) : List D → Sg → Hs → Option O
  | [], σ, h => if (∀ c, src = some c → h[c]? = some all) then some (.nx σ h) else none
  | x :: xs, σ, h => if (∀ c, src = some c → h[c]? = some all) then
      (bind x σ h).bind fun p => (run p.1 p.2).bind fun o => match o with
        | .nx σ' h' => loopF bind run src all xs σ' h'
        | .ct σ' h' => loopF bind run src all xs σ' h'
        | .bk σ' h' => some (.nx σ' h')
        | .rt d h' => some (.rt d h')
    else none

def loopW (cond : Sg → Hs → Option (Bool × Hs)) (run : Sg → Hs → Option O) : Nat → Sg → Hs → Option O
  | 0, _, _ => none
  | n + 1, σ, h => (cond σ h).bind fun p => if p.1 then (run σ p.2).bind fun o => match o with
        | .nx σ' h' => loopW cond run n σ' h'
        | .ct σ' h' => loopW cond run n σ' h'
        | .bk σ' h' => some (.nx σ' h')
        | .rt d h' => some (.rt d h')
      else some (.nx σ p.2)

open scoped Classical in
/-- a comprehension's turns -/
noncomputable def loopC (σ : Sg) (bind : D → Sg → Hs → Option (Sg × Hs)) (cond : Sg → Hs → Option (Bool × Hs)) (elt : Sg → Hs → Option (D × Hs)) (src : Option Nat) (all : List D) : List D → Hs → Option (List D × Hs)
  | [], h => if (∀ c, src = some c → h[c]? = some all) then some ([], h) else none
  | x :: xs, h => if (∀ c, src = some c → h[c]? = some all) then
      (bind x σ h).bind fun p => (cond p.1 p.2).bind fun q => if q.1 then
          (elt p.1 q.2).bind fun r => (loopC σ bind cond elt src all xs r.2).bind fun t => if t.1.length < lim then some (r.1 :: t.1, t.2) else none
        else loopC σ bind cond elt src all xs q.2
    else none

def wipeD (σ : Sg) : List Nat → Sg
  | [] => σ
  | v :: vs => (wipeD σ vs).set v none

/-- what is walked: the items, the cell if it is one, the cells behind -/
structure Wk where
  xs : List D
  src : Option Nat
  h : Hs

def rngL (lo : Int) (n : Nat) : List D := (List.range n).map fun (i : Nat) => .int (lo + (i : Int))
def seqI (h : Hs) : D → Option (List D × Option Nat)
  | .tup ds => some (ds, none)
  | .lst ds => some (ds, none)
  | .frz ds => some (ds, none)
  | .cel c => (h[c]?).map fun ds => (ds, some c)
  | _ => none
def zipI : D → D → Option (List D)
  | .tup xs, .tup ys => if xs.length = ys.length then some (xs.zipWith (fun x y => .tup [x, y]) ys) else none
  | .lst xs, .lst ys => if xs.length = ys.length then some (xs.zipWith (fun x y => .tup [x, y]) ys) else none
  | _, _ => none
def enmFrom : Nat → List D → List D
  | _, [] => []
  | i, x :: xs => .tup [.int i, x] :: enmFrom (i + 1) xs

/-- the most turns of a while: never reckoned -/
@[irreducible] def WF : Nat := 2 ^ 10000000

noncomputable section
variable (cl : Nat → List D → Hs → Option (D × Hs)) (gl : Str → Option D)
mutual
def evE : E → Sg → Hs → Option (D × Hs)
  | .var i, σ, h => match σ[i]? with
    | some (some d) => some (d, h)
    | _ => none
  | .non, _, h => some (.non, h)
  | .bl b, _, h => some (.bl b, h)
  | .int i, _, h => some (.int i, h)
  | .str x, _, h => some (.str x, h)
  | .ty n, _, h => some (.ty n, h)
  | .glob x, _, h => (gl x).map fun d => (d, h)
  | .op o a b, σ, h => (evE a σ h).bind fun p => (evE b σ p.2).bind fun q => (binop o p.1 q.1).map fun d => (d, q.2)
  | .neg a, σ, h => (evE a σ h).bind fun p => match p.1 with
    | .int i => some (.int (-i), p.2)
    | _ => none
  | .cmp o a b, σ, h => (evE a σ h).bind fun p => (evE b σ p.2).bind fun q => (cmpop q.2 o p.1 q.1).map fun k => (.bl k, q.2)
  | .chn o o' a b c, σ, h => (evE a σ h).bind fun p => (evE b σ p.2).bind fun q => (cmpop q.2 o p.1 q.1).bind fun k =>
      if k then (evE c σ q.2).bind fun r => (cmpop r.2 o' q.1 r.1).map fun k' => (.bl k', r.2) else some (.bl false, q.2)
  | .bop k es, σ, h => evB k es σ h
  | .not a, σ, h => (evE a σ h).bind fun p => match p.1 with
    | .bl b => some (.bl (!b), p.2)
    | _ => none
  | .ife c a b, σ, h => (evE c σ h).bind fun p => match p.1 with
    | .bl k => if k then evE a σ p.2 else evE b σ p.2
    | _ => none
  | .tup es, σ, h => (evEs es σ h).bind fun p => if p.1.length ≤ lim then some (.tup p.1, p.2) else none
  | .lst m es, σ, h => (evEs es σ h).bind fun p => if p.1.length ≤ lim then (if m then some (.cel p.2.length, p.2 ++ [p.1]) else some (.lst p.1, p.2)) else none
  | .ix a i, σ, h => (evE a σ h).bind fun p => (evE i σ p.2).bind fun q => (getI q.2 p.1 q.1).map fun d => (d, q.2)
  | .sl a lo hi, σ, h => (evE a σ h).bind fun p => (evEo lo σ p.2).bind fun q => (evEo hi σ q.2).bind fun r => (slI r.2 p.1 q.1 r.1).map fun d => (d, r.2)
  | .cl f es, σ, h => (evEs es σ h).bind fun p => cl f p.1 p.2
  | .ck f es ks perm, σ, h => (evEs es σ h).bind fun p => (evEs ks σ p.2).bind fun q => (perm.mapM fun i => (p.1 ++ q.1)[i]?).bind fun ds => cl f ds q.2
  | .bt b es, σ, h => (evEs es σ h).bind fun p => blt b p.1 p.2
  | .mt m o es, σ, h => (evE o σ h).bind fun p => (evEs es σ p.2).bind fun q => meth m p.1 q.1 q.2
  | .cp m elt t it ifs own, σ, h => (evIt it σ h).bind fun w =>
      (loopC (wipeD σ own) (fun d σ h => evTg t d σ h) (fun σ h => evC ifs σ h) (fun σ h => evE elt σ h) w.src w.xs w.xs w.h).bind fun p =>
        if m then some (.cel p.2.length, p.2 ++ [p.1]) else some (.lst p.1, p.2)
def evB (k : Bool) : Es → Sg → Hs → Option (D × Hs)
  | .nil, _, _ => none
  | .cons e .nil, σ, h => evE e σ h
  | .cons e (.cons e' es), σ, h => (evE e σ h).bind fun p => match p.1 with
    | .bl b => if b = k then evB k (.cons e' es) σ p.2 else some (.bl b, p.2)
    | _ => none
def evEs : Es → Sg → Hs → Option (List D × Hs)
  | .nil, _, h => some ([], h)
  | .cons e es, σ, h => (evE e σ h).bind fun p => (evEs es σ p.2).map fun q => (p.1 :: q.1, q.2)
def evEo : Eo → Sg → Hs → Option (Option Int × Hs)
  | .none, _, h => some (none, h)
  | .some e, σ, h => (evE e σ h).bind fun p => match p.1 with
    | .int i => some (some i, p.2)
    | _ => none
def evC : Eo → Sg → Hs → Option (Bool × Hs)
  | .none, _, h => some (true, h)
  | .some e, σ, h => (evE e σ h).bind fun p => match p.1 with
    | .bl b => some (b, p.2)
    | _ => none
def evTg : Tg → D → Sg → Hs → Option (Sg × Hs)
  | .name i, d, σ, h => some (σ.set i (some d), h)
  | .tup ts, d, σ, h => match d with
    | .tup ds => evTgs ts ds σ h
    | .lst ds => evTgs ts ds σ h
    | _ => none
  | .sub o i, d, σ, h => (evE o σ h).bind fun p => (evE i σ p.2).bind fun q => match p.1, q.1 with
    | .cel c, .int k => (q.2[c]?).bind fun ds => (L2.ixN ds.length k).map fun j => (σ, q.2.set c (ds.set j d))
    | _, _ => none
def evTgs : Tgs → List D → Sg → Hs → Option (Sg × Hs)
  | .nil, ds, σ, h => match ds with
    | [] => some (σ, h)
    | _ => none
  | .cons t ts, ds, σ, h => match ds with
    | d :: ds => (evTg t d σ h).bind fun p => evTgs ts ds p.1 p.2
    | [] => none
def evIt : It → Sg → Hs → Option Wk
  | .seq e, σ, h => (evE e σ h).bind fun p => (seqI p.2 p.1).map fun q => ⟨q.1, q.2, p.2⟩
  | .rng1 a, σ, h => (evE a σ h).bind fun p => match p.1 with
    | .int n => if -(2 ^ 62) ≤ n ∧ n < 2 ^ 62 then some ⟨rngL 0 n.toNat, none, p.2⟩ else none
    | _ => none
  | .rng2 a b, σ, h => (evE a σ h).bind fun p => (evE b σ p.2).bind fun q => match p.1, q.1 with
    | .int l, .int n => if (-(2 ^ 62) ≤ l ∧ l < 2 ^ 62) ∧ -(2 ^ 62) ≤ n ∧ n < 2 ^ 62 then some ⟨rngL l (n - l).toNat, none, q.2⟩ else none
    | _, _ => none
  | .zip a b, σ, h => (evE a σ h).bind fun p => (evE b σ p.2).bind fun q => (zipI p.1 q.1).map fun xs => ⟨xs, none, q.2⟩
  | .enm a, σ, h => (evE a σ h).bind fun p => match p.1 with
    | .lst ds => some ⟨enmFrom 0 ds, none, p.2⟩
    | _ => none
end

mutual
def evS : S → Sg → Hs → Option O
  | .asg t e, σ, h => (evE cl gl e σ h).bind fun p => (evTg cl gl t p.1 σ p.2).map fun q => .nx q.1 q.2
  | .par i j a b, σ, h => (evE cl gl a σ h).bind fun p => (evE cl gl b σ p.2).map fun q => .nx ((σ.set i (some p.1)).set j (some q.1)) q.2
  | .aug i o e, σ, h => match σ[i]? with
    | some (some d) => (evE cl gl e σ h).bind fun p => match d, p.1 with
      | .int x, .int y => (binop o (.int x) (.int y)).map fun z => .nx (σ.set i (some z)) p.2
      | _, _ => none
    | _ => none
  | .augS a i o e, σ, h => (evE cl gl a σ h).bind fun p => (evE cl gl i σ p.2).bind fun q => (getI q.2 p.1 q.1).bind fun x => (evE cl gl e σ q.2).bind fun r =>
      match p.1, q.1, x, r.1 with
      | .cel c, .int k, .int x, .int y => (binop o (.int x) (.int y)).bind fun z => (r.2[c]?).bind fun ds => (L2.ixN ds.length k).map fun j => .nx σ (r.2.set c (ds.set j z))
      | _, _, _, _ => none
  | .ex e, σ, h => (evE cl gl e σ h).map fun p => .nx σ p.2
  | .ret e, σ, h => (evE cl gl e σ h).map fun p => .rt p.1 p.2
  | .retN, _, h => some (.rt .non h)
  | .ite c a b, σ, h => (evE cl gl c σ h).bind fun p => match p.1 with
    | .bl k => if k then evSs a σ p.2 else evSs b σ p.2
    | _ => none
  | .for_ t it b, σ, h => (evIt cl gl it σ h).bind fun w => loopF (fun d σ h => evTg cl gl t d σ h) (fun σ h => evSs b σ h) w.src w.xs w.xs σ w.h
  | .whl c b, σ, h => loopW (fun σ h => evC cl gl (.some c) σ h) (fun σ h => evSs b σ h) WF σ h
  | .never, _, _ => none
  | .pass, σ, h => some (.nx σ h)
  | .brk, σ, h => some (.bk σ h)
  | .cnt, σ, h => some (.ct σ h)
def evSs : Ss → Sg → Hs → Option O
  | .nil, σ, h => some (.nx σ h)
  | .cons s ss, σ, h => (evS s σ h).bind fun o => match o with
    | .nx σ' h' => evSs ss σ' h'
    | o => some o
end
end

/-- a def: its parameters, its slots, its body, whether its own cells are dropped behind it -/
structure FDef where
  np : Nat
  ns : Nat
  body : Ss
  tr : Bool

mutual
/-- no cell from n on within -/
def clean (n : Nat) : D → Bool
  | .tup ds => cleans n ds
  | .lst ds => cleans n ds
  | .frz ds => cleans n ds
  | .cel i => decide (i < n)
  | _ => true
def cleans (n : Nat) : List D → Bool
  | [] => true
  | d :: ds => clean n d && cleans n ds
end

open scoped Classical in
/-- behind a def: its own cells dropped -/
noncomputable def leave (h0 : Hs) (d : D) (h : Hs) : Option (D × Hs) :=
  if (∀ i, i < h0.length → h[i]? = h0[i]? ∨ ∃ ds, h[i]? = some ds ∧ cleans h0.length ds = true) then
    match d with
    | .cel c => if c < h0.length then some (.cel c, h.take h0.length) else
        match h[c]? with
        | some ds => if cleans h0.length ds then some (.lst ds, h.take h0.length) else none
        | none => none
    | d => if clean h0.length d then some (d, h.take h0.length) else none
  else none

noncomputable def evF (FT : Nat → Option FDef) (gl : Str → Option D) : Nat → Nat → List D → Hs → Option (D × Hs)
  | 0, _, _, _ => none
  | n + 1, f, ds, h => (FT f).bind fun F =>
      if ds.length = F.np then
        (evSs (evF FT gl n) gl F.body (ds.map some ++ List.replicate (F.ns - ds.length) none) h).bind fun o => match o with
          | .rt d h' => if F.tr then leave h d h' else some (d, h')
          | .nx _ h' => if F.tr then leave h .non h' else some (.non, h')
          | _ => none
      else none
end Py

set_option Elab.async false
set_option linter.all false
set_option maxRecDepth 100000
/-! What data stand for in a heap; steps of heaps; the semantic readings. -/
namespace Py
open PySem PySem.Spec PyProof.Rows L2

/-- the addresses of the cells, and of what is just being made (a comprehension's list) -/
structure Mu where
  cs : List Addr
  ms : List Addr
/-- no address that may change -/
def Off (μ : Mu) (a : Addr) : Prop := a ∉ μ.cs ∧ a ∉ μ.ms
/-- a tuple that stays: tracked and no cell, or written in the module -/
def TupAt (K : PySem.W.Frag) (μ : Mu) (H : Hp) (a : Addr) (vs : List V) : Prop :=
  (Off μ a ∧ H a = some (.tup vs)) ∨ ∃ (o : Obj) (its : Array Value) (n : Nat), K.lookup a = some o ∧ o.cls = .type "tuple" ∧ o.data = .seq its n ∧ its.size ≤ sizeLine ∧ Vals vs its.toList
/-- a list that is only read -/
def FrzAt (K : PySem.W.Frag) (μ : Mu) (H : Hp) (a : Addr) (vs : List V) : Prop :=
  (Off μ a ∧ ∃ o, H a = some (.frz o (.lst vs))) ∨
    ∃ (o : Obj) (its : Array Value) (n : Nat), K.lookup a = some o ∧ o.cls = .type "list" ∧ o.dict = none ∧ o.data = .seq its n ∧ its.size ≤ sizeLine ∧ Vals vs its.toList
theorem TupAt.sq {K : PySem.W.Frag} {μ : Mu} {H : Hp} {a : Addr} {vs : List V} (h : TupAt K μ H a vs) : SqT K H a vs := by
  rcases h with ⟨_, h⟩ | h
  · exact .inl (.inl h)
  · exact .inr h
theorem FrzAt.sq {K : PySem.W.Frag} {μ : Mu} {H : Hp} {a : Addr} {vs : List V} (h : FrzAt K μ H a vs) : SqL K H a vs := by
  rcases h with ⟨_, h⟩ | h
  · exact .inl (.inr h)
  · exact .inr h

mutual
inductive Rep (K : PySem.W.Frag) (μ : Mu) (H : Hp) : D → V → Prop
  | non : Rep K μ H .non .non
  | bl (b : Bool) : Rep K μ H (.bl b) (.bl b)
  | int (i : Int) : Rep K μ H (.int i) (.int i)
  | str (x : Str) : Rep K μ H (.str x) (.str x)
  | ty (n : String) : Rep K μ H (.ty n) (.ty n)
  | tup {a : Addr} {ds : List D} {vs : List V} : TupAt K μ H a vs → Reps K μ H ds vs → Rep K μ H (.tup ds) (.ref a)
  | lst {a : Addr} {ds : List D} {vs : List V} : Off μ a → H a = some (.lst vs) → Reps K μ H ds vs → Rep K μ H (.lst ds) (.ref a)
  | frz {a : Addr} {ds : List D} {vs : List V} : FrzAt K μ H a vs → Reps K μ H ds vs → Rep K μ H (.frz ds) (.ref a)
  | cel {i : Nat} {a : Addr} : μ.cs[i]? = some a → Rep K μ H (.cel i) (.ref a)
inductive Reps (K : PySem.W.Frag) (μ : Mu) (H : Hp) : List D → List V → Prop
  | nil : Reps K μ H [] []
  | cons {d : D} {ds : List D} {v : V} {vs : List V} : Rep K μ H d v → Reps K μ H ds vs → Reps K μ H (d :: ds) (v :: vs)
end

/-- from one heap to a later one: the cells may be more, and change; all else stays -/
structure Stp (μ : Mu) (H : Hp) (μ' : Mu) (H' : Hp) : Prop where
  pre : ∃ ν, μ'.cs = μ.cs ++ ν ∧ ∀ a ∈ ν, H a = none
  ms : μ'.ms = μ.ms
  keep : ∀ a o, a ∉ μ.cs → H a = some o → H' a = some o
  dom : ∀ a, H' a = none → H a = none
/-- what data lean on stays -/
structure Mv (μ : Mu) (H : Hp) (μ' : Mu) (H' : Hp) : Prop where
  mem : ∀ a, Off μ a → H a ≠ none → Off μ' a
  keep : ∀ a o, Off μ a → H a = some o → H' a = some o
  ix : ∀ (i : Nat) (a : Addr), μ.cs[i]? = some a → μ'.cs[i]? = some a

structure HRel (K : PySem.W.Frag) (μ : Mu) (h : Hs) (H : Hp) : Prop where
  len : μ.cs.length = h.length
  nd : μ.cs.Nodup
  cel : ∀ (i : Nat) (ds : List D), h[i]? = some ds → ∃ a vs, μ.cs[i]? = some a ∧ H a = some (.lst vs) ∧ Reps K μ H ds vs
  ms : ∀ a ∈ μ.ms, H a ≠ none ∧ a ∉ μ.cs

structure RelS (K : PySem.W.Frag) (μ : Mu) (H : Hp) (σ : Sg) (σv : L2.St) : Prop where
  len : σ.length = σv.length
  get : ∀ (i : Nat) (d : D), σ[i]? = some (some d) → ∃ v, σv[i]? = some (some v) ∧ Rep K μ H d v

section
variable {K : PySem.W.Frag} {μ μ' μ2 : Mu} {H H' H2 : Hp} {h h' : Hs}

theorem Stp.refl : Stp μ H μ H := ⟨⟨[], by simp, fun _ h => by cases h⟩, rfl, fun _ _ _ h => h, fun _ h => h⟩
theorem Stp.memc (S : Stp μ H μ' H') {a : Addr} (ha : a ∉ μ.cs) (hn : H a ≠ none) : a ∉ μ'.cs := by
  obtain ⟨ν, e, f⟩ := S.pre
  rw [e]
  intro hm
  rcases List.mem_append.mp hm with h | h
  · exact ha h
  · exact hn (f a h)
theorem Stp.mem (S : Stp μ H μ' H') {a : Addr} (ha : Off μ a) (hn : H a ≠ none) : Off μ' a := ⟨S.memc ha.1 hn, by rw [S.ms]; exact ha.2⟩
theorem Stp.ix (S : Stp μ H μ' H') {i : Nat} {a : Addr} (e : μ.cs[i]? = some a) : μ'.cs[i]? = some a := by
  obtain ⟨ν, e2, f⟩ := S.pre
  rw [e2]
  obtain ⟨hi, _⟩ := List.getElem?_eq_some_iff.mp e
  rw [List.getElem?_append_left hi]
  exact e
theorem Stp.mv (S : Stp μ H μ' H') : Mv μ H μ' H' := ⟨fun _ h n => S.mem h n, fun a o h e => S.keep a o h.1 e, fun _ _ e => S.ix e⟩
theorem Stp.trans (S : Stp μ H μ' H') (T : Stp μ' H' μ2 H2) : Stp μ H μ2 H2 := by
  obtain ⟨ν, e, f⟩ := S.pre
  obtain ⟨ν', e', f'⟩ := T.pre
  refine ⟨⟨ν ++ ν', by rw [e', e, List.append_assoc], fun a ha => ?_⟩, by rw [T.ms, S.ms], fun a o ha hs => ?_, fun a ha => S.dom a (T.dom a ha)⟩
  · rcases List.mem_append.mp ha with q | q
    · exact f a q
    · exact S.dom a (f' a q)
  · exact T.keep a o (S.memc ha (by rw [hs]; simp)) (S.keep a o ha hs)
theorem Mv.trans (S : Mv μ H μ' H') (T : Mv μ' H' μ2 H2) : Mv μ H μ2 H2 :=
  ⟨fun a h n => by
    cases e : H a with
    | none => exact absurd e n
    | some o => exact T.mem a (S.mem a h n) (by rw [S.keep a o h e]; simp), fun a o h e => T.keep a o (S.mem a h (by rw [e]; simp)) (S.keep a o h e), fun i a e => T.ix i a (S.ix i a e)⟩
theorem TupAt.mv {K : PySem.W.Frag} (S : Mv μ H μ' H') {a : Addr} {vs : List V} (t : TupAt K μ H a vs) : TupAt K μ' H' a vs := by
  rcases t with ⟨h1, h2⟩ | h
  · exact .inl ⟨S.mem _ h1 (by rw [h2]; simp), S.keep _ _ h1 h2⟩
  · exact .inr h
theorem FrzAt.mv {K : PySem.W.Frag} (S : Mv μ H μ' H') {a : Addr} {vs : List V} (t : FrzAt K μ H a vs) : FrzAt K μ' H' a vs := by
  rcases t with ⟨h1, o, h2⟩ | h
  · exact .inl ⟨S.mem _ h1 (by rw [h2]; simp), o, S.keep _ _ h1 h2⟩
  · exact .inr h

mutual
theorem Rep.mv (S : Mv μ H μ' H') : ∀ {d : D} {v : V}, Rep K μ H d v → Rep K μ' H' d v
  | _, _, .non => .non
  | _, _, .bl b => .bl b
  | _, _, .int i => .int i
  | _, _, .str x => .str x
  | _, _, .ty n => .ty n
  | _, _, .tup t r => .tup (t.mv S) (Reps.mv S r)
  | _, _, .lst h1 h2 r => .lst (S.mem _ h1 (by rw [h2]; simp)) (S.keep _ _ h1 h2) (Reps.mv S r)
  | _, _, .frz t r => .frz (t.mv S) (Reps.mv S r)
  | _, _, .cel e => .cel (S.ix _ _ e)
theorem Reps.mv (S : Mv μ H μ' H') : ∀ {ds : List D} {vs : List V}, Reps K μ H ds vs → Reps K μ' H' ds vs
  | _, _, .nil => .nil
  | _, _, .cons r rs => .cons (Rep.mv S r) (Reps.mv S rs)
end
theorem Rep.stp (S : Stp μ H μ' H') {d : D} {v : V} (r : Rep K μ H d v) : Rep K μ' H' d v := r.mv S.mv
theorem Reps.stp (S : Stp μ H μ' H') {ds : List D} {vs : List V} (r : Reps K μ H ds vs) : Reps K μ' H' ds vs := r.mv S.mv
theorem Reps.length : ∀ {ds : List D} {vs : List V}, Reps K μ H ds vs → ds.length = vs.length
  | _, _, .nil => rfl
  | _, _, .cons _ rs => by simp [Reps.length rs]
theorem Reps.get : ∀ {ds : List D} {vs : List V} {i : Nat} {d : D}, Reps K μ H ds vs → ds[i]? = some d → ∃ v, vs[i]? = some v ∧ Rep K μ H d v
  | _, _, _, _, .nil, e => by simp at e
  | _, _, 0, _, .cons r _, e => by simp at e; subst e; exact ⟨_, by simp, r⟩
  | _, _, i + 1, d, .cons _ rs, e => by
    obtain ⟨v, h1, h2⟩ := Reps.get (i := i) (d := d) rs (by simpa using e)
    exact ⟨v, by simpa using h1, h2⟩
theorem Reps.getV : ∀ {ds : List D} {vs : List V} {i : Nat} {v : V}, Reps K μ H ds vs → vs[i]? = some v → ∃ d, ds[i]? = some d ∧ Rep K μ H d v
  | _, _, _, _, .nil, e => by simp at e
  | _, _, 0, _, .cons r _, e => by simp at e; subst e; exact ⟨_, by simp, r⟩
  | _, _, i + 1, d, .cons _ rs, e => by
    obtain ⟨v, h1, h2⟩ := Reps.getV (i := i) (v := d) rs (by simpa using e)
    exact ⟨v, by simpa using h1, h2⟩
theorem Reps.append : ∀ {ds es : List D} {vs ws : List V}, Reps K μ H ds vs → Reps K μ H es ws → Reps K μ H (ds ++ es) (vs ++ ws)
  | _, _, _, _, .nil, s => s
  | _, _, _, _, .cons r t, s => .cons r (Reps.append t s)
theorem Reps.drop : ∀ {ds : List D} {vs : List V} (n : Nat), Reps K μ H ds vs → Reps K μ H (ds.drop n) (vs.drop n)
  | _, _, 0, r => r
  | _, _, _ + 1, .nil => .nil
  | _, _, n + 1, .cons _ t => Reps.drop n t
theorem Reps.take : ∀ {ds : List D} {vs : List V} (n : Nat), Reps K μ H ds vs → Reps K μ H (ds.take n) (vs.take n)
  | _, _, 0, _ => .nil
  | _, _, _ + 1, .nil => .nil
  | _, _, n + 1, .cons r t => .cons r (Reps.take n t)
theorem Reps.set {d : D} {v : V} (r : Rep K μ H d v) : ∀ {ds : List D} {vs : List V} (i : Nat), Reps K μ H ds vs → Reps K μ H (ds.set i d) (vs.set i v)
  | _, _, _, .nil => .nil
  | _, _, 0, .cons _ t => .cons r t
  | _, _, i + 1, .cons q t => .cons q (Reps.set r i t)
theorem Reps.eraseIdx : ∀ {ds : List D} {vs : List V} (i : Nat), Reps K μ H ds vs → Reps K μ H (ds.eraseIdx i) (vs.eraseIdx i)
  | _, _, _, .nil => .nil
  | _, _, 0, .cons _ t => t
  | _, _, i + 1, .cons q t => .cons q (Reps.eraseIdx i t)
theorem Reps.rep {ds : List D} {vs : List V} (r : Reps K μ H ds vs) : ∀ n : Nat, Reps K μ H (List.replicate n ds).flatten (List.replicate n vs).flatten
  | 0 => .nil
  | n + 1 => by
    rw [List.replicate_succ, List.replicate_succ, List.flatten_cons, List.flatten_cons]
    exact r.append (Reps.rep r n)
theorem Reps.ne_nil {ds : List D} {vs : List V} (r : Reps K μ H ds vs) (h : ds ≠ []) : vs ≠ [] := by
  cases r with
  | nil => exact absurd rfl h
  | cons _ _ => simp

theorem RelS.mv {σ : Sg} {σv : L2.St} (S : Mv μ H μ' H') (r : RelS K μ H σ σv) : RelS K μ' H' σ σv :=
  ⟨r.len, fun i d e => by
    obtain ⟨v, h1, h2⟩ := r.get i d e
    exact ⟨v, h1, h2.mv S⟩⟩
theorem RelS.stp {σ : Sg} {σv : L2.St} (S : Stp μ H μ' H') (r : RelS K μ H σ σv) : RelS K μ' H' σ σv := r.mv S.mv
theorem RelS.set {σ : Sg} {σv : L2.St} (r : RelS K μ H σ σv) {d : D} {v : V} (hr : Rep K μ H d v) (i : Nat) : RelS K μ H (σ.set i (some d)) (σv.set i (some v)) := by
  refine ⟨by rw [List.length_set, List.length_set]; exact r.len, fun j e hj => ?_⟩
  by_cases hij : i = j
  · subst hij
    by_cases hl : i < σ.length
    · rw [List.getElem?_set_self hl] at hj
      cases hj
      exact ⟨v, List.getElem?_set_self (by rw [← r.len]; exact hl), hr⟩
    · rw [List.getElem?_eq_none (by simpa using hl)] at hj
      cases hj
  · rw [List.getElem?_set_ne hij] at hj
    obtain ⟨w, h1, h2⟩ := r.get j e hj
    exact ⟨w, by rw [List.getElem?_set_ne hij]; exact h1, h2⟩
theorem RelS.wipe1 {σ : Sg} {σv : L2.St} (r : RelS K μ H σ σv) (i : Nat) : RelS K μ H (σ.set i none) (σv.set i none) := by
  refine ⟨by rw [List.length_set, List.length_set]; exact r.len, fun j e hj => ?_⟩
  by_cases hij : i = j
  · subst hij
    by_cases hl : i < σ.length
    · rw [List.getElem?_set_self hl] at hj
      cases hj
    · rw [List.getElem?_eq_none (by simpa using hl)] at hj
      cases hj
  · rw [List.getElem?_set_ne hij] at hj
    obtain ⟨w, h1, h2⟩ := r.get j e hj
    exact ⟨w, by rw [List.getElem?_set_ne hij]; exact h1, h2⟩
theorem RelS.wipe {σ : Sg} {σv : L2.St} (r : RelS K μ H σ σv) : ∀ vs : List Nat, RelS K μ H (wipeD σ vs) (L2.wipe σv vs)
  | [] => r
  | v :: vs => (RelS.wipe r vs).wipe1 v

theorem HRel.mem (R : HRel K μ h H) {a : Addr} (ha : a ∈ μ.cs) : H a ≠ none := by
  obtain ⟨i, hi, e⟩ := List.getElem_of_mem ha
  have hl : i < h.length := by rw [← R.len]; exact hi
  obtain ⟨b, vs, e1, e2, _⟩ := R.cel i h[i] (List.getElem?_eq_getElem hl)
  rw [List.getElem?_eq_getElem hi, e] at e1
  cases e1
  rw [e2]; simp
theorem HRel.fresh (R : HRel K μ h H) {a : Addr} (ha : H a = none) : Off μ a := ⟨fun hm => R.mem hm ha, fun hm => (R.ms a hm).1 ha⟩
/-- all that stood stands -/
theorem HRel.ext (R : HRel K μ h H) (k : ∀ a o, H a = some o → H' a = some o) (dm : ∀ a, H' a = none → H a = none) : HRel K μ h H' ∧ Stp μ H μ H' := by
  have S : Stp μ H μ H' := ⟨⟨[], by simp, fun _ z => by cases z⟩, rfl, fun a o _ e => k a o e, dm⟩
  refine ⟨⟨R.len, R.nd, fun i ds e => ?_, fun a ha => ⟨fun q => (R.ms a ha).1 (dm a q), (R.ms a ha).2⟩⟩, S⟩
  obtain ⟨a, vs, e1, e2, e3⟩ := R.cel i ds e
  exact ⟨a, vs, e1, k _ _ e2, e3.stp S⟩
theorem upd_none {o : HO} {p a : Addr} (e : upd H p o a = none) : H a = none := by
  unfold upd at e
  split at e
  · cases e
  · exact e
/-- a new object that is no cell -/
theorem HRel.new (R : HRel K μ h H) {p : Addr} (o : HO) (hp : H p = none) : HRel K μ h (upd H p o) ∧ Stp μ H μ (upd H p o) :=
  R.ext (fun a u e => by rw [upd_ne (ne_of_none e hp)]; exact e) fun a e => upd_none e
/-- a new cell -/
theorem HRel.newCell (R : HRel K μ h H) {p : Addr} {ds : List D} {vs : List V} (hp : H p = none) (r : Reps K μ H ds vs) :
    HRel K ⟨μ.cs ++ [p], μ.ms⟩ (h ++ [ds]) (upd H p (.lst vs)) ∧ Stp μ H ⟨μ.cs ++ [p], μ.ms⟩ (upd H p (.lst vs)) ∧ Rep K ⟨μ.cs ++ [p], μ.ms⟩ (upd H p (.lst vs)) (.cel h.length) (.ref p) := by
  have S : Stp μ H ⟨μ.cs ++ [p], μ.ms⟩ (upd H p (.lst vs)) := ⟨⟨[p], rfl, fun a ha => by rw [List.mem_singleton.mp ha]; exact hp⟩, rfl, fun a o _ e => by rw [upd_ne (ne_of_none e hp)]; exact e, fun a e => upd_none e⟩
  refine ⟨⟨by simp [R.len], ?_, fun i es e => ?_, fun a ha => ⟨fun q => (R.ms a ha).1 (upd_none q), fun hm => ?_⟩⟩, S, .cel ?_⟩
  · show (μ.cs ++ [p]).Nodup
    rw [List.nodup_append]
    refine ⟨R.nd, by simp, fun a ha b hb => ?_⟩
    rw [List.mem_singleton.mp hb]
    intro e
    rw [e] at ha
    exact (R.fresh hp).1 ha
  · by_cases hi : i < h.length
    · rw [List.getElem?_append_left hi] at e
      obtain ⟨a, ws, e1, e2, e3⟩ := R.cel i es e
      exact ⟨a, ws, S.ix e1, by rw [upd_ne (ne_of_none e2 hp)]; exact e2, e3.stp S⟩
    · have hi2 : i = h.length := by
        have := (List.getElem?_eq_some_iff.mp e).1
        simp at this
        omega
      subst hi2
      rw [List.getElem?_append_right (Nat.le_refl _)] at e
      simp at e
      subst e
      refine ⟨p, vs, ?_, upd_same, r.stp S⟩
      show (μ.cs ++ [p])[h.length]? = some p
      rw [← R.len, List.getElem?_append_right (Nat.le_refl _)]
      simp
  · rcases List.mem_append.mp hm with q | q
    · exact (R.ms a ha).2 q
    · rw [List.mem_singleton.mp q] at ha
      exact (R.fresh hp).2 ha
  · show (μ.cs ++ [p])[h.length]? = some p
    rw [← R.len, List.getElem?_append_right (Nat.le_refl _)]
    simp
/-- a cell is changed -/
theorem HRel.put (R : HRel K μ h H) {c : Nat} {a : Addr} {ds : List D} {vs : List V} (ha : μ.cs[c]? = some a) (r : Reps K μ H ds vs) :
    HRel K μ (h.set c ds) (upd H a (.lst vs)) ∧ Stp μ H μ (upd H a (.lst vs)) := by
  have hm : a ∈ μ.cs := List.mem_of_getElem? ha
  have S : Stp μ H μ (upd H a (.lst vs)) := ⟨⟨[], by simp, fun _ z => by cases z⟩, rfl, fun b o hb e => by
    rw [upd_ne (fun q : b = a => hb (by rw [q]; exact hm))]; exact e, fun b e => upd_none e⟩
  refine ⟨⟨by rw [List.length_set]; exact R.len, R.nd, fun i es e => ?_, fun b hb => ⟨fun q => (R.ms b hb).1 (upd_none q), (R.ms b hb).2⟩⟩, S⟩
  by_cases hic : c = i
  · subst hic
    have hl : c < h.length := by rw [← R.len]; exact (List.getElem?_eq_some_iff.mp ha).1
    rw [List.getElem?_set_self hl] at e
    cases e
    exact ⟨a, vs, ha, upd_same, r.stp S⟩
  · rw [List.getElem?_set_ne hic] at e
    obtain ⟨b, ws, e1, e2, e3⟩ := R.cel i es e
    have hne : b ≠ a := fun q => by
      subst q
      obtain ⟨h1, g1⟩ := List.getElem?_eq_some_iff.mp ha
      obtain ⟨h2, g2⟩ := List.getElem?_eq_some_iff.mp e1
      exact hic ((List.getElem_inj R.nd).mp (g1.trans g2.symm))
    exact ⟨b, ws, e1, by rw [upd_ne hne]; exact e2, e3.stp S⟩
/-- the cells, where all that they lean on stays -/
theorem HRel.mv (R : HRel K μ h H) (M : Mv μ H μ' H') (hc : μ'.cs = μ.cs) (k : ∀ a o, a ∈ μ.cs → H a = some o → H' a = some o) (hm : ∀ a ∈ μ'.ms, H' a ≠ none ∧ a ∉ μ.cs) : HRel K μ' h H' :=
  ⟨by rw [hc]; exact R.len, by rw [hc]; exact R.nd, fun i ds e => by
    obtain ⟨a, vs, e1, e2, e3⟩ := R.cel i ds e
    exact ⟨a, vs, by rw [hc]; exact e1, k _ _ (List.mem_of_getElem? e1) e2, e3.mv M⟩, fun a ha => by rw [hc]; exact hm a ha⟩
/-- a new list that is being made: masked -/
theorem HRel.mask (R : HRel K μ h H) {p : Addr} (o : HO) (hp : H p = none) : HRel K ⟨μ.cs, p :: μ.ms⟩ h (upd H p o) ∧ Mv μ H ⟨μ.cs, p :: μ.ms⟩ (upd H p o) ∧ Stp μ H μ (upd H p o) := by
  have hf := R.fresh hp
  have M : Mv μ H ⟨μ.cs, p :: μ.ms⟩ (upd H p o) := by
    refine ⟨fun a h n => ⟨h.1, fun q => ?_⟩, fun a u h e => by rw [upd_ne (ne_of_none e hp)]; exact e, fun _ _ e => e⟩
    rcases List.mem_cons.mp q with q | q
    · exact n (by rw [q]; exact hp)
    · exact h.2 q
  refine ⟨R.mv M rfl (fun a u _ e => by rw [upd_ne (ne_of_none e hp)]; exact e) fun a ha => ?_, M, (R.new o hp).2⟩
  rcases List.mem_cons.mp ha with q | q
  · exact ⟨by rw [q, upd_same]; simp, by rw [q]; exact hf.1⟩
  · exact ⟨fun z => (R.ms a q).1 (upd_none z), (R.ms a q).2⟩
/-- what is being made is changed -/
theorem HRel.grow (R : HRel K μ h H) {p : Addr} {o : HO} (hp : p ∈ μ.ms) : HRel K μ h (upd H p o) ∧ Mv μ H μ (upd H p o) := by
  have M : Mv μ H μ (upd H p o) := ⟨fun _ h _ => h, fun a u h e => by
    rw [upd_ne (fun q : a = p => h.2 (by rw [q]; exact hp))]; exact e, fun _ _ e => e⟩
  exact ⟨R.mv M rfl (fun a u ha e => by rw [upd_ne (fun q : a = p => (R.ms p hp).2 (by rw [← q]; exact ha))]; exact e) fun a ha => ⟨fun z => (R.ms a ha).1 (upd_none z), (R.ms a ha).2⟩, M⟩
theorem HRel.at (R : HRel K μ h H) {c : Nat} {a : Addr} {ds : List D} (ha : μ.cs[c]? = some a) (e : h[c]? = some ds) : ∃ vs, H a = some (.lst vs) ∧ Reps K μ H ds vs := by
  obtain ⟨b, vs, e1, e2, e3⟩ := R.cel c ds e
  rw [ha] at e1
  cases e1
  exact ⟨vs, e2, e3⟩
/-- fewer things are being made -/
def Mu.less (μ : Mu) (ms : List Addr) : Mu := ⟨μ.cs, ms⟩
theorem Off.less {a : Addr} {ms : List Addr} (h : Off μ a) (hs : ∀ b ∈ ms, b ∈ μ.ms) : Off (μ.less ms) a := ⟨h.1, fun q => h.2 (hs a q)⟩
mutual
theorem Rep.less {ms : List Addr} (hs : ∀ b ∈ ms, b ∈ μ.ms) : ∀ {d : D} {v : V}, Rep K μ H d v → Rep K (μ.less ms) H d v
  | _, _, .non => .non
  | _, _, .bl b => .bl b
  | _, _, .int i => .int i
  | _, _, .str x => .str x
  | _, _, .ty n => .ty n
  | _, _, .tup t r => by
    refine .tup ?_ (Reps.less hs r)
    rcases t with ⟨h1, h2⟩ | h
    · exact .inl ⟨h1.less hs, h2⟩
    · exact .inr h
  | _, _, .lst h1 h2 r => .lst (h1.less hs) h2 (Reps.less hs r)
  | _, _, .frz t r => by
    refine .frz ?_ (Reps.less hs r)
    rcases t with ⟨h1, h2⟩ | h
    · exact .inl ⟨h1.less hs, h2⟩
    · exact .inr h
  | _, _, .cel e => .cel e
theorem Reps.less {ms : List Addr} (hs : ∀ b ∈ ms, b ∈ μ.ms) : ∀ {ds : List D} {vs : List V}, Reps K μ H ds vs → Reps K (μ.less ms) H ds vs
  | _, _, .nil => .nil
  | _, _, .cons r rs => .cons (Rep.less hs r) (Reps.less hs rs)
end
theorem HRel.less (R : HRel K μ h H) {ms : List Addr} (hs : ∀ b ∈ ms, b ∈ μ.ms) : HRel K (μ.less ms) h H :=
  ⟨R.len, R.nd, fun i ds e => by
    obtain ⟨a, vs, e1, e2, e3⟩ := R.cel i ds e
    exact ⟨a, vs, e1, e2, e3.less hs⟩, fun a ha => R.ms a (hs a ha)⟩
end

/-- what is wanted behind an expression: of every value that stands for d, behind every step -/
def AnsE (K : PySem.W.Frag) (μ : Mu) (H : Hp) (d : D) (h' : Hs) (Q : VK) : Prop := ∀ v H' μ', Stp μ H μ' H' → HRel K μ' h' H' → Rep K μ' H' d v → Q v H'
def AnsA (K : PySem.W.Frag) (μ : Mu) (H : Hp) (ds : List D) (h' : Hs) (Q : List V → Hp → Prop) : Prop := ∀ vs H' μ', Stp μ H μ' H' → HRel K μ' h' H' → Reps K μ' H' ds vs → Q vs H'
def AnsT (K : PySem.W.Frag) (μ : Mu) (H : Hp) (b : Bool) (h' : Hs) (Q : Bool → Hp → Prop) : Prop := ∀ H' μ', Stp μ H μ' H' → HRel K μ' h' H' → Q b H'
def AnsO (K : PySem.W.Frag) (μ : Mu) (H : Hp) (o : Option Int) (h' : Hs) (Q : Option Int → Hp → Prop) : Prop := ∀ H' μ', Stp μ H μ' H' → HRel K μ' h' H' → Q o H'
def AnsG (K : PySem.W.Frag) (μ : Mu) (H : Hp) (σ' : Sg) (h' : Hs) (Q : L2.St → Hp → Prop) : Prop := ∀ σv' H' μ', Stp μ H μ' H' → HRel K μ' h' H' → RelS K μ' H' σ' σv' → Q σv' H'
theorem AnsE.step {K : PySem.W.Frag} {μ μ1 : Mu} {H H1 : Hp} {d : D} {h' : Hs} {Q : VK} (a : AnsE K μ H d h' Q) (S : Stp μ H μ1 H1) : AnsE K μ1 H1 d h' Q := fun v H' μ' S' => a v H' μ' (S.trans S')
theorem AnsA.step {K : PySem.W.Frag} {μ μ1 : Mu} {H H1 : Hp} {d : List D} {h' : Hs} {Q : List V → Hp → Prop} (a : AnsA K μ H d h' Q) (S : Stp μ H μ1 H1) : AnsA K μ1 H1 d h' Q := fun v H' μ' S' => a v H' μ' (S.trans S')
theorem AnsT.step {K : PySem.W.Frag} {μ μ1 : Mu} {H H1 : Hp} {d : Bool} {h' : Hs} {Q : Bool → Hp → Prop} (a : AnsT K μ H d h' Q) (S : Stp μ H μ1 H1) : AnsT K μ1 H1 d h' Q := fun H' μ' S' => a H' μ' (S.trans S')
theorem AnsG.step {K : PySem.W.Frag} {μ μ1 : Mu} {H H1 : Hp} {d : Sg} {h' : Hs} {Q : L2.St → Hp → Prop} (a : AnsG K μ H d h' Q) (S : Stp μ H μ1 H1) : AnsG K μ1 H1 d h' Q := fun v H' μ' S' => a v H' μ' (S.trans S')
theorem AnsE.now {K : PySem.W.Frag} {μ : Mu} {H : Hp} {d : D} {h : Hs} {Q : VK} {v : V} (a : AnsE K μ H d h Q) (R : HRel K μ h H) (r : Rep K μ H d v) : Q v H := a v H μ Stp.refl R r
/-- a new tuple, a new list -/
theorem AnsE.tup {K : PySem.W.Frag} {μ : Mu} {H : Hp} {ds : List D} {vs : List V} {h : Hs} {Q : VK} (a : AnsE K μ H (.tup ds) h Q) (R : HRel K μ h H) (r : Reps K μ H ds vs) {p : Addr} (hp : H p = none) : Q (.ref p) (upd H p (.tup vs)) := by
  obtain ⟨R', S⟩ := R.new (.tup vs) hp
  exact a _ _ _ S R' (.tup (.inl ⟨R.fresh hp, upd_same⟩) (r.stp S))
theorem AnsE.lst {K : PySem.W.Frag} {μ : Mu} {H : Hp} {ds : List D} {vs : List V} {h : Hs} {Q : VK} (a : AnsE K μ H (.lst ds) h Q) (R : HRel K μ h H) (r : Reps K μ H ds vs) {p : Addr} (hp : H p = none) : Q (.ref p) (upd H p (.lst vs)) := by
  obtain ⟨R', S⟩ := R.new (.lst vs) hp
  exact a _ _ _ S R' (.lst (R.fresh hp) upd_same (r.stp S))
theorem AnsE.cel {K : PySem.W.Frag} {μ : Mu} {H : Hp} {ds : List D} {vs : List V} {h : Hs} {Q : VK} (a : AnsE K μ H (.cel h.length) (h ++ [ds]) Q) (R : HRel K μ h H) (r : Reps K μ H ds vs) {p : Addr} (hp : H p = none) : Q (.ref p) (upd H p (.lst vs)) := by
  obtain ⟨R', S, rp⟩ := R.newCell hp r
  exact a _ _ _ S R' rp

/-! ### the semantic readings -/
def WE (X : Cx) (e : Expr) : TE := fun σ H Q => ∀ (pins : List (Addr × Obj)) (s : Shared), Inv X pins σ H s → wpAny (model X.prog X.w) X.A (eval e X.env) (EP X pins σ Q) X.xe s
def WT (X : Cx) (e : Expr) : TT := fun σ H Q => ∀ (pins : List (Addr × Obj)) (s : Shared), Inv X pins σ H s → wpAny (model X.prog X.w) X.A (isTrue e X.env (eval e X.env)) (TP X pins σ Q) X.xe s
def WA (X : Cx) (es : List Expr) : TA := fun σ H Q => ∀ (pos : Pos) (pins : List (Addr × Obj)) (s : Shared), Inv X pins σ H s → wpAny (model X.prog X.w) X.A (spliced (backTo pos (starEach es X.env))) (AP X pins σ Q) X.xe s
def WK (X : Cx) (kws : List Keyword) : TA := fun σ H Q => ∀ (pos : Pos) (pins : List (Addr × Obj)) (s : Shared), Inv X pins σ H s → wpAny (model X.prog X.w) X.A (evalAll ((backToKw pos (keywordEach kws X.env)).map (·.2))) (AP X pins σ Q) X.xe s
def WG (X : Cx) (t : Expr) : TG := fun v σ H Q => ∀ (pins : List (Addr × Obj)) (s : Shared) (u : Value), Inv X pins σ H s → RelV v u →
    wpAny (model X.prog X.w) X.A (assign t X.env u) (fun _ s' => ∃ σ' H', Inv X pins σ' H' s' ∧ Q σ' H') X.xe s
def WGs (X : Cx) (ts : List Expr) : TGs := fun vs σ H Q => ∀ (pins : List (Addr × Obj)) (s : Shared) (us : List Value), Inv X pins σ H s → Vals vs us →
    wpAny (model X.prog X.w) X.A (assignInOrder ((assignEach ts X.env).map (·.2)) us) (fun _ s' => ∃ σ' H', Inv X pins σ' H' s' ∧ Q σ' H') X.xe s
def WI (X : Cx) (tg iter : Expr) : TI := fun σ H R => ∀ (pins : List (Addr × Obj)) (s : Shared), Inv X pins σ H s →
    wpAny (model X.prog X.w) X.A (eval iter X.env) (fun v s1 => wpAny (model X.prog X.w) X.A (pyIter v) (PIE X pins σ tg R) X.xe s1) X.xe s
def WO (X : Cx) (e : Option Expr) (t : TO) : Prop := PO X e t
def WS (X : Cx) (st : Stmt) : TS := fun D σ H => ∀ (pins : List (Addr × Obj)) (s : Shared), Inv X pins σ H s → wpAny (model X.prog X.w) X.A (exec st X.env) (SP X pins D) X.xe s
def WSs (X : Cx) (st : List Stmt) : TS := fun D σ H => ∀ (pins : List (Addr × Obj)) (s : Shared), Inv X pins σ H s → wpAny (model X.prog X.w) X.A (execs st X.env) (SP X pins D) X.xe s
section
variable {X : Cx} {e : Expr} {σ : L2.St} {H : Hp}
theorem pe_we : PE X e (WE X e) := ⟨fun pins s σ H Q I h => h pins s I⟩
theorem we_of {t : TE} {Q : VK} (h : PE X e t) (q : t σ H Q) : WE X e σ H Q := fun pins s I => h.run pins s σ H Q I q
theorem pt_wt : PT X e (WT X e) := ⟨fun pins s σ H Q I h => h pins s I⟩
theorem wt_of {t : TT} {Q : Bool → Hp → Prop} (h : PT X e t) (q : t σ H Q) : WT X e σ H Q := fun pins s I => h.run pins s σ H Q I q
theorem pa_wa {es : List Expr} : PA X es (WA X es) := ⟨fun pos pins s σ H Q I h => h pos pins s I⟩
theorem wa_of {es : List Expr} {t : TA} {Q : List V → Hp → Prop} (h : PA X es t) (q : t σ H Q) : WA X es σ H Q := fun pos pins s I => h.run pos pins s σ H Q I q
theorem pk_wk {es : List Keyword} : PK X es (WK X es) := ⟨fun pos pins s σ H Q I h => h pos pins s I⟩
theorem wk_of {es : List Keyword} {t : TA} {Q : List V → Hp → Prop} (h : PK X es t) (q : t σ H Q) : WK X es σ H Q := fun pos pins s I => h.run pos pins s σ H Q I q
theorem pg_wg : PG X e (WG X e) := ⟨fun pins s σ H v u Q I r h => h pins s u I r⟩
theorem wg_of {t : TG} {v : V} {Q : L2.St → Hp → Prop} (h : PG X e t) (q : t v σ H Q) : WG X e v σ H Q := fun pins s u I r => h.run pins s σ H v u Q I r q
theorem pgs_wgs {ts : List Expr} : PGs X ts (WGs X ts) := ⟨fun pins s σ H v u Q I r h => h pins s u I r⟩
theorem wgs_of {ts : List Expr} {t : TGs} {v : List V} {Q : L2.St → Hp → Prop} (h : PGs X ts t) (q : t v σ H Q) : WGs X ts v σ H Q := fun pins s u I r => h.run pins s σ H v u Q I r q
theorem pi_wi {tg : Expr} : PI X tg e (WI X tg e) := ⟨fun pins s σ H R I h => h pins s I⟩
theorem wi_of {tg : Expr} {t : TI} {R : L2.It → Hp → Prop} (h : PI X tg e t) (q : t σ H R) : WI X tg e σ H R := fun pins s I => h.run pins s σ H R I q
theorem ps_ws {st : Stmt} : PS X st (WS X st) := ⟨fun pins s σ H D I h => h pins s I⟩
theorem ws_of {st : Stmt} {t : TS} {D : Ends} (h : PS X st t) (q : t D σ H) : WS X st D σ H := fun pins s I => h.run pins s σ H D I q
theorem pss_wss {st : List Stmt} : PSs X st (WSs X st) := ⟨fun pins s σ H D I h => h pins s I⟩
theorem wss_of {st : List Stmt} {t : TS} {D : Ends} (h : PSs X st t) (q : t D σ H) : WSs X st D σ H := fun pins s I => h.run pins s σ H D I q
end
end Py

set_option Elab.async false
set_option linter.all false
set_option maxRecDepth 100000
set_option maxHeartbeats 1000000
/-! Operations by values: what PyCore says of data, the machine does with values. -/
namespace Py
open PySem PySem.Spec PyProof.Rows L2

def WB (X : Cx) (f : Value → Value → Sem Value) : R2 := fun x y H Q => ∀ (pins : List (Addr × Obj)) (s : Shared) (σ : L2.St) (v u : Value), Inv X pins σ H s → RelV x v → RelV y u → wpAny (model X.prog X.w) X.A (f v u) (EP X pins σ Q) X.xe s
theorem wb_ok {X : Cx} {f : Value → Value → Sem Value} : OpR X f (WB X f) := fun pins s σ H x y v u Q I rx ry h => h pins s σ v u I rx ry
theorem wb_of {X : Cx} {f : Value → Value → Sem Value} {r : R2} {x y : V} {H : Hp} {Q : VK} (o : OpR X f r) (q : r x y H Q) : WB X f x y H Q := fun pins s σ v u I rx ry => o pins s σ H x y v u Q I rx ry q
def WC (X : Cx) (f : Value) : List V → Hp → VK → Prop := fun xs H Q => ∀ (pins : List (Addr × Obj)) (s : Shared) (σ : L2.St) (us : List Value), Inv X pins σ H s → Vals xs us → wpAny (model X.prog X.w) X.A (call f us) (EP X pins σ Q) X.xe s
theorem wc_ok {X : Cx} {f : Value} : CallR X f (WC X f) := fun pins s σ H xs us Q I r h => h pins s σ us I r
theorem wc_of {X : Cx} {f : Value} {r : List V → Hp → VK → Prop} {xs : List V} {H : Hp} {Q : VK} (o : CallR X f r) (q : r xs H Q) : WC X f xs H Q := fun pins s σ us I rx => o pins s σ H xs us Q I rx q

def opOf : Bop → Operator
  | .add => .Add | .sub => .Sub | .mul => .Mult | .fdiv => .FloorDiv | .mod => .Mod | .pow => .Pow
def copOf : Cop → CmpOp
  | .eq => .Eq | .ne => .NotEq | .lt => .Lt | .le => .LtE | .gt => .Gt | .ge => .GtE | .is_ => .Is | .isn => .IsNot | .in_ => .In | .nin => .NotIn

theorem lim_line {n : Nat} (h : n ≤ lim) : n ≤ sizeLine := Nat.le_trans h (by decide)
theorem lim_lt {n : Nat} (h : n < lim) : n < sizeLine := Nat.lt_of_lt_of_le h (by decide)

section
variable {X : Cx} {μ : Mu} {h : Hs} {H : Hp} {Q : VK}

theorem binop_ok {b : Bop} {x y z : D} (e : binop b x y = some z) (R : HRel X.K μ h H) {vx vy : V} (rx : Rep X.K μ H x vx) (ry : Rep X.K μ H y vy) (a : AnsE X.K μ H z h Q) : WB X (binaryOp (opOf b)) vx vy H Q := by
  unfold binop at e
  split at e
  · cases e; cases rx; cases ry
    exact wb_of op_add ⟨_, _, rfl, rfl, a.now R (.int _)⟩
  · split at e
    · rename_i hl
      cases e; cases rx with
      | tup tx rx => cases ry with
        | tup ty ry =>
          refine wb_of op_catA ⟨_, _, _, _, rfl, rfl, tx.sq, ty.sq, ?_, fun h0 => ?_, fun h1 h0 => ?_, fun _ _ p hp => a.tup R (rx.append ry) hp⟩
          · rw [← rx.length, ← ry.length]; exact lim_line hl
          · subst h0
            cases rx
            exact a.now R (.tup ty ry)
          · subst h0
            cases ry
            rw [List.append_nil] at a
            exact a.now R (.tup tx rx)
    · cases e
  · split at e
    · rename_i hl
      cases e; cases rx with
      | lst _ tx rx => cases ry with
        | lst _ ty ry =>
          refine wb_of op_cat ⟨_, _, _, _, rfl, rfl, tx, ty, ?_, fun p hp => a.lst R (rx.append ry) hp⟩
          rw [← rx.length, ← ry.length]; exact lim_line hl
    · cases e
  · cases e; cases rx; cases ry
    exact wb_of op_sub ⟨_, _, rfl, rfl, a.now R (.int _)⟩
  · split at e
    · rename_i hl
      cases e; cases rx; cases ry
      exact wb_of op_mulW ⟨_, _, rfl, rfl, by unfold mulOk at hl; have h9 := of_decide_eq_true hl; exact h9, a.now R (.int _)⟩
    · cases e
  · split at e
    · rename_i hl
      cases e; cases rx with
      | tup tx rx =>
        cases ry
        exact wb_of op_repT ⟨_, _, _, rfl, rfl, tx.sq, rx.ne_nil hl.1, hl.2.1, hl.2.2.1, by rw [← rx.length]; exact hl.2.2.2, fun p hp => a.tup R (rx.rep _) hp⟩
    · cases e
  · split at e
    · rename_i hl
      cases e; cases rx with
      | lst _ tx rx =>
        cases ry
        refine wb_of op_rep ⟨_, _, _, rfl, rfl, tx, by omega, by omega, ?_, fun p hp => a.lst R (rx.rep _) hp⟩
        rw [← rx.length]
        have h1 := hl.2.2
        refine Nat.le_trans (Nat.mul_le_mul h1 (show _ ≤ 1000 by omega)) (by decide)
    · cases e
  · split at e
    · rename_i hl
      cases e; cases rx; cases ry
      exact wb_of op_fdivW ⟨_, _, rfl, rfl, hl, a.now R (.int _)⟩
    · cases e
  · split at e
    · rename_i hl
      cases e; cases rx; cases ry
      exact wb_of op_mod ⟨_, _, rfl, rfl, hl, a.now R (.int _)⟩
    · cases e
  · split at e
    · rename_i hl
      cases e; cases rx; cases ry
      exact wb_of op_pow ⟨_, _, rfl, rfl, ⟨hl.1, by omega, hl.2.2⟩, a.now R (.int _)⟩
    · cases e
  · cases e

mutual
theorem dp_of : ∀ {d : D} {p : PyData} {v : V}, toP d = some p → Rep X.K μ H d v → Dp X.K H v p
  | .non, p, v, e, r => by
    cases r
    simp only [toP, Option.some.injEq] at e; subst e
    exact .non
  | .bl b, p, v, e, r => by
    cases r
    simp only [toP, Option.some.injEq] at e; subst e
    exact .bl b
  | .int b, p, v, e, r => by
    cases r
    simp only [toP, Option.some.injEq] at e; subst e
    exact .int b
  | .str b, p, v, e, r => by
    cases r
    simp only [toP, Option.some.injEq] at e; subst e
    exact .str b
  | .ty _, p, v, e, r => by simp [toP] at e
  | .frz _, p, v, e, r => by simp [toP] at e
  | .cel _, p, v, e, r => by simp [toP] at e
  | .tup ds, p, v, e, r => by
    cases r with
    | tup t r =>
      simp only [toP, Option.map_eq_some_iff] at e
      obtain ⟨ps, e1, rfl⟩ := e
      exact .tup t.sq (dps_of e1 r)
  | .lst ds, p, v, e, r => by
    cases r with
    | lst _ t r =>
      simp only [toP, Option.map_eq_some_iff] at e
      obtain ⟨ps, e1, rfl⟩ := e
      exact .lst (.of t) (dps_of e1 r)
theorem dps_of : ∀ {ds : List D} {ps : List PyData} {vs : List V}, toPs ds = some ps → Reps X.K μ H ds vs → DpAll X.K H vs ps
  | [], ps, vs, e, r => by
    cases r
    simp only [toPs, Option.some.injEq] at e; subst e
    exact .nil
  | d :: ds, ps, vs, e, r => by
    cases r with
    | cons r rs =>
      simp only [toPs, Option.bind_eq_some_iff, Option.map_eq_some_iff] at e
      obtain ⟨q, e1, qs, e2, rfl⟩ := e
      exact .cons (dp_of e1 r) (dps_of e2 rs)
end
theorem dp_rd (R : HRel X.K μ h H) {d : D} {p : PyData} {v : V} (e : toP (rd h d) = some p) (r : Rep X.K μ H d v) : Dp X.K H v p := by
  cases d with
  | cel i =>
    cases r with
    | cel ha =>
      cases he : h[i]? with
      | some ds =>
        obtain ⟨vs, e2, e3⟩ := R.at ha he
        simp only [rd, he, toP, Option.map_eq_some_iff] at e
        obtain ⟨ps, e1, rfl⟩ := e
        exact .lst (.of e2) (dps_of e1 e3)
      | none => simp [rd, he, toP] at e
  | non => exact dp_of e r
  | bl _ => exact dp_of e r
  | int _ => exact dp_of e r
  | str _ => exact dp_of e r
  | ty _ => exact dp_of e r
  | tup _ => exact dp_of e r
  | lst _ => exact dp_of e r
  | frz _ => exact dp_of e r

theorem bl_now {k : Bool} (a : AnsE X.K μ H (.bl k) h Q) (R : HRel X.K μ h H) : Q (.bl k) H := a.now R (.bl k)
theorem flat_ints : ∀ {ds : List D} {ns : List Int} {vs : List V}, intsD ds = some ns → Reps X.K μ H ds vs → vs = ns.map V.int
  | [], ns, vs, e, r => by
    cases r
    simp only [intsD, Option.some.injEq] at e; subst e; rfl
  | d :: ds, ns, vs, e, r => by
    cases r with
    | cons r rs =>
      cases d <;> simp only [intsD, Option.map_eq_some_iff, reduceCtorEq] at e
      obtain ⟨ms, e1, rfl⟩ := e
      cases r
      rw [flat_ints e1 rs]; rfl
theorem flat_bools : ∀ {ds : List D} {ns : List Bool} {vs : List V}, boolsD ds = some ns → Reps X.K μ H ds vs → vs = ns.map V.bl
  | [], ns, vs, e, r => by
    cases r
    simp only [boolsD, Option.some.injEq] at e; subst e; rfl
  | d :: ds, ns, vs, e, r => by
    cases r with
    | cons r rs =>
      cases d <;> simp only [boolsD, Option.map_eq_some_iff, reduceCtorEq] at e
      obtain ⟨ms, e1, rfl⟩ := e
      cases r
      rw [flat_bools e1 rs]; rfl
theorem flatV_ints (ns : List Int) : (ns.map V.int).all flatV = true := by
  induction ns with
  | nil => rfl
  | cons n ns ih => simp [flatV]
theorem inV_ints (i : Int) (ns : List Int) : inV (.int i) (ns.map V.int) = ns.any fun j => decide (j = i) := by
  unfold inV
  rw [List.any_map]
  congr 1

theorem cmpop_ok (hu : X.A.units + 64 < cLine) {o : Cop} {x y : D} {k : Bool} (e : cmpop h o x y = some k) (R : HRel X.K μ h H) {vx vy : V} (rx : Rep X.K μ H x vx) (ry : Rep X.K μ H y vy) (a : AnsE X.K μ H (.bl k) h Q) :
    WB X (compareOp (copOf o)) vx vy H Q := by
  have eqc : ∀ {b : Bool}, eqD h x y = some b → AnsE X.K μ H (.bl b) h Q → WB X (compareOp .Eq) vx vy H Q := fun {b} e a => by
    simp only [eqD, Option.bind_eq_some_iff] at e
    obtain ⟨p, e1, q, e2, e3⟩ := e
    split at e3
    · rename_i hs
      rw [Bool.and_eq_true] at hs
      cases e3
      exact wb_of (op_eqD hu) ⟨p, q, dp_rd R e1 rx, dp_rd R e2 ry, hs.1, hs.2, bl_now a R⟩
    · cases e3
  have nec : ∀ {b : Bool}, eqD h x y = some b → AnsE X.K μ H (.bl (!b)) h Q → WB X (compareOp .NotEq) vx vy H Q := fun {b} e a => by
    simp only [eqD, Option.bind_eq_some_iff] at e
    obtain ⟨p, e1, q, e2, e3⟩ := e
    split at e3
    · rename_i hs
      rw [Bool.and_eq_true] at hs
      cases e3
      exact wb_of (op_neD hu) ⟨p, q, dp_rd R e1 rx, dp_rd R e2 ry, hs.1, hs.2, bl_now a R⟩
    · cases e3
  unfold cmpop at e
  split at e
  · cases e; cases rx; cases ry
    refine wb_of op_eq ⟨rfl, ?_⟩
    rw [dec_int, Bool.beq_eq_decide_eq]
    exact bl_now a R
  · cases e; cases rx; cases ry
    refine wb_of op_ne ⟨rfl, ?_⟩
    rw [dec_int, Bool.beq_eq_decide_eq]
    exact bl_now a R
  · exact eqc e a
  · simp only [Option.map_eq_some_iff] at e
    obtain ⟨b, e1, rfl⟩ := e
    exact nec e1 a
  · cases e; cases rx; cases ry
    exact wb_of op_lt ⟨_, _, rfl, rfl, bl_now a R⟩
  · cases e; cases rx; cases ry
    exact wb_of op_le ⟨_, _, rfl, rfl, bl_now a R⟩
  · cases e; cases rx; cases ry
    exact wb_of op_gt ⟨_, _, rfl, rfl, bl_now a R⟩
  · cases e; cases rx; cases ry
    exact wb_of op_ge ⟨_, _, rfl, rfl, bl_now a R⟩
  · cases e; cases rx; cases ry
    exact wb_of op_isBl ⟨_, _, rfl, rfl, bl_now a R⟩
  · cases e; cases ry
    refine wb_of op_isN ⟨rfl, ?_⟩
    have : decide (vx = .non) = isNon x := by cases rx <;> rfl
    rw [this]
    exact bl_now a R
  · cases e; cases ry
    refine wb_of op_notN ⟨rfl, ?_⟩
    have : (!decide (vx = .non)) = !isNon x := by cases rx <;> rfl
    rw [this]
    exact bl_now a R
  · simp only [Option.map_eq_some_iff] at e
    obtain ⟨ns, e1, rfl⟩ := e
    cases rx
    cases ry with
    | tup t r =>
      have ev := flat_ints e1 r
      subst ev
      refine wb_of op_in_seq ⟨_, _, rfl, .inr t.sq, rfl, flatV_ints ns, ?_⟩
      rw [inV_ints]
      exact bl_now a R
  · simp only [Option.map_eq_some_iff] at e
    obtain ⟨ns, e1, rfl⟩ := e
    cases rx
    cases ry with
    | tup t r =>
      have ev := flat_ints e1 r
      subst ev
      refine wb_of op_notIn_seq ⟨_, _, rfl, .inr t.sq, rfl, flatV_ints ns, ?_⟩
      rw [inV_ints]
      exact bl_now a R
  · cases e

/-! ### items and slices -/
theorem get_ok {xs : List D} {vs : List V} {i : Int} {d : D} (r : Reps X.K μ H xs vs) (e : L2.atI xs i = some d) : ∃ v, L2.atI vs i = some v ∧ Rep X.K μ H d v := by
  unfold atI at e ⊢
  rw [r.length] at e
  cases q : ixN vs.length i with
  | none => rw [q] at e; cases e
  | some j =>
    rw [q] at e
    obtain ⟨v, h1, h2⟩ := r.get (i := j) e
    exact ⟨v, h1, h2⟩
theorem getI_ok {x i d : D} (e : getI h x i = some d) (R : HRel X.K μ h H) {vx vi : V} (rx : Rep X.K μ H x vx) (ri : Rep X.K μ H i vi) (a : AnsE X.K μ H d h Q) : rIx X.K vx vi H Q := by
  unfold getI at e
  split at e
  · cases ri; cases rx with
    | tup t r =>
      obtain ⟨v, h1, h2⟩ := get_ok r e
      exact .inr (.inl ⟨_, _, _, v, rfl, rfl, t.sq, h1, a.now R h2⟩)
  · cases ri; cases rx with
    | lst _ t r =>
      obtain ⟨v, h1, h2⟩ := get_ok r e
      exact .inl ⟨_, _, _, v, rfl, rfl, .of t, h1, a.now R h2⟩
  · cases ri; cases rx with
    | frz t r =>
      obtain ⟨v, h1, h2⟩ := get_ok r e
      exact .inl ⟨_, _, _, v, rfl, rfl, t.sq, h1, a.now R h2⟩
  · cases ri; cases rx with
    | cel ha =>
      simp only [Option.bind_eq_some_iff] at e
      obtain ⟨ds, e1, e2⟩ := e
      obtain ⟨vs, h3, r⟩ := R.at ha e1
      obtain ⟨v, h1, h2⟩ := get_ok r e2
      exact .inl ⟨_, _, _, v, rfl, rfl, .of h3, h1, a.now R h2⟩
  · cases e
theorem Reps.cut {xs : List D} {vs : List V} (r : Reps X.K μ H xs vs) (lo hi : Option Int) : Reps X.K μ H (cutD xs lo hi) (cutV vs lo hi) := by
  unfold cutD cutV
  rw [r.length]
  exact (r.drop _).take _
def rSlX (K : PySem.W.Frag) : V → Option Int → Option Int → Hp → VK → Prop := fun x lo hi H Q => rSlA K x lo hi H Q ∨ rSlL K x lo hi H Q
theorem sl_any : SlR X (rSlX X.K) := sl_tupA.or sl_list
theorem cut_whole {xs : List D} {lo hi : Option Int} (h1 : HT.sIx xs.length 0 lo = 0) (h2 : HT.sIx xs.length xs.length hi = xs.length) : cutD xs lo hi = xs := by
  unfold cutD
  rw [h1, h2]
  simp
theorem slI_ok {x d : D} {lo hi : Option Int} (e : slI h x lo hi = some d) (R : HRel X.K μ h H) {vx : V} (rx : Rep X.K μ H x vx) (a : AnsE X.K μ H d h Q) : rSlX X.K vx lo hi H Q := by
  unfold slI at e
  split at e
  · cases e; cases rx with
    | tup t r =>
      refine .inl ⟨_, _, rfl, t.sq, fun hw => ?_, fun _ p hp => a.tup R (r.cut lo hi) hp⟩
      rw [← r.length] at hw
      rw [cut_whole hw.1 hw.2] at a
      exact a.now R (.tup t r)
  · cases e; cases rx with
    | lst _ t r => exact .inr ⟨_, _, rfl, .of t, fun p hp => a.lst R (r.cut lo hi) hp⟩
  · cases e; cases rx with
    | frz t r => exact .inr ⟨_, _, rfl, t.sq, fun p hp => a.lst R (r.cut lo hi) hp⟩
  · cases rx with
    | cel ha =>
      simp only [Option.map_eq_some_iff] at e
      obtain ⟨ds, e1, rfl⟩ := e
      obtain ⟨vs, h3, r⟩ := R.at ha e1
      exact .inr ⟨_, _, rfl, .of h3, fun p hp => a.lst R (r.cut lo hi) hp⟩
  · cases e

/-! ### built-ins -/
def bltVal : Blt → Value
  | .len => .builtin "len" | .abs => .builtin "abs" | .int => .type "int" | .max => .builtin "max" | .min => .builtin "min" | .sum => .builtin "sum"
  | .tuple => .type "tuple" | .list _ => .type "list" | .isi => .builtin "isinstance" | .gcd => .builtin "math.gcd" | .all => .builtin "all" | .any => .builtin "any"
theorem maxI_ge : ∀ {ns : List Int} {y : Int}, y ∈ ns → y ≤ maxI ns
  | [a], y, h => by simp at h; subst h; exact Int.le_refl _
  | a :: b :: r, y, h => by
    have ih : ∀ z, z ∈ b :: r → z ≤ maxI (b :: r) := fun z hz => maxI_ge hz
    simp only [maxI]
    rcases List.mem_cons.mp h with rfl | h
    · split <;> omega
    · have := ih y h
      split <;> omega
theorem maxI_mem : ∀ {ns : List Int}, ns ≠ [] → maxI ns ∈ ns
  | [a], _ => by simp [maxI]
  | a :: b :: r, _ => by
    have ih : maxI (b :: r) ∈ b :: r := maxI_mem (by simp)
    simp only [maxI]
    split
    · exact List.mem_cons_of_mem _ ih
    · exact List.mem_cons_self
theorem minI_le : ∀ {ns : List Int} {y : Int}, y ∈ ns → minI ns ≤ y
  | [a], y, h => by simp at h; subst h; exact Int.le_refl _
  | a :: b :: r, y, h => by
    have ih : ∀ z, z ∈ b :: r → minI (b :: r) ≤ z := fun z hz => minI_le hz
    simp only [minI]
    rcases List.mem_cons.mp h with rfl | h
    · split <;> omega
    · have := ih y h
      split <;> omega
theorem minI_mem : ∀ {ns : List Int}, ns ≠ [] → minI ns ∈ ns
  | [a], _ => by simp [minI]
  | a :: b :: r, _ => by
    have ih : minI (b :: r) ∈ b :: r := minI_mem (by simp)
    simp only [minI]
    split
    · exact List.mem_cons_of_mem _ ih
    · exact List.mem_cons_self

theorem tyOf_ok {x : D} {k : String} {vx : V} (e : tyOf x = some k) (R : HRel X.K μ h H) (r : Rep X.K μ H x vx) (hc : ∀ c, x = .cel c → c < h.length) : TyX X.K H vx (.type k) := by
  cases r with
  | non => cases e; exact .base .non
  | bl b => cases e; exact .base (.bl b)
  | int b => cases e; exact .base (.int b)
  | str b => cases e; exact .base (.str b)
  | ty n => cases e
  | tup t r =>
    cases e
    rcases t with ⟨_, t⟩ | ⟨o, its, n, h1, h2, _⟩
    · exact .base (.tup t)
    · exact .kTuple h1 h2
  | lst _ t r => cases e; exact .base (.lst t)
  | frz t r =>
    cases e
    rcases t with ⟨_, o, t⟩ | ⟨o, its, n, h1, h2, _⟩
    · exact .base (.frz t)
    · exact .kList h1 h2
  | @cel i a ha =>
    cases e
    have hi := hc i rfl
    obtain ⟨vs, h1, _⟩ := R.at ha (List.getElem?_eq_getElem hi)
    exact .base (.lst h1)
theorem Rep.cel_lt (R : HRel X.K μ h H) {x : D} {vx : V} (r : Rep X.K μ H x vx) : ∀ c, x = .cel c → c < h.length := fun c e => by
  subst e
  cases r with
  | cel ha => rw [← R.len]; exact (List.getElem?_eq_some_iff.mp ha).1
def knownT : List String := ["NoneType", "bool", "int", "str", "tuple", "list"]
theorem kit_all : (knownT.all fun a => testT.all fun b => kitB a b == isK a b) = true := by decide +kernel
theorem kit_is {a b : String} {r : Bool} (ha : a ∈ knownT) (e : isK a b = some r) : kitB a b = some r := by
  have hb : b ∈ testT := by
    unfold isK at e
    split at e
    · assumption
    · cases e
  have h := List.all_eq_true.mp kit_all a ha
  rw [eq_of_beq (List.all_eq_true.mp h b hb), e]
theorem tyOf_known {x : D} {k : String} (e : tyOf x = some k) : k ∈ knownT := by
  cases x <;> simp only [tyOf, Option.some.injEq, reduceCtorEq] at e <;> subst e <;> decide
theorem any_ok {k : String} (hk : k ∈ knownT) : ∀ {ts : List D} {vs : List V} {b : Bool}, isAny k ts = some b → Reps X.K μ H ts vs → ∃ us : List Value, Paired ClsV vs us ∧ PySem.W.kitAny X.K (.type k) us = some b
  | [], vs, b, e, r => by
    cases r
    simp only [isAny, Option.some.injEq] at e; subst e
    exact ⟨[], .nil, kitAny_nil⟩
  | d :: ds, vs, b, e, r => by
    cases d with
    | ty t =>
      cases r with
      | cons r rs =>
        cases r
        simp only [isAny, Option.bind_eq_some_iff, Option.map_eq_some_iff] at e
        obtain ⟨b1, e1, b2, e2, rfl⟩ := e
        obtain ⟨us, p, q⟩ := any_ok hk e2 rs
        refine ⟨.type t :: us, .cons (.ty t) p, kitAny_cons (kit_ty (kit_is hk e1)) (fun h1 => ?_) fun h1 => ?_⟩
        · subst h1; simpa using q
        · subst h1; rfl
    | _ => simp [isAny] at e

theorem blt_ok (hc : X.calm = true) {b : Blt} {ds : List D} {d : D} {h' : Hs} (e : blt b ds h = some (d, h')) (R : HRel X.K μ h H) {vs : List V} (r : Reps X.K μ H ds vs)
    (a : AnsE X.K μ H d h' Q) : WC X (bltVal b) vs H Q := by
  unfold blt at e
  split at e
  · cases e
    match vs, r with
    | [_], .cons r .nil => cases r with
      | tup t r =>
        rw [r.length] at a
        exact wc_of call_len_seq ⟨_, _, rfl, .inr t.sq, a.now R (.int _)⟩
  · cases e
    match vs, r with
    | [_], .cons r .nil => cases r with
      | lst _ t r =>
        rw [r.length] at a
        exact wc_of call_len_seq ⟨_, _, rfl, .inl (.of t), a.now R (.int _)⟩
  · cases e
    match vs, r with
    | [_], .cons r .nil => cases r with
      | frz t r =>
        rw [r.length] at a
        exact wc_of call_len_seq ⟨_, _, rfl, .inl t.sq, a.now R (.int _)⟩
  · simp only [Option.map_eq_some_iff, Prod.mk.injEq] at e
    obtain ⟨es, e1, rfl, rfl⟩ := e
    match vs, r with
    | [_], .cons r .nil => cases r with
      | cel ha =>
        obtain ⟨ws, h1, r⟩ := R.at ha e1
        rw [r.length] at a
        exact wc_of call_len_seq ⟨_, _, rfl, .inl (.of h1), a.now R (.int _)⟩
  · cases e
    match vs, r with
    | [_], .cons r .nil =>
      cases r
      exact wc_of call_abs ⟨_, rfl, a.now R (.int _)⟩
  · cases e
    match vs, r with
    | [_], .cons r .nil =>
      cases r
      exact wc_of call_int1 (.inl ⟨_, rfl, a.now R (.int _)⟩)
  · cases e
    match vs, r with
    | [_], .cons r .nil =>
      cases r
      exact wc_of call_int1 (.inr ⟨_, rfl, a.now R (.int _)⟩)
  · cases e
    match vs, r with
    | [_, _], .cons r (.cons r2 .nil) =>
      cases r; cases r2
      exact wc_of (call_max2 hc) ⟨_, _, rfl, a.now R (.int _)⟩
  · cases e
    match vs, r with
    | [_, _], .cons r (.cons r2 .nil) =>
      cases r; cases r2
      exact wc_of (call_min2 hc) ⟨_, _, rfl, a.now R (.int _)⟩
  · simp only [Option.bind_eq_some_iff] at e
    obtain ⟨ns, e1, e2⟩ := e
    split at e2
    · cases e2
    · rename_i hne
      cases e2
      match vs, r with
      | [_], .cons r .nil => cases r with
        | lst _ t r =>
          have ev := flat_ints e1 r
          subst ev
          refine wc_of (cr_max hc) ⟨_, ns, rfl, .of t, List.length_pos_iff.mpr hne, fun m hm hle => ?_⟩
          have : m = maxI ns := Int.le_antisymm (maxI_ge hm) (hle _ (maxI_mem hne))
          rw [this]
          exact a.now R (.int _)
  · simp only [Option.bind_eq_some_iff] at e
    obtain ⟨ns, e1, e2⟩ := e
    split at e2
    · cases e2
    · rename_i hne
      cases e2
      match vs, r with
      | [_], .cons r .nil => cases r with
        | lst _ t r =>
          have ev := flat_ints e1 r
          subst ev
          refine wc_of (cr_min hc) ⟨_, ns, rfl, .of t, List.length_pos_iff.mpr hne, fun m hm hle => ?_⟩
          have : m = minI ns := Int.le_antisymm (hle _ (minI_mem hne)) (minI_le hm)
          rw [this]
          exact a.now R (.int _)
  · simp only [Option.map_eq_some_iff, Prod.mk.injEq] at e
    obtain ⟨ns, e1, rfl, rfl⟩ := e
    match vs, r with
    | [_], .cons r .nil => cases r with
      | lst _ t r =>
        have ev := flat_ints e1 r
        subst ev
        exact wc_of (cr_sum hc) ⟨_, ns, rfl, .of t, a.now R (.int _)⟩
  · cases e
    match vs, r with
    | [_], .cons r .nil => cases r with
      | lst _ t r => exact wc_of call_tuple_of ⟨_, _, rfl, .inl ⟨.of t, fun p hp => a.tup R r hp⟩⟩
  · cases e
    match vs, r with
    | [_], .cons r .nil => cases r with
      | tup t r => exact wc_of call_tuple_of ⟨_, _, rfl, .inr ⟨t.sq, a.now R (.tup t r)⟩⟩
  · simp only [Option.map_eq_some_iff, Prod.mk.injEq] at e
    obtain ⟨es, e1, rfl, rfl⟩ := e
    match vs, r with
    | [_], .cons r .nil => cases r with
      | cel ha =>
        obtain ⟨ws, h1, r⟩ := R.at ha e1
        exact wc_of call_tuple_of ⟨_, _, rfl, .inl ⟨.of h1, fun p hp => a.tup R r hp⟩⟩
  · match vs, r with
    | [_], .cons r .nil => cases r with
      | tup t r =>
        refine wc_of call_list_of ⟨_, _, rfl, .inr t.sq, fun p hp => ?_⟩
        split at e
        · cases e; exact a.cel R r hp
        · cases e; exact a.lst R r hp
  · match vs, r with
    | [_], .cons r .nil => cases r with
      | lst _ t r =>
        refine wc_of call_list_of ⟨_, _, rfl, .inl (.of t), fun p hp => ?_⟩
        split at e
        · cases e; exact a.cel R r hp
        · cases e; exact a.lst R r hp
  · simp only [Option.map_eq_some_iff] at e
    obtain ⟨es, e1, e2⟩ := e
    match vs, r with
    | [_], .cons r .nil => cases r with
      | cel ha =>
        obtain ⟨ws, h1, r⟩ := R.at ha e1
        refine wc_of call_list_of ⟨_, _, rfl, .inl (.of h1), fun p hp => ?_⟩
        split at e2
        · cases e2; exact a.cel R r hp
        · cases e2; exact a.lst R r hp
  · simp only [Option.bind_eq_some_iff, Option.map_eq_some_iff, Prod.mk.injEq] at e
    obtain ⟨k, e1, b, e2, rfl, rfl⟩ := e
    match vs, r with
    | [_, _], .cons r (.cons r2 .nil) =>
      cases r2
      exact wc_of call_isi ⟨_, _, _, _, _, rfl, .ty _, tyOf_ok e1 R r (r.cel_lt R), kit_ty (kit_is (tyOf_known e1) e2), a.now R (.bl _)⟩
  · simp only [Option.bind_eq_some_iff, Option.map_eq_some_iff, Prod.mk.injEq] at e
    obtain ⟨k, e1, b, e2, rfl, rfl⟩ := e
    match vs, r with
    | [v, _], .cons r (.cons r2 .nil) =>
      cases r2 with
      | @tup tp _ ws t r2 =>
        obtain ⟨us, p, q⟩ := any_ok (tyOf_known e1) e2 r2
        rcases t with ⟨_, t⟩ | t
        · exact wc_of call_isiT ⟨_, _, _, _, us, _, rfl, t, p, tyOf_ok e1 R r (r.cel_lt R), q, a.now R (.bl _)⟩
        · obtain ⟨o, its, n, h1, h2, h3, _, rv⟩ := t
          obtain ⟨oc, od, dt, sl⟩ := o
          simp only at h2 h3
          subst h2 h3
          have e3 := ClsV.all p rv
          refine wc_of call_isiK ⟨_, tp, od, us, n, sl, _, _, rfl, ?_, tyOf_ok e1 R r (r.cel_lt R), q, a.now R (.bl _)⟩
          rw [h1, ← e3]
  · cases e
    match vs, r with
    | [_, _], .cons r (.cons r2 .nil) =>
      cases r; cases r2
      exact wc_of cr_gcd ⟨_, _, rfl, a.now R (.int _)⟩
  · simp only [Option.map_eq_some_iff, Prod.mk.injEq] at e
    obtain ⟨ns, e1, rfl, rfl⟩ := e
    match vs, r with
    | [_], .cons r .nil => cases r with
      | lst _ t r =>
        have ev := flat_bools e1 r
        subst ev
        exact wc_of (cr_all hc) ⟨_, ns, rfl, .of t, a.now R (.bl _)⟩
  · simp only [Option.map_eq_some_iff, Prod.mk.injEq] at e
    obtain ⟨ns, e1, rfl, rfl⟩ := e
    match vs, r with
    | [_], .cons r .nil => cases r with
      | lst _ t r =>
        have ev := flat_bools e1 r
        subst ev
        exact wc_of (cr_any hc) ⟨_, ns, rfl, .of t, a.now R (.bl _)⟩
  · cases e
end
end Py

set_option Elab.async false
set_option linter.all false
set_option maxRecDepth 100000
set_option maxHeartbeats 1000000
/-! Expressions: each construct, by its parts. -/
namespace Py
open PySem PySem.Spec PyProof.Rows L2

def WM (X : Cx) (id : String) : V → List V → Hp → VK → Prop := fun x xs H Q => ∀ (pins : List (Addr × Obj)) (s : Shared) (σ : L2.St) (v : Value) (us : List Value), Inv X pins σ H s → RelV x v → Vals xs us → wpAny (model X.prog X.w) X.A (call (.builtin id) (v :: us)) (EP X pins σ Q) X.xe s
theorem wm_ok {X : Cx} {id : String} : MtR X id (WM X id) := fun pins s σ H x xs v us Q I rx r h => h pins s σ v us I rx r
theorem wm_of {X : Cx} {id : String} {r : V → List V → Hp → VK → Prop} {x : V} {xs : List V} {H : Hp} {Q : VK} (o : MtR X id r) (q : r x xs H Q) : WM X id x xs H Q := fun pins s σ v us I rx rs => o pins s σ H x xs v us Q I rx rs q

def mthId : Mth → String
  | .append => "list.append" | .popAt => "list.pop" | .extend => "list.extend" | .index => "list.index" | .count => "list.count"
def mthName : Mth → Str
  | .append => "append" | .popAt => "pop" | .extend => "extend" | .index => "index" | .count => "count"
theorem seq_nat {n : Nat} {i : Int} (h0 : 0 ≤ i) (h1 : i < n) : seqIndex? i n = some i.toNat := by
  have := (ixN_seq (n := n) (i := i) (j := i.toNat) (by unfold ixN; rw [if_pos h0, if_pos h1])).1
  exact this
theorem meth_ok {X : Cx} {μ : Mu} {h h' : Hs} {H : Hp} {Q : VK} {m : Mth} {x : D} {ds : List D} {d : D} (e : meth m x ds h = some (d, h')) (R : HRel X.K μ h H) {vx : V} {vs : List V} (rx : Rep X.K μ H x vx) (r : Reps X.K μ H ds vs)
    (a : AnsE X.K μ H d h' Q) : WM X (mthId m) vx vs H Q := by
  unfold meth at e
  split at e
  · simp only [Option.bind_eq_some_iff] at e
    obtain ⟨es, e1, e2⟩ := e
    split at e2
    · rename_i hl
      cases e2
      match vs, r with
      | [_], .cons r .nil => cases rx with
        | cel ha =>
          obtain ⟨ws, h1, rw'⟩ := R.at ha e1
          obtain ⟨R', S⟩ := R.put ha (rw'.append (.cons r .nil))
          refine wm_of mt_append ⟨_, ws, _, rfl, rfl, h1, ?_, a _ _ _ S R' .non⟩
          rw [← rw'.length]; exact lim_lt hl
    · cases e2
  · simp only [Option.bind_eq_some_iff] at e
    obtain ⟨es, e1, e2⟩ := e
    split at e2
    · rename_i hl
      simp only [Option.map_eq_some_iff, Prod.mk.injEq] at e2
      obtain ⟨y, e3, rfl, rfl⟩ := e2
      match vs, r with
      | [_], .cons r .nil => cases rx with
        | cel ha =>
          cases r
          obtain ⟨ws, h1, rw'⟩ := R.at ha e1
          obtain ⟨v, hv, rv⟩ := rw'.get e3
          obtain ⟨R', S⟩ := R.put ha (rw'.eraseIdx _)
          have hsz := Nat.lt_of_lt_of_le hl.2.2 (show lim ≤ 100000 by decide)
          refine wm_of mt_popAt ⟨_, ws, _, _, v, rfl, rfl, h1, by omega, by omega, seq_nat hl.1 (by rw [← rw'.length]; exact hl.2.1), hv, a _ _ _ S R' (rv.stp S)⟩
    · cases e2
  · cases e

/-! ### syntax that is plain -/
def notStar : Expr → Bool
  | .Starred _ _ => false
  | _ => true
theorem star_cons {e : Expr} {es : List Expr} {env : Env} (h : notStar e = true) : starEach (e :: es) env = (false, eval e env) :: starEach es env := by
  cases e <;> first | rfl | (exact absurd h (by simp [notStar]))
theorem star_plain : ∀ {es : List Expr} {pos : Pos} {env : Env}, es.all notStar = true → (backTo pos (starEach es env)).any (·.1) = false
  | [], _, _, _ => rfl
  | e :: es, pos, env, h => by
    rw [List.all_cons, Bool.and_eq_true] at h
    rw [star_cons h.1]
    show (false || (backTo pos (starEach es env)).any (·.1)) = false
    rw [star_plain h.2]; rfl
/-- what is asked of a test's syntax: no not, and, or, if, comparison -/
def plainTest : Expr → Bool
  | .UnaryOp .Not _ _ => false
  | .BoolOp _ _ _ => false
  | .IfExp _ _ _ _ => false
  | .Compare _ _ _ _ => false
  | _ => true
theorem plain_test {e : Expr} {env : Env} (h : plainTest e = true) : ∀ whole, isTrue e env whole = (do let v ← whole; standAt e.pos; holding [v] (truthy v)) := by
  intro whole
  cases e with
  | UnaryOp op x p => cases op <;> first | rfl | (exact absurd h (by simp [plainTest]))
  | BoolOp => exact absurd h (by simp [plainTest])
  | IfExp => exact absurd h (by simp [plainTest])
  | Compare => exact absurd h (by simp [plainTest])
  | _ => rfl
def plainIx : Expr → Bool
  | .Slice _ _ _ _ => false
  | _ => true
theorem plain_ix {e : Expr} (h : plainIx e = true) : PlainIx e := by
  intro o i
  cases e with
  | Slice => exact absurd h (by simp [plainIx])
  | _ => rfl
def plainFor : Expr → Bool
  | .Set _ _ _ => false
  | _ => true
theorem plain_for {e : Expr} {env : Env} (h : plainFor e = true) : ∀ x, foldedSetIterable e env x = pure x := by
  intro x
  cases e with
  | Set => exact absurd h (by simp [plainFor])
  | _ => rfl
end Py

set_option Elab.async false
set_option linter.all false
set_option maxRecDepth 100000
set_option maxHeartbeats 1000000
/-! Expressions: each construct, by its parts. -/
namespace Py
open PySem PySem.Spec PyProof.Rows L2

/-- the program: its defs, its constants, its names, the built-ins that it leaves, how it is called by keywords -/
structure Tbl where
  FT : Nat → Option FDef
  gl : Str → Option D
  nm : Nat → Str
  bn : List Str
  gcd : Bool
  kw : List (Nat × Nat × List Str × List Nat)

section
variable (cl : Nat → List D → Hs → Option (D × Hs)) (gl : Str → Option D)
def SE (X : Cx) (e : Expr) (c : E) : Prop := ∀ (σ : Sg) (h : Hs) (d : D) (h' : Hs), evE cl gl c σ h = some (d, h') → ∀ (σv : L2.St) (H : Hp) (μ : Mu) (Q : VK), HRel X.K μ h H → RelS X.K μ H σ σv → AnsE X.K μ H d h' Q → WE X e σv H Q
def ST (X : Cx) (e : Expr) (c : E) : Prop := ∀ (σ : Sg) (h : Hs) (b : Bool) (h' : Hs), evE cl gl c σ h = some (.bl b, h') → ∀ (σv : L2.St) (H : Hp) (μ : Mu) (Q : Bool → Hp → Prop), HRel X.K μ h H → RelS X.K μ H σ σv → AnsT X.K μ H b h' Q → WT X e σv H Q
def SA (X : Cx) (es : List Expr) (cs : Es) : Prop := ∀ (σ : Sg) (h : Hs) (ds : List D) (h' : Hs), evEs cl gl cs σ h = some (ds, h') → ∀ (σv : L2.St) (H : Hp) (μ : Mu) (Q : List V → Hp → Prop), HRel X.K μ h H → RelS X.K μ H σ σv → AnsA X.K μ H ds h' Q → WA X es σv H Q
def SKw (X : Cx) (kws : List Keyword) (cs : Es) : Prop := ∀ (σ : Sg) (h : Hs) (ds : List D) (h' : Hs), evEs cl gl cs σ h = some (ds, h') → ∀ (σv : L2.St) (H : Hp) (μ : Mu) (Q : List V → Hp → Prop), HRel X.K μ h H → RelS X.K μ H σ σv → AnsA X.K μ H ds h' Q → WK X kws σv H Q
def SB (X : Cx) (k : Bool) (es : List Expr) (cs : Es) : Prop := ∀ (pos : Pos) (σ : Sg) (h : Hs) (d : D) (h' : Hs), evB cl gl k cs σ h = some (d, h') → ∀ (σv : L2.St) (H : Hp) (μ : Mu) (Q : VK), HRel X.K μ h H → RelS X.K μ H σ σv → AnsE X.K μ H d h' Q → WE X (.BoolOp (if k then .And else .Or) es pos) σv H Q
/-- an and, an or as a test, whatever its 'whole' is -/
def WW (X : Cx) (e : Expr) : TT := fun σ H Q => ∀ (whole : Sem Value) (pins : List (Addr × Obj)) (s : Shared), Inv X pins σ H s → wpAny (model X.prog X.w) X.A (isTrue e X.env whole) (TP X pins σ Q) X.xe s
theorem pw_ww {X : Cx} {e : Expr} : PW X e (WW X e) := ⟨fun wh pins s σ H Q I h => h wh pins s I⟩
theorem ww_of {X : Cx} {e : Expr} {t : TT} {σ : L2.St} {H : Hp} {Q : Bool → Hp → Prop} (h : PW X e t) (q : t σ H Q) : WW X e σ H Q := fun wh pins s I => h.run wh pins s σ H Q I q
def SBT (X : Cx) (k : Bool) (es : List Expr) (cs : Es) : Prop := ∀ (pos : Pos) (σ : Sg) (h : Hs) (b : Bool) (h' : Hs), evB cl gl k cs σ h = some (.bl b, h') → ∀ (σv : L2.St) (H : Hp) (μ : Mu) (Q : Bool → Hp → Prop), HRel X.K μ h H → RelS X.K μ H σ σv → AnsT X.K μ H b h' Q → WW X (.BoolOp (if k then .And else .Or) es pos) σv H Q
def SOp (X : Cx) (e : Option Expr) (c : Eo) : Prop := ∃ t : TO, PO X e t ∧ ∀ (σ : Sg) (h : Hs) (o : Option Int) (h' : Hs), evEo cl gl c σ h = some (o, h') → ∀ (σv : L2.St) (H : Hp) (μ : Mu) (Q : Option Int → Hp → Prop), HRel X.K μ h H → RelS X.K μ H σ σv → AnsO X.K μ H o h' Q → t σv H Q
end

section
variable {cl : Nat → List D → Hs → Option (D × Hs)} {gl : Str → Option D} {X : Cx} {a b c e : Expr} {ca cb cc ce : E} {pos : Pos}

theorem c_const {x : Expr} {cx : E} {d : D} {v : V} (he : PE X x (tC v)) (ev : ∀ σ h, evE cl gl cx σ h = some (d, h)) (r : ∀ μ H, Rep X.K μ H d v) : SE cl gl X x cx := fun σ h d' h' e σv H μ Q R S A => by
  rw [ev] at e
  cases e
  exact we_of he (A.now R (r μ H))
theorem c_var {i : Nat} {x : Str} (hN : X.N[i]? = some x) (hv : Vis X.env.scope x) (hd : (x == ("__debug__" : Str)) = false) (hcd : (x == ("__classdict__" : Str)) = false) : SE cl gl X (.Name x pos) (.var i) := fun σ h d h' e σv H μ Q R S A => by
  simp only [evE] at e
  split at e
  · rename_i d0 he
    cases e
    obtain ⟨v, h1, h2⟩ := S.get i d he
    exact we_of (pe_var hN hv hd hcd) ⟨v, h1, A.now R h2⟩
  · cases e
theorem c_op {o : Bop} (ha : SE cl gl X a ca) (hb : SE cl gl X b cb) : SE cl gl X (.BinOp a (opOf o) b pos) (.op o ca cb) := fun σ h d h' e σv H μ Q R S A => by
  simp only [evE, Option.bind_eq_some_iff, Option.map_eq_some_iff, Prod.mk.injEq] at e
  obtain ⟨p, e1, q, e2, z, e3, rfl, rfl⟩ := e
  refine we_of (pe_op wb_ok pe_we pe_we) (ha _ _ _ _ e1 _ _ _ _ R S fun v1 H1 μ1 S1 R1 r1 => hb _ _ _ _ e2 _ _ _ _ R1 (S.stp S1) fun v2 H2 μ2 S2 R2 r2 => ?_)
  exact binop_ok e3 R2 (r1.stp S2) r2 (A.step (S1.trans S2))
theorem c_neg (ha : SE cl gl X a ca) : SE cl gl X (.UnaryOp .USub a pos) (.neg ca) := fun σ h d h' e σv H μ Q R S A => by
  simp only [evE, Option.bind_eq_some_iff] at e
  obtain ⟨p, e1, e2⟩ := e
  split at e2
  · rename_i i hi
    cases e2
    refine we_of (pe_un un_neg pe_we) (ha _ _ _ _ e1 _ _ _ _ R S fun v1 H1 μ1 S1 R1 r1 => ?_)
    rw [hi] at r1
    cases r1
    exact ⟨_, rfl, (A.step S1).now R1 (.int _)⟩
  · cases e2
theorem c_cmp {o : Cop} (hu : X.A.units + 64 < cLine) (hm : behindInMarks (copOf o) b = false) (ha : SE cl gl X a ca) (hb : SE cl gl X b cb) : SE cl gl X (.Compare a [copOf o] [b] pos) (.cmp o ca cb) := fun σ h d h' e σv H μ Q R S A => by
  simp only [evE, Option.bind_eq_some_iff, Option.map_eq_some_iff, Prod.mk.injEq] at e
  obtain ⟨p, e1, q, e2, z, e3, rfl, rfl⟩ := e
  refine we_of (pe_cmpR wb_ok pe_we pe_we hm) (ha _ _ _ _ e1 _ _ _ _ R S fun v1 H1 μ1 S1 R1 r1 => hb _ _ _ _ e2 _ _ _ _ R1 (S.stp S1) fun v2 H2 μ2 S2 R2 r2 => ?_)
  exact cmpop_ok hu e3 R2 (r1.stp S2) r2 (A.step (S1.trans S2))
theorem t_cmp {o : Cop} (hu : X.A.units + 64 < cLine) (hm : behindInMarks (copOf o) b = false) (ha : SE cl gl X a ca) (hb : SE cl gl X b cb) : ST cl gl X (.Compare a [copOf o] [b] pos) (.cmp o ca cb) := fun σ h d h' e σv H μ Q R S A => by
  simp only [evE, Option.bind_eq_some_iff, Option.map_eq_some_iff, Prod.mk.injEq, D.bl.injEq] at e
  obtain ⟨p, e1, q, e2, z, e3, rfl, rfl⟩ := e
  refine wt_of (pt_cmpR wb_ok pe_we pe_we hm) (ha _ _ _ _ e1 _ _ _ _ R S fun v1 H1 μ1 S1 R1 r1 => hb _ _ _ _ e2 _ _ _ _ R1 (S.stp S1) fun v2 H2 μ2 S2 R2 r2 => ?_)
  refine cmpop_ok hu e3 R2 (r1.stp S2) r2 fun v3 H3 μ3 S3 R3 r3 => ?_
  cases r3
  exact ⟨z, rfl, A _ _ ((S1.trans S2).trans S3) R3⟩
theorem c_chn {o o' : Cop} (hu : X.A.units + 64 < cLine) (hm : lastMarks [copOf o, copOf o'] [b, c] = false) (ha : SE cl gl X a ca) (hb : SE cl gl X b cb) (hc : SE cl gl X c cc) : SE cl gl X (.Compare a [copOf o, copOf o'] [b, c] pos) (.chn o o' ca cb cc) := fun σ h d h' e σv H μ Q R S A => by
  simp only [evE, Option.bind_eq_some_iff] at e
  obtain ⟨p, e1, q, e2, k, e3, e4⟩ := e
  refine we_of (pe_chain wb_ok wb_ok pe_we pe_we pe_we hm) (ha _ _ _ _ e1 _ _ _ _ R S fun v1 H1 μ1 S1 R1 r1 => hb _ _ _ _ e2 _ _ _ _ R1 (S.stp S1) fun v2 H2 μ2 S2 R2 r2 => ?_)
  refine cmpop_ok hu e3 R2 (r1.stp S2) r2 fun v3 H3 μ3 S3 R3 r3 => ?_
  cases r3
  refine ⟨k, rfl, ?_⟩
  cases k with
  | true =>
    simp only [if_true, Option.bind_eq_some_iff, Option.map_eq_some_iff, Prod.mk.injEq] at e4 ⊢
    obtain ⟨r, e5, k', e6, rfl, rfl⟩ := e4
    refine hc _ _ _ _ e5 _ _ _ _ R3 (S.stp ((S1.trans S2).trans S3)) fun v4 H4 μ4 S4 R4 r4 => ?_
    exact cmpop_ok hu e6 R4 (r2.stp (S3.trans S4)) r4 (A.step (((S1.trans S2).trans S3).trans S4))
  | false =>
    simp only [Bool.false_eq_true, if_false] at e4 ⊢
    cases e4
    exact (A.step ((S1.trans S2).trans S3)).now R3 (.bl _)
/-- a test by its value: of a construct that is a value first -/
theorem t_val (hp : plainTest e = true) (he : SE cl gl X e ce) : ST cl gl X e ce := fun σ h d h' ev σv H μ Q R S A => by
  refine wt_of (pt_val pe_we (plain_test hp)) (he _ _ _ _ ev _ _ _ _ R S fun v1 H1 μ1 S1 R1 r1 => ?_)
  cases r1
  exact ⟨d, rfl, A _ _ S1 R1⟩
theorem t_chn {o o' : Cop} (hu : X.A.units + 64 < cLine) (hm : lastMarks [copOf o, copOf o'] [b, c] = false) (ha : SE cl gl X a ca) (hb : SE cl gl X b cb) (hc : SE cl gl X c cc) : ST cl gl X (.Compare a [copOf o, copOf o'] [b, c] pos) (.chn o o' ca cb cc) := fun σ h d h' e σv H μ Q R S A => by
  simp only [evE, Option.bind_eq_some_iff] at e
  obtain ⟨p, e1, q, e2, k, e3, e4⟩ := e
  refine wt_of (pt_chain wb_ok wb_ok pe_we pe_we pe_we hm) (ha _ _ _ _ e1 _ _ _ _ R S fun v1 H1 μ1 S1 R1 r1 => hb _ _ _ _ e2 _ _ _ _ R1 (S.stp S1) fun v2 H2 μ2 S2 R2 r2 => ?_)
  refine cmpop_ok hu e3 R2 (r1.stp S2) r2 fun v3 H3 μ3 S3 R3 r3 => ?_
  cases r3
  refine ⟨k, rfl, ?_⟩
  cases k with
  | true =>
    simp only [if_true, Option.bind_eq_some_iff, Option.map_eq_some_iff, Prod.mk.injEq, D.bl.injEq] at e4 ⊢
    obtain ⟨r, e5, k', e6, rfl, rfl⟩ := e4
    refine hc _ _ _ _ e5 _ _ _ _ R3 (S.stp ((S1.trans S2).trans S3)) fun v4 H4 μ4 S4 R4 r4 => ?_
    refine cmpop_ok hu e6 R4 (r2.stp (S3.trans S4)) r4 fun v5 H5 μ5 S5 R5 r5 => ?_
    cases r5
    exact ⟨_, rfl, A _ _ ((((S1.trans S2).trans S3).trans S4).trans S5) R5⟩
  | false =>
    simp only [Bool.false_eq_true, if_false] at e4 ⊢
    cases e4
    exact ⟨_, rfl, A _ _ ((S1.trans S2).trans S3) R3⟩
theorem c_not (ha : SE cl gl X a ca) : SE cl gl X (.UnaryOp .Not a pos) (.not ca) := fun σ h d h' e σv H μ Q R S A => by
  simp only [evE, Option.bind_eq_some_iff] at e
  obtain ⟨p, e1, e2⟩ := e
  split at e2
  · rename_i i hi
    cases e2
    refine we_of (pe_not pe_we) (ha _ _ _ _ e1 _ _ _ _ R S fun v1 H1 μ1 S1 R1 r1 => ?_)
    rw [hi] at r1
    cases r1
    exact ⟨_, rfl, (A.step S1).now R1 (.bl _)⟩
  · cases e2
theorem t_not (ha : ST cl gl X a ca) : ST cl gl X (.UnaryOp .Not a pos) (.not ca) := fun σ h d h' e σv H μ Q R S A => by
  simp only [evE, Option.bind_eq_some_iff] at e
  obtain ⟨p, e1, e2⟩ := e
  split at e2
  · rename_i i hi
    cases e2
    refine wt_of (pt_not pt_wt) (ha _ _ i p.2 (by rw [e1, ← hi]) _ _ _ _ R S fun H1 μ1 S1 R1 => ?_)
    exact A _ _ S1 R1
  · cases e2
theorem c_ife (hc : ST cl gl X c cc) (ha : SE cl gl X a ca) (hb : SE cl gl X b cb) : SE cl gl X (.IfExp c a b pos) (.ife cc ca cb) := fun σ h d h' e σv H μ Q R S A => by
  simp only [evE, Option.bind_eq_some_iff] at e
  obtain ⟨p, e1, e2⟩ := e
  split at e2
  · rename_i i hi
    refine we_of (pe_ifExp pt_wt pe_we pe_we) (hc _ _ i p.2 (by rw [e1, ← hi]) _ _ _ _ R S fun H1 μ1 S1 R1 => ?_)
    cases i with
    | true => exact ha _ _ _ _ e2 _ _ _ _ R1 (S.stp S1) (A.step S1)
    | false => exact hb _ _ _ _ e2 _ _ _ _ R1 (S.stp S1) (A.step S1)
  · cases e2
theorem pt_ifExp {tc ta tb : TT} (hc : PT X c tc) (ha : PT X a ta) (hb : PT X b tb) : PT X (.IfExp c a b pos) (fun σ H Q => tc σ H fun k H1 => if k = true then ta σ H1 Q else tb σ H1 Q) := by
  refine ⟨fun pins s σ H Q I h => ?_⟩
  rw [arm_isTrue_IfExp]
  refine wpAny_bind (thn (hc.run pins s σ H _ I h) fun d s1 ⟨H1, I1, q1⟩ => ?_)
  cases d with
  | true => exact ha.run pins s1 σ H1 Q I1 q1
  | false => exact hb.run pins s1 σ H1 Q I1 q1
theorem t_ife (hc : ST cl gl X c cc) (ha : ST cl gl X a ca) (hb : ST cl gl X b cb) : ST cl gl X (.IfExp c a b pos) (.ife cc ca cb) := fun σ h d h' e σv H μ Q R S A => by
  simp only [evE, Option.bind_eq_some_iff] at e
  obtain ⟨p, e1, e2⟩ := e
  split at e2
  · rename_i i hi
    refine wt_of (pt_ifExp pt_wt pt_wt pt_wt) (hc _ _ i p.2 (by rw [e1, ← hi]) _ _ _ _ R S fun H1 μ1 S1 R1 => ?_)
    cases i with
    | true => exact ha _ _ _ _ e2 _ _ _ _ R1 (S.stp S1) fun H' μ' S' => A _ _ (S1.trans S')
    | false => exact hb _ _ _ _ e2 _ _ _ _ R1 (S.stp S1) fun H' μ' S' => A _ _ (S1.trans S')
  · cases e2
/-! ### and, or -/
theorem b_one {k : Bool} (ha : SE cl gl X a ca) : SB cl gl X k [a] (.cons ca .nil) := fun pos σ h d h' e σv H μ Q R S A => by
  simp only [evB] at e
  exact we_of (pe_one pe_we) (ha _ _ _ _ e _ _ _ _ R S A)
theorem b_cons {k : Bool} {es : List Expr} {c' : E} {cs : Es} (ha : SE cl gl X a ca) (hb : SB cl gl X k (b :: es) (.cons c' cs)) : SB cl gl X k (a :: b :: es) (.cons ca (.cons c' cs)) := fun pos σ h d h' e σv H μ Q R S A => by
  simp only [evB, Option.bind_eq_some_iff] at e
  obtain ⟨p, e1, e2⟩ := e
  split at e2
  · rename_i i hi
    cases k with
    | true =>
      refine we_of (pe_and pe_we pe_we) (ha _ _ _ _ e1 _ _ _ _ R S fun v1 H1 μ1 S1 R1 r1 => ?_)
      rw [hi] at r1
      cases r1
      refine ⟨i, rfl, ?_⟩
      cases i with
      | true => exact hb pos _ _ _ _ (by simpa using e2) _ _ _ _ R1 (S.stp S1) (A.step S1)
      | false =>
        simp at e2
        obtain ⟨rfl, rfl⟩ := e2
        exact (A.step S1).now R1 (.bl _)
    | false =>
      refine we_of (pe_or pe_we pe_we) (ha _ _ _ _ e1 _ _ _ _ R S fun v1 H1 μ1 S1 R1 r1 => ?_)
      rw [hi] at r1
      cases r1
      refine ⟨i, rfl, ?_⟩
      cases i with
      | false => exact hb pos _ _ _ _ (by simpa using e2) _ _ _ _ R1 (S.stp S1) (A.step S1)
      | true =>
        simp at e2
        obtain ⟨rfl, rfl⟩ := e2
        exact (A.step S1).now R1 (.bl _)
  · cases e2
theorem bt_one {k : Bool} (ha : ST cl gl X a ca) : SBT cl gl X k [a] (.cons ca .nil) := fun pos σ h d h' e σv H μ Q R S A => by
  simp only [evB] at e
  cases k with
  | true => exact ww_of (pw_and1 pt_wt) (ha _ _ _ _ e _ _ _ _ R S A)
  | false => exact ww_of (pw_or1 pt_wt) (ha _ _ _ _ e _ _ _ _ R S A)
theorem bt_cons {k : Bool} {es : List Expr} {c' : E} {cs : Es} (ha : ST cl gl X a ca) (hb : SBT cl gl X k (b :: es) (.cons c' cs)) : SBT cl gl X k (a :: b :: es) (.cons ca (.cons c' cs)) := fun pos σ h d h' e σv H μ Q R S A => by
  simp only [evB, Option.bind_eq_some_iff] at e
  obtain ⟨p, e1, e2⟩ := e
  split at e2
  · rename_i i hi
    cases k with
    | true =>
      refine ww_of (pw_and pt_wt pw_ww) (ha _ _ i p.2 (by rw [e1, ← hi]) _ _ _ _ R S fun H1 μ1 S1 R1 => ?_)
      cases i with
      | true => exact hb pos _ _ _ _ (by simpa using e2) _ _ _ _ R1 (S.stp S1) fun H' μ' S' => A _ _ (S1.trans S')
      | false =>
        simp at e2
        obtain ⟨rfl, rfl⟩ := e2
        exact A _ _ S1 R1
    | false =>
      refine ww_of (pw_or pt_wt pw_ww) (ha _ _ i p.2 (by rw [e1, ← hi]) _ _ _ _ R S fun H1 μ1 S1 R1 => ?_)
      cases i with
      | false => exact hb pos _ _ _ _ (by simpa using e2) _ _ _ _ R1 (S.stp S1) fun H' μ' S' => A _ _ (S1.trans S')
      | true =>
        simp at e2
        obtain ⟨rfl, rfl⟩ := e2
        exact A _ _ S1 R1
  · cases e2
/-! ### lists of arguments, displays -/
theorem a_nil : SA cl gl X [] .nil := fun σ h d h' e σv H μ Q R S A => by
  simp only [evEs] at e
  cases e
  exact wa_of pa_nil (A _ _ _ Stp.refl R .nil)
theorem a_cons {es : List Expr} {cs : Es} (hn : notStar a = true) (ha : SE cl gl X a ca) (hb : SA cl gl X es cs) : SA cl gl X (a :: es) (.cons ca cs) := fun σ h d h' e σv H μ Q R S A => by
  simp only [evEs, Option.bind_eq_some_iff, Option.map_eq_some_iff, Prod.mk.injEq] at e
  obtain ⟨p, e1, q, e2, rfl, rfl⟩ := e
  refine wa_of (pa_cons pe_we pa_wa (star_cons hn)) (ha _ _ _ _ e1 _ _ _ _ R S fun v1 H1 μ1 S1 R1 r1 => hb _ _ _ _ e2 _ _ _ _ R1 (S.stp S1) fun v2 H2 μ2 S2 R2 r2 => ?_)
  exact A _ _ _ (S1.trans S2) R2 (.cons (r1.stp S2) r2)
theorem k_nil : SKw cl gl X [] .nil := fun σ h d h' e σv H μ Q R S A => by
  simp only [evEs] at e
  cases e
  exact wk_of pk_nil (A _ _ _ Stp.refl R .nil)
theorem k_cons {es : List Keyword} {cs : Es} {nm : Option Str} {kp : Pos} (ha : SE cl gl X a ca) (hb : SKw cl gl X es cs) : SKw cl gl X (⟨nm, a, kp⟩ :: es) (.cons ca cs) := fun σ h d h' e σv H μ Q R S A => by
  simp only [evEs, Option.bind_eq_some_iff, Option.map_eq_some_iff, Prod.mk.injEq] at e
  obtain ⟨p, e1, q, e2, rfl, rfl⟩ := e
  refine wk_of (pk_cons pe_we pk_wk) (ha _ _ _ _ e1 _ _ _ _ R S fun v1 H1 μ1 S1 R1 r1 => hb _ _ _ _ e2 _ _ _ _ R1 (S.stp S1) fun v2 H2 μ2 S2 R2 r2 => ?_)
  exact A _ _ _ (S1.trans S2) R2 (.cons (r1.stp S2) r2)
theorem c_tup {es : List Expr} {cs : Es} {k : Nat} (ha : SA cl gl X es cs) : SE cl gl X (.Tuple es k pos) (.tup cs) := fun σ h d h' e σv H μ Q R S A => by
  simp only [evE, Option.bind_eq_some_iff] at e
  obtain ⟨p, e1, e2⟩ := e
  split at e2
  · rename_i hl
    cases e2
    refine we_of (pe_tup pa_wa) (ha _ _ _ _ e1 _ _ _ _ R S fun v1 H1 μ1 S1 R1 r1 => ?_)
    exact ⟨by rw [← r1.length]; exact lim_line hl, fun q hq => (A.step S1).tup R1 r1 hq⟩
  · cases e2
theorem c_lst {es : List Expr} {cs : Es} {m : Bool} (ha : SA cl gl X es cs) : SE cl gl X (.List es pos) (.lst m cs) := fun σ h d h' e σv H μ Q R S A => by
  simp only [evE, Option.bind_eq_some_iff] at e
  obtain ⟨p, e1, e2⟩ := e
  split at e2
  · rename_i hl
    refine we_of (pe_lst pa_wa) (ha _ _ _ _ e1 _ _ _ _ R S fun v1 H1 μ1 S1 R1 r1 => ?_)
    refine ⟨by rw [← r1.length]; exact lim_line hl, fun q hq => ?_⟩
    split at e2
    · cases e2; exact (A.step S1).cel R1 r1 hq
    · cases e2; exact (A.step S1).lst R1 r1 hq
  · cases e2
/-! ### subscripts, slices -/
theorem c_ix (hp : plainIx b = true) (ha : SE cl gl X a ca) (hb : SE cl gl X b cb) : SE cl gl X (.Subscript a b pos) (.ix ca cb) := fun σ h d h' e σv H μ Q R S A => by
  simp only [evE, Option.bind_eq_some_iff, Option.map_eq_some_iff, Prod.mk.injEq] at e
  obtain ⟨p, e1, q, e2, z, e3, rfl, rfl⟩ := e
  refine we_of (pe_ix ix_seq pe_we pe_we (plain_ix hp)) (ha _ _ _ _ e1 _ _ _ _ R S fun v1 H1 μ1 S1 R1 r1 => hb _ _ _ _ e2 _ _ _ _ R1 (S.stp S1) fun v2 H2 μ2 S2 R2 r2 => ?_)
  exact getI_ok e3 R2 (r1.stp S2) r2 (A.step (S1.trans S2))
theorem o_none : SOp cl gl X none .none := ⟨_, po_none, fun σ h d h' e σv H μ Q R S A => by
  simp only [evEo] at e
  cases e
  exact A _ _ Stp.refl R⟩
theorem o_some (ha : SE cl gl X a ca) : SOp cl gl X (some a) (.some ca) := ⟨_, po_some pe_we, fun σ h d h' e σv H μ Q R S A => by
  simp only [evEo, Option.bind_eq_some_iff] at e
  obtain ⟨p, e1, e2⟩ := e
  split at e2
  · rename_i i hi
    cases e2
    refine ha _ _ _ _ e1 _ _ _ _ R S fun v1 H1 μ1 S1 R1 r1 => ?_
    rw [hi] at r1
    cases r1
    exact ⟨i, rfl, A _ _ S1 R1⟩
  · cases e2⟩
theorem c_sl {lo hi : Option Expr} {cl' ch : Eo} {p2 : Pos} (ha : SE cl gl X a ca) (hl : SOp cl gl X lo cl') (hh : SOp cl gl X hi ch) : SE cl gl X (.Subscript a (.Slice lo hi none p2) pos) (.sl ca cl' ch) := fun σ h d h' e σv H μ Q R S A => by
  simp only [evE, Option.bind_eq_some_iff, Option.map_eq_some_iff, Prod.mk.injEq] at e
  obtain ⟨p, e1, q, e2, r, e3, z, e4, rfl, rfl⟩ := e
  obtain ⟨tl, pl, gl'⟩ := hl
  obtain ⟨th, ph, gh⟩ := hh
  refine we_of (pe_slice sl_any pe_we pl ph) (ha _ _ _ _ e1 _ _ _ _ R S fun v1 H1 μ1 S1 R1 r1 => gl' _ _ _ _ e2 _ _ _ _ R1 (S.stp S1) fun H2 μ2 S2 R2 => gh _ _ _ _ e3 _ _ _ _ R2 (S.stp (S1.trans S2)) fun H3 μ3 S3 R3 => ?_)
  exact slI_ok e4 R3 (r1.stp (S2.trans S3)) (A.step ((S1.trans S2).trans S3))
end
end Py

set_option Elab.async false
set_option linter.all false
set_option maxRecDepth 100000
set_option maxHeartbeats 1000000
/-! Calls: of built-ins, of the program's own defs, of methods; targets; what is walked. -/
namespace Py
open PySem PySem.Spec PyProof.Rows L2

def bltName : Blt → Str
  | .len => "len" | .abs => "abs" | .int => "int" | .max => "max" | .min => "min" | .sum => "sum" | .tuple => "tuple" | .list _ => "list" | .isi => "isinstance" | .gcd => "gcd" | .all => "all" | .any => "any"
/-- what the program's def f promises, called n levels deep at most -/
def spI (T : Tbl) (K : PySem.W.Frag) (n f : Nat) : Sp := fun vs H Q _ => ∃ (μ : Mu) (h : Hs) (ds : List D) (d : D) (h' : Hs), HRel K μ h H ∧ Reps K μ H ds vs ∧ evF T.FT T.gl n f ds h = some (d, h') ∧ AnsE K μ H d h' Q

/-- how a call with keywords binds -/
def KwOk (K : PySem.W.Frag) (fd : FuncData) (ps : List Str) (np : Nat) (ks : List Str) (perm : List Nat) : Prop :=
  ∀ (s : Shared) (us ws zs : List Value), K.In s.heap → us.length = np → ws.length = ks.length → (perm.mapM fun i => (us ++ ws)[i]?) = some zs → BindsTo s fd ⟨us, ks.zip ws⟩ (ps.zip zs)

structure FnAt (T : Tbl) (P : Program) (w : World) (K : PySem.W.Frag) (mg : Str → Option Value) (base : Heap) (n f : Nat) : Prop where
  ex : ∃ (fa : Addr) (fd : FuncData) (ps : List Str), mg (T.nm f) = some (.ref fa) ∧ PySem.W.keepIn K (.ref fa) = true ∧ Binds K fd ps [] ∧ FnOk P w K mg base CX0 n fa fd ps (spI T K n f) ∧
    ∀ np ks perm, (f, np, ks, perm) ∈ T.kw → KwOk K fd ps np ks perm

/-- a body (or a comprehension's block) of the program: its names by slot, its scope -/
structure CG (T : Tbl) (n : Nat) (N : List Str) (sc : Scope) (fnb : Str → Bool) (X : Cx) : Prop where
  hN : X.N = N
  sc : X.env.scope = sc
  nd : N.Nodup
  calm : X.calm = true
  room : Room n X.A
  xe : X.xe = fun _ _ => False
  fn : X.fn = fnb
  bn : ∀ x ∈ T.bn, X.mg x = none
  gcd : T.gcd = true → X.mg "gcd" = some (.builtin "math.gcd")
  gl : ∀ x d, T.gl x = some d → ∃ u v, X.mg x = some u ∧ RelV v u ∧ ∀ μ H, Rep X.K μ H d v
  fns : ∀ f F, T.FT f = some F → FnAt T X.prog X.w X.K X.mg X.base n f

section
variable {T : Tbl} {n : Nat} {N : List Str} {sc : Scope} {fnb : Str → Bool} {X : Cx}

theorem CG.gl_ (G : CG T n N sc fnb X) {x : Str} (h : sc.names.lookup x = some .globalImplicit) : Gl X x := by
  show X.env.scope.names.lookup x = _
  rw [G.sc]; exact h
theorem CG.vis (G : CG T n N sc fnb X) {x : Str} (h : Vis sc x) : Vis X.env.scope x := by rw [G.sc]; exact h
theorem CG.loc (G : CG T n N sc fnb X) {x : Str} (h : Loc sc x) : Loc X.env.scope x := by rw [G.sc]; exact h
theorem CG.hu (G : CG T n N sc fnb X) : X.A.units + 64 < cLine := G.room.units
/-- within a comprehension -/
theorem CG.blk (G : CG T n N sc fnb X) (s : Shared) (H : Hp) (scope : Scope) (C : Addr) (cs : List (Str × Addr)) (fp : List Addr) :
    CG T n N (relS scope sc) (fun x => scope.names.lookup x == some .cell) (X.blk s H scope (compEnvC scope cs C X.env) fp) :=
  ⟨G.hN, by rw [← G.sc]; rfl, G.nd, G.calm, G.room, rfl, rfl, G.bn, G.gcd, G.gl, G.fns⟩

variable {e : Expr} {es : List Expr} {cs : Es} {pos p : Pos}
theorem boot_blt : ∀ b : Blt, b ≠ .gcd → bootBuiltins (bltName b) = some (bltVal b) := by
  intro b h
  cases b with
  | gcd => exact absurd rfl h
  | list m => cases m <;> decide +kernel
  | _ => decide +kernel
theorem blt_names (b : Blt) : bltName b ≠ "__name__" ∧ (bltName b == ("__debug__" : Str)) = false := by
  cases b with
  | list m => cases m <;> exact ⟨by decide +kernel, by decide +kernel⟩
  | _ => exact ⟨by decide +kernel, by decide +kernel⟩
theorem c_bt (G : CG T n N sc fnb X) {b : Blt} (hg : Gl X (bltName b)) (hm : if b = .gcd then T.gcd = true else bltName b ∈ T.bn) (hs : (e :: es).all notStar = true) (ha : SA (evF T.FT T.gl n) T.gl X (e :: es) cs) :
    SE (evF T.FT T.gl n) T.gl X (.Call (.Name (bltName b) p) (e :: es) [] pos) (.bt b cs) := fun σ h d h' ev σv H μ Q R S A => by
  simp only [evE, Option.bind_eq_some_iff] at ev
  obtain ⟨q, e1, e2⟩ := ev
  rw [List.all_cons, Bool.and_eq_true] at hs
  have he : starEach (e :: es) X.env = (false, eval e X.env) :: starEach es X.env := star_cons hs.1
  have hpl : (backTo pos (starEach es X.env)).any (·.1) = false := star_plain hs.2
  have core : WA X (e :: es) σv H fun vs H1 => WC X (bltVal b) vs H1 Q := ha _ _ _ _ e1 _ _ _ _ R S fun vs H1 μ1 S1 R1 r1 => blt_ok G.calm e2 R1 r1 (A.step S1)
  have hn := blt_names b
  by_cases hb : b = .gcd
  · subst hb
    exact we_of (pe_callBfun (id := "math.gcd") wc_ok hg (G.gcd (by simpa using hm)) pa_wa hn.2 he hpl) core
  · rw [if_neg hb] at hm
    have hv := boot_blt b hb
    have hm := G.bn _ hm
    cases b with
    | gcd => exact absurd rfl hb
    | int => exact we_of (pe_callTy (T := "int") wc_ok hg hm hv pa_wa hn.1 hn.2 he hpl) core
    | tuple => exact we_of (pe_callTy (T := "tuple") wc_ok hg hm hv pa_wa hn.1 hn.2 he hpl) core
    | list m => exact we_of (pe_callTy (T := "list") wc_ok hg hm hv pa_wa hn.1 hn.2 he hpl) core
    | len => exact we_of (pe_callB (id := "len") wc_ok hg hm hv pa_wa hn.1 hn.2 he hpl) core
    | abs => exact we_of (pe_callB (id := "abs") wc_ok hg hm hv pa_wa hn.1 hn.2 he hpl) core
    | max => exact we_of (pe_callB (id := "max") wc_ok hg hm hv pa_wa hn.1 hn.2 he hpl) core
    | min => exact we_of (pe_callB (id := "min") wc_ok hg hm hv pa_wa hn.1 hn.2 he hpl) core
    | sum => exact we_of (pe_callB (id := "sum") wc_ok hg hm hv pa_wa hn.1 hn.2 he hpl) core
    | isi => exact we_of (pe_callB (id := "isinstance") wc_ok hg hm hv pa_wa hn.1 hn.2 he hpl) core
    | all => exact we_of (pe_callB (id := "all") wc_ok hg hm hv pa_wa hn.1 hn.2 he hpl) core
    | any => exact we_of (pe_callB (id := "any") wc_ok hg hm hv pa_wa hn.1 hn.2 he hpl) core

theorem c_cl (G : CG T n N sc fnb X) {f : Nat} {F : FDef} (hf : T.FT f = some F) (hg : Gl X (T.nm f)) (hd : (T.nm f == ("__debug__" : Str)) = false) (hs : (e :: es).all notStar = true) (ha : SA (evF T.FT T.gl n) T.gl X (e :: es) cs) :
    SE (evF T.FT T.gl n) T.gl X (.Call (.Name (T.nm f) p) (e :: es) [] pos) (.cl f cs) := fun σ h d h' ev σv H μ Q R S A => by
  simp only [evE, Option.bind_eq_some_iff] at ev
  obtain ⟨q, e1, e2⟩ := ev
  rw [List.all_cons, Bool.and_eq_true] at hs
  obtain ⟨fa, fd, ps, hm, hk, hb, F, _⟩ := (G.fns f F hf).ex
  refine we_of (pe_call F G.room hg hm hk hb .nil pass0 pa_wa hd (star_cons hs.1) (star_plain hs.2)) (ha _ _ _ _ e1 _ _ _ _ R S fun vs H1 μ1 S1 R1 r1 => ?_)
  rw [List.append_nil]
  exact ⟨μ1, q.2, q.1, d, h', R1, r1, e2, A.step S1⟩
theorem c_cl0 (G : CG T n N sc fnb X) {f : Nat} {F : FDef} (hf : T.FT f = some F) (hg : Gl X (T.nm f)) (hd : (T.nm f == ("__debug__" : Str)) = false) :
    SE (evF T.FT T.gl n) T.gl X (.Call (.Name (T.nm f) p) [] [] pos) (.cl f .nil) := fun σ h d h' ev σv H μ Q R S A => by
  simp only [evE, evEs, Option.bind_eq_some_iff] at ev
  obtain ⟨q, e1, e2⟩ := ev
  cases e1
  obtain ⟨fa, fd, ps, hm, hk, hb, F, _⟩ := (G.fns f F hf).ex
  refine we_of (pe_call0 F G.room hg hm hk hb .nil pass0 hd) ?_
  exact ⟨μ, h, [], d, h', R, .nil, e2, A⟩

/-! ### keywords -/
def kwNames (kws : List Keyword) : List (Option Str) := kws.map fun k => k.arg
theorem kw_some : ∀ {kws : List Keyword} {ks : List Str} {pos : Pos} {env : Env}, kwNames kws = ks.map some → (backToKw pos (keywordEach kws env)).all (·.1.isSome) = true ∧ (backToKw pos (keywordEach kws env)).filterMap (·.1) = ks ∧ (backToKw pos (keywordEach kws env)).any (·.1.isNone) = false
  | [], [], _, _, _ => ⟨rfl, rfl, rfl⟩
  | [], _ :: _, _, _, h => by simp [kwNames] at h
  | _ :: _, [], _, _, h => by simp [kwNames] at h
  | ⟨nm, e, q⟩ :: kws, k :: ks, pos, env, h => by
    simp only [kwNames, List.map_cons, List.cons.injEq] at h
    obtain ⟨h1, h2⟩ := h
    subst h1
    obtain ⟨i1, i2, i3⟩ := kw_some (pos := pos) (env := env) (show kwNames kws = ks.map some from h2)
    refine ⟨?_, ?_, ?_⟩
    · show (true && (backToKw pos (keywordEach kws env)).all (·.1.isSome)) = true
      rw [i1]; rfl
    · show k :: (backToKw pos (keywordEach kws env)).filterMap (·.1) = k :: ks
      rw [i2]
    · show (false || (backToKw pos (keywordEach kws env)).any (·.1.isNone)) = false
      rw [i3]; rfl
theorem mapM_rel {A B : Type} {r : A → B → Prop} {g1 : Nat → Option A} {g2 : Nat → Option B} (hg : ∀ i a, g1 i = some a → ∃ b, g2 i = some b ∧ r a b) : ∀ {perm : List Nat} {xs : List A}, perm.mapM g1 = some xs → ∃ ys, perm.mapM g2 = some ys ∧ Paired r xs ys
  | [], xs, h => by
    simp only [List.mapM_nil, pure, Option.some.injEq] at h
    subst h
    exact ⟨[], rfl, .nil⟩
  | i :: perm, xs, h => by
    simp only [List.mapM_cons, bind, Option.bind_eq_some_iff, pure, Option.some.injEq] at h
    obtain ⟨a, h1, as, h2, rfl⟩ := h
    obtain ⟨b, h3, h4⟩ := hg i a h1
    obtain ⟨bs, h5, h6⟩ := mapM_rel hg h2
    refine ⟨b :: bs, ?_, .cons h4 h6⟩
    simp only [List.mapM_cons, bind, Option.bind_eq_some_iff, pure, Option.some.injEq]
    exact ⟨b, h3, bs, h5, rfl⟩
theorem reps_paired {K : PySem.W.Frag} {μ : Mu} {H : Hp} : ∀ {ds : List D} {vs : List V}, Paired (Rep K μ H) ds vs → Reps K μ H ds vs
  | _, _, .nil => .nil
  | _, _, .cons r t => .cons r (reps_paired t)
theorem run_kw {fa : Addr} {fd : FuncData} {ps : List Str} {np : Nat} {ks : List Str} {perm : List Nat} {sp : Sp} {pins : List (Addr × Obj)} {σ : L2.St} {H : Hp} {s : Shared} {Q : VK} {us ws : List Value} {vs zs xs : List V} (F : FnOk X.prog X.w X.K X.mg X.base CX0 n fa fd ps sp) (hr : Room n X.A)
    (hb : KwOk X.K fd ps np ks perm) (I : Inv X pins σ H s) (r : Vals vs us) (rz : Vals zs ws) (hl : vs.length = np) (hz : zs.length = ks.length) (hp : (perm.mapM fun i => (vs ++ zs)[i]?) = some xs) (h : sp xs H Q E0) :
    wpAny (model X.prog X.w) X.A (call (.ref fa) us (ks.zip ws)) (EP X pins σ Q) X.xe s := by
  have rr := r.append rz
  obtain ⟨ys, h1, h2⟩ := mapM_rel (r := RelV) (g2 := fun i => (us ++ ws)[i]?) (fun i a ha => Vals.get rr ha) hp
  refine wpAny_call (codeAny_mono (F.run X.A X.stack s H ⟨us, ks.zip ws⟩ ys xs Q E0 hr I.env0 (hb s us ws ys I.kIn (by rw [← r.length]; exact hl) (by rw [← rz.length]; exact hz) h1) h2 h) fun r s' hq => ?_)
  cases r with
  | error e => exact hq.elim
  | ok fl =>
    cases fl with
    | ret u => exact I.after hq
    | next => exact False.elim hq
    | brk => exact False.elim hq
    | cont => exact False.elim hq
theorem mapM_D {K : PySem.W.Frag} {μ : Mu} {H : Hp} {ds : List D} {vs : List V} (r : Reps K μ H ds vs) {perm : List Nat} {xs : List D} (h : (perm.mapM fun i => ds[i]?) = some xs) : ∃ ys, (perm.mapM fun i => vs[i]?) = some ys ∧ Reps K μ H xs ys := by
  obtain ⟨ys, h1, h2⟩ := mapM_rel (r := Rep K μ H) (g2 := fun i => vs[i]?) (fun i a ha => r.get ha) h
  exact ⟨ys, h1, reps_paired h2⟩
def esLen : Es → Nat
  | .nil => 0
  | .cons _ es => esLen es + 1
theorem evEs_len {cl : Nat → List D → Hs → Option (D × Hs)} {gl : Str → Option D} : ∀ {cs : Es} {σ : Sg} {h h' : Hs} {ds : List D}, evEs cl gl cs σ h = some (ds, h') → ds.length = esLen cs
  | .nil, σ, h, h', ds, e => by
    simp only [evEs] at e
    cases e; rfl
  | .cons c cs, σ, h, h', ds, e => by
    simp only [evEs, Option.bind_eq_some_iff, Option.map_eq_some_iff, Prod.mk.injEq] at e
    obtain ⟨p, e1, q, e2, rfl, rfl⟩ := e
    rw [List.length_cons, evEs_len e2]; rfl
def tKw (sp : Sp) (np nk : Nat) (perm : List Nat) (t tk : TA) : TE := fun σ H Q => t σ H fun vs H1 => tk σ H1 fun zs H2 => vs.length = np ∧ zs.length = nk ∧ ∃ xs, (perm.mapM fun i => (vs ++ zs)[i]?) = some xs ∧ sp xs H2 Q E0
theorem pe_kw {x : Str} {fa : Addr} {fd : FuncData} {ps : List Str} {ks : List Str} {perm : List Nat} {sp : Sp} {kws : List Keyword} {t tk : TA} (F : FnOk X.prog X.w X.K X.mg X.base CX0 n fa fd ps sp) (hr : Room n X.A) (hg : Gl X x) (hm : X.mg x = some (.ref fa)) (hk : PySem.W.keepIn X.K (.ref fa) = true)
    (hb : KwOk X.K fd ps (e :: es).length ks perm) (ha : PA X (e :: es) t) (hkw : PK X kws tk) (hks : kwNames kws = ks.map some) (hdb : (x == ("__debug__" : Str)) = false) (hs : (e :: es).all notStar = true) :
    PE X (.Call (.Name x p) (e :: es) kws pos) (tKw sp (e :: es).length ks.length perm t tk) := by
  refine ⟨fun pins s σ H Q I h => ?_⟩
  obtain ⟨k1, k2, k3⟩ := kw_some (pos := pos) (env := X.env) hks
  refine wpAny_Call_Name_kw (ld_glob I hg hm ?_ hdb)
  rw [List.all_cons, Bool.and_eq_true] at hs
  have he : starEach (e :: es) X.env = (false, eval e X.env) :: starEach es X.env := star_cons hs.1
  have hpl : (backTo pos (starEach es X.env)).any (·.1) = false := star_plain hs.2
  refine PySem.W.callWith_KW (h₀ := X.base) I.ok.mod.kin hk k1 (thn (ha.run pos pins s σ H _ I h) fun us s1 ⟨vs, H1, I1, r, q⟩ => ?_) ?_ he
  · refine thn (hkw.run pos pins s1 σ H1 _ I1 q) fun ws s2 ⟨zs, H2, I2, rz, l1, l2, xs, hx, q2⟩ => ⟨I2.kIn, ?_⟩
    rw [k2]
    exact run_kw F hr hb I2 r rz l1 l2 hx q2
  · rw [he, k3]
    show ((false || (backTo pos (starEach es X.env)).any (·.1)) || false) = false
    rw [hpl]; rfl
theorem pe_kw0 {x : Str} {fa : Addr} {fd : FuncData} {ps : List Str} {ks : List Str} {perm : List Nat} {sp : Sp} {kws : List Keyword} {tk : TA} (F : FnOk X.prog X.w X.K X.mg X.base CX0 n fa fd ps sp) (hr : Room n X.A) (hg : Gl X x) (hm : X.mg x = some (.ref fa)) (hk : PySem.W.keepIn X.K (.ref fa) = true)
    (hb : KwOk X.K fd ps 0 ks perm) (hkw : PK X kws tk) (hks : kwNames kws = ks.map some) (hdb : (x == ("__debug__" : Str)) = false) :
    PE X (.Call (.Name x p) [] kws pos) (tKw sp 0 ks.length perm tNil tk) := by
  refine ⟨fun pins s σ H Q I h => ?_⟩
  obtain ⟨k1, k2, k3⟩ := kw_some (pos := pos) (env := X.env) hks
  refine wpAny_Call_Name_kw (ld_glob I hg hm ?_ hdb)
  refine PySem.W.callWith_KW0 (h₀ := X.base) I.ok.mod.kin hk k1 (thn (hkw.run pos pins s σ H _ I h) fun ws s2 ⟨zs, H2, I2, rz, l1, l2, xs, hx, q2⟩ => ⟨I2.kIn, ?_⟩) (by rw [k3]; rfl)
  rw [k2]
  exact run_kw F hr hb I2 .nil rz l1 l2 hx q2
theorem c_ck (G : CG T n N sc fnb X) {f : Nat} {F : FDef} {kws : List Keyword} {ck : Es} {perm : List Nat} {ks : List Str} (hf : T.FT f = some F) (hg : Gl X (T.nm f)) (hd : (T.nm f == ("__debug__" : Str)) = false) (hs : es.all notStar = true)
    (hw : (f, es.length, ks, perm) ∈ T.kw) (hks : kwNames kws = ks.map some) (hl : esLen cs = es.length) (hk : esLen ck = ks.length) (ha : SA (evF T.FT T.gl n) T.gl X es cs) (hkw : SKw (evF T.FT T.gl n) T.gl X kws ck) :
    SE (evF T.FT T.gl n) T.gl X (.Call (.Name (T.nm f) p) es kws pos) (.ck f cs ck perm) := fun σ h d h' ev σv H μ Q R S A => by
  simp only [evE, Option.bind_eq_some_iff] at ev
  obtain ⟨q, e1, q2, e2, ds, e3, e4⟩ := ev
  obtain ⟨fa, fd, ps, hm, hk', hb, F, hkk⟩ := (G.fns f F hf).ex
  cases es with
  | nil =>
    cases cs with
    | cons _ _ => simp [esLen] at hl
    | nil =>
      simp only [evEs] at e1
      cases e1
      refine we_of (pe_kw0 F G.room hg hm hk' (hkk _ _ _ hw) pk_wk hks hd) (hkw _ _ _ _ e2 _ _ _ _ R S fun zs H2 μ2 S2 R2 r2 => ?_)
      obtain ⟨ys, h1, h2⟩ := mapM_D (Reps.append .nil r2) e3
      exact ⟨rfl, by rw [← r2.length, evEs_len e2, hk], ys, h1, μ2, q2.2, ds, d, h', R2, h2, e4, A.step S2⟩
  | cons e es =>
    refine we_of (pe_kw F G.room hg hm hk' (hkk _ _ _ hw) pa_wa pk_wk hks hd hs) (ha _ _ _ _ e1 _ _ _ _ R S fun vs H1 μ1 S1 R1 r1 => hkw _ _ _ _ e2 _ _ _ _ R1 (S.stp S1) fun zs H2 μ2 S2 R2 r2 => ?_)
    obtain ⟨ys, h1, h2⟩ := mapM_D ((r1.stp S2).append r2) e3
    exact ⟨by rw [← r1.length, evEs_len e1, hl], by rw [← r2.length, evEs_len e2, hk], ys, h1, μ2, q2.2, ds, d, h', R2, h2, e4, A.step (S1.trans S2)⟩

/-! ### methods of lists -/
theorem few_ok : ∀ {es : List Expr} {env : Env}, es.all notStar = true → (backTo pos (starEach es env)).all (fun x => !x.1) = true
  | [], _, _ => rfl
  | e :: es, env, h => by
    rw [List.all_cons, Bool.and_eq_true] at h
    rw [star_cons h.1]
    show (true && (backTo pos (starEach es env)).all (fun x => !x.1)) = true
    rw [few_ok h.2]; rfl
theorem cel_ty {K : PySem.W.Frag} {μ : Mu} {h : Hs} {H : Hp} {c : Nat} {v : V} (R : HRel K μ h H) (r : Rep K μ H (.cel c) v) : tyV K "list" v H := by
  cases r with
  | cel ha =>
    have hi : c < h.length := by rw [← R.len]; exact (List.getElem?_eq_some_iff.mp ha).1
    obtain ⟨vs, h1, _⟩ := R.at ha (List.getElem?_eq_getElem hi)
    exact Or.inl ⟨rfl, _, Or.inl (Or.inl h1)⟩
theorem meth_cel {m : Mth} {x d : D} {ds : List D} {h h' : Hs} (e : meth m x ds h = some (d, h')) : ∃ c, x = .cel c := by
  unfold meth at e
  split at e
  · exact ⟨_, rfl⟩
  · exact ⟨_, rfl⟩
  · cases e
theorem c_mt {o : Expr} {co : E} {m : Mth} {ap : Pos} (hm : m = .append ∨ m = .popAt) (hbase : attributeBase o (mthName m) X.env (eval o X.env) = eval o X.env) (hline : (ap.endLine == pos.line) = true) (hs : (e :: es).all notStar = true)
    (hlen : es.length < 20) (ho : SE (evF T.FT T.gl n) T.gl X o co) (ha : SA (evF T.FT T.gl n) T.gl X (e :: es) cs) : SE (evF T.FT T.gl n) T.gl X (.Call (.Attribute o (mthName m) ap) (e :: es) [] pos) (.mt m co cs) := fun σ h d h' ev σv H μ Q R S A => by
  simp only [evE, Option.bind_eq_some_iff] at ev
  obtain ⟨q, e1, q2, e2, e3⟩ := ev
  obtain ⟨c, hc⟩ := meth_cel e3
  have hall := few_ok (pos := pos) (env := X.env) hs
  have hfew : ((backTo pos (starEach (e :: es) X.env)).all (fun x => !x.1) && (backToKw pos (keywordEach [] X.env)).all (fun x => x.1.isSome)
      && decide ((e :: es).length + ([] : List Keyword).length + (if ([] : List Keyword).isEmpty then 0 else 1) < 30)) = true := by
    rw [hall]
    show (true && decide (es.length + 1 + 0 + 0 < 30)) = true
    rw [decide_eq_true (by omega)]; rfl
  rw [List.all_cons, Bool.and_eq_true] at hs
  have core : WE X o σv H fun x H1 => tyV X.K "list" x H1 ∧ WA X (e :: es) σv H1 fun xs H2 => WM X (mthId m) x xs H2 Q := ho _ _ _ _ e1 _ _ _ _ R S fun v1 H1 μ1 S1 R1 r1 => by
    refine ⟨cel_ty R1 (by rw [hc] at r1; exact r1), ha _ _ _ _ e2 _ _ _ _ R1 (S.stp S1) fun vs H2 μ2 S2 R2 r2 => meth_ok e3 R2 (r1.stp S2) r2 (A.step (S1.trans S2))⟩
  rcases hm with rfl | rfl
  · exact we_of (pe_bm PySem.F.plainAttrs_list PySem.F.slot_list_append PySem.F.type_list_append wm_ok pe_we pa_wa hbase hfew hline (star_cons hs.1) (star_plain hs.2)) core
  · exact we_of (pe_bm PySem.F.plainAttrs_list PySem.F.slot_list_pop PySem.F.type_list_pop wm_ok pe_we pa_wa hbase hfew hline (star_cons hs.1) (star_plain hs.2)) core
end
end Py

set_option Elab.async false
set_option linter.all false
set_option maxRecDepth 100000
set_option maxHeartbeats 1000000
/-! Targets, what is walked, comprehensions. -/
namespace Py
open PySem PySem.Spec PyProof.Rows L2

/-! the slots that a target stores -/
mutual
def slT : Tg → List Nat
  | .name i => [i]
  | .tup ts => slTs ts
  | .sub _ _ => []
def slTs : Tgs → List Nat
  | .nil => []
  | .cons t ts => slT t ++ slTs ts
end
/-- two states agree but for some slots -/
def Agr (ss : List Nat) (σ σ' : L2.St) : Prop := σ.length = σ'.length ∧ ∀ j : Nat, j ∉ ss → σ'[j]? = σ[j]?
theorem Agr.refl (ss : List Nat) (σ : L2.St) : Agr ss σ σ := ⟨rfl, fun _ _ => rfl⟩
theorem Agr.trans {ss ss' : List Nat} {σ σ' σ2 : L2.St} (a : Agr ss σ σ') (b : Agr ss' σ' σ2) : Agr (ss ++ ss') σ σ2 :=
  ⟨a.1.trans b.1, fun j hj => by
    rw [List.mem_append, not_or] at hj
    rw [b.2 j hj.2, a.2 j hj.1]⟩
theorem Agr.set (i : Nat) (σ : L2.St) (v : Option V) : Agr [i] σ (σ.set i v) := ⟨by rw [List.length_set], fun j hj => by
  rw [List.getElem?_set_ne (fun e => hj (by rw [e]; exact List.mem_singleton.mpr rfl))]⟩
theorem wipe_get (σ : L2.St) : ∀ (vs : List Nat) (j : Nat), (wipe σ vs)[j]? = if j ∈ vs then (if j < σ.length then some none else none) else σ[j]?
  | [], j => by simp [wipe]
  | v :: vs, j => by
    unfold wipe
    have ih := wipe_get σ vs j
    by_cases hv : v = j
    · subst hv
      rw [if_pos List.mem_cons_self]
      by_cases hl : v < σ.length
      · rw [if_pos hl, List.getElem?_set_self (by rw [wipe_length]; exact hl)]
      · rw [if_neg hl, List.getElem?_eq_none (by rw [List.length_set, wipe_length]; omega)]
    · rw [List.getElem?_set_ne hv, ih]
      by_cases hm : j ∈ vs
      · rw [if_pos hm, if_pos (List.mem_cons_of_mem _ hm)]
      · rw [if_neg hm, if_neg (by simp only [List.mem_cons, not_or]; exact ⟨fun e => hv e.symm, hm⟩)]
theorem wipe_agr {ss own : List Nat} {σ σ2 : L2.St} (a : Agr ss (wipe σ own) σ2) (hs : ∀ i ∈ ss, i ∈ own) : wipe σ2 own = wipe σ own := by
  apply List.ext_getElem?
  intro j
  rw [wipe_get, wipe_get]
  have hl : σ2.length = σ.length := by rw [← a.1, wipe_length]
  by_cases hj : j ∈ own
  · rw [if_pos hj, if_pos hj, hl]
  · rw [if_neg hj, if_neg hj, a.2 j (fun e => hj (hs j e)), wipe_get, if_neg hj]

section
variable (cl : Nat → List D → Hs → Option (D × Hs)) (gl : Str → Option D)
def SG (X : Cx) (tg : Expr) (t : Tg) : Prop := ∀ (d : D) (σ : Sg) (h : Hs) (σ' : Sg) (h' : Hs), evTg cl gl t d σ h = some (σ', h') → ∀ (v : V) (σv : L2.St) (H : Hp) (μ : Mu) (Q : L2.St → Hp → Prop), HRel X.K μ h H → RelS X.K μ H σ σv → Rep X.K μ H d v →
  (∀ σv' H' μ', Stp μ H μ' H' → HRel X.K μ' h' H' → RelS X.K μ' H' σ' σv' → Agr (slT t) σv σv' → Q σv' H') → WG X tg v σv H Q
def SGs (X : Cx) (tg : List Expr) (t : Tgs) : Prop := ∀ (ds : List D) (σ : Sg) (h : Hs) (σ' : Sg) (h' : Hs), evTgs cl gl t ds σ h = some (σ', h') → ∀ (vs : List V) (σv : L2.St) (H : Hp) (μ : Mu) (Q : L2.St → Hp → Prop), HRel X.K μ h H → RelS X.K μ H σ σv → Reps X.K μ H ds vs →
  (∀ σv' H' μ', Stp μ H μ' H' → HRel X.K μ' h' H' → RelS X.K μ' H' σ' σv' → Agr (slTs t) σv σv' → Q σv' H') → WGs X tg vs σv H Q
/-- J yields ds, one by one, from (μ, H) on -/
def Walks (K : PySem.W.Frag) (J : L2.It) (src : Option Nat) (ds : List D) (μ0 : Mu) (H0 : Hp) : Prop := ∀ (μ : Mu) (H : Hp) (h : Hs), Mv μ0 H0 μ H → HRel K μ h H → (∀ c, src = some c → h[c]? = some ds) → ∀ i : Nat,
  (∀ d, ds[i]? = some d → J.go i H ∧ ∀ x H', J.yld i H x H' → Stp μ H μ H' ∧ HRel K μ h H' ∧ Rep K μ H' d x) ∧ (ds.length ≤ i → J.stop i H)
def SI (X : Cx) (tg iter : Expr) (it : It) : Prop := ∀ (σ : Sg) (h : Hs) (w : Wk), evIt cl gl it σ h = some w → ∀ (σv : L2.St) (H : Hp) (μ : Mu) (R : L2.It → Hp → Prop), HRel X.K μ h H → RelS X.K μ H σ σv →
  (∀ J H' μ', Stp μ H μ' H' → HRel X.K μ' w.h H' → Walks X.K J w.src w.xs μ' H' → R J H') → WI X tg iter σv H R
end
theorem Walks.later {K : PySem.W.Frag} {J : L2.It} {src : Option Nat} {ds : List D} {μ μ' : Mu} {H H' : Hp} (w : Walks K J src ds μ H) (S : Mv μ H μ' H') : Walks K J src ds μ' H' := fun μ2 H2 h S2 => w μ2 H2 h (S.trans S2)

section
variable {T : Tbl} {n : Nat} {N : List Str} {sc : Scope} {fnb : Str → Bool} {X : Cx}
variable {e : Expr} {es : List Expr} {cs : Es} {pos p : Pos} {cl : Nat → List D → Hs → Option (D × Hs)} {gl : Str → Option D} {a b c : Expr} {ca cb : E}

/-! ### targets -/
theorem g_name {i : Nat} {x : Str} (hN : X.N.Nodup) (hi : X.N[i]? = some x) (hx : Loc X.env.scope x) (hf : X.fn x = true ∨ X.env.scope.names.lookup x = some .local) : SG cl gl X (.Name x pos) (.name i) := fun d σ h σ' h' e v σv H μ Q R S r A => by
  simp only [evTg, Option.some.injEq, Prod.mk.injEq] at e
  obtain ⟨rfl, rfl⟩ := e
  exact wg_of (pg_name hN hi hx hf) (A _ _ _ Stp.refl R (S.set r i) (Agr.set i σv _))
theorem gs_nil : SGs cl gl X [] .nil := fun ds σ h σ' h' e vs σv H μ Q R S r A => by
  simp only [evTgs] at e
  split at e
  · cases e
    cases r
    exact wgs_of pgs_nil ⟨rfl, A _ _ _ Stp.refl R S (Agr.refl _ _)⟩
  · cases e
def notStarT : Expr → Bool := notStar
theorem each_cons {e : Expr} {es : List Expr} {env : Env} (h : notStar e = true) : (assignEach (e :: es) env).map (·.2) = assign e env :: (assignEach es env).map (·.2) := by
  cases e <;> first | rfl | (exact absurd h (by simp [notStar]))
theorem each_len : ∀ {es : List Expr} {env : Env}, (assignEach es env).length = es.length
  | [], _ => rfl
  | e :: es, env => by cases e <;> (show (assignEach es env).length + 1 = es.length + 1; rw [each_len])
theorem each_star : ∀ {es : List Expr} {env : Env}, es.all notStar = true → (assignEach es env).findIdx? (·.1) = none
  | [], _, _ => rfl
  | e :: es, env, h => by
    rw [List.all_cons, Bool.and_eq_true] at h
    have ih := each_star (env := env) h.2
    have e1 : assignEach (e :: es) env = (false, assign e env) :: assignEach es env := by
      cases e <;> first | rfl | (exact absurd h.1 (by simp [notStar]))
    rw [e1, List.findIdx?_cons, ih]; rfl
theorem gs_cons {t : Tg} {ts : Tgs} (hn : notStar a = true) (h1 : SG cl gl X a t) (h2 : SGs cl gl X es ts) : SGs cl gl X (a :: es) (.cons t ts) := fun ds σ h σ' h' e vs σv H μ Q R S r A => by
  simp only [evTgs] at e
  split at e
  · rename_i d ds
    simp only [Option.bind_eq_some_iff] at e
    obtain ⟨p, e1, e2⟩ := e
    cases r with
    | cons r rs =>
      refine wgs_of (pgs_cons pg_wg pgs_wgs (each_cons hn)) ⟨_, _, rfl, h1 _ _ _ _ _ e1 _ _ _ _ _ R S r fun σ1 H1 μ1 S1 R1 s1 a1 => h2 _ _ _ _ _ e2 _ _ _ _ _ R1 s1 (rs.stp S1) fun σ2 H2 μ2 S2 R2 s2 a2 => ?_⟩
      exact A _ _ _ (S1.trans S2) R2 s2 (a1.trans a2)
  · cases e
def tgsLen : Tgs → Nat
  | .nil => 0
  | .cons _ ts => tgsLen ts + 1
theorem evTgs_len : ∀ {ts : Tgs} {ds : List D} {σ σ' : Sg} {h h' : Hs}, evTgs cl gl ts ds σ h = some (σ', h') → ds.length = tgsLen ts
  | .nil, ds, _, _, _, _, e => by
    simp only [evTgs] at e
    split at e
    · rfl
    · cases e
  | .cons t ts, ds, _, _, _, _, e => by
    simp only [evTgs] at e
    split at e
    · simp only [Option.bind_eq_some_iff] at e
      obtain ⟨p, e1, e2⟩ := e
      rw [List.length_cons, evTgs_len e2]; rfl
    · cases e
theorem PG.or {tg : Expr} {g g' : TG} (h : PG X tg g) (h' : PG X tg g') : PG X tg (fun v σ H Q => g v σ H Q ∨ g' v σ H Q) :=
  ⟨fun pins s σ H v u Q I r q => q.elim (fun q => h.run pins s σ H v u Q I r q) fun q => h'.run pins s σ H v u Q I r q⟩
theorem g_tup {ts : Tgs} {k : Nat} (hc : X.calm = true) (hs : es.all notStar = true) (hl : tgsLen ts = es.length) (h : SGs cl gl X es ts) : SG cl gl X (.Tuple es k pos) (.tup ts) := fun d σ h0 σ' h' e v σv H μ Q R S r A => by
  refine wg_of (PG.or (pg_tup hc pgs_wgs each_len (each_star hs)) (pg_unl hc pgs_wgs each_len (each_star hs))) ?_
  simp only [evTg] at e
  split at e
  · rename_i ds
    cases r with
    | tup t r =>
      refine .inl ⟨_, _, rfl, t.sq, ?_, h _ _ _ _ _ e _ _ _ _ _ R S r A⟩
      rw [← r.length, evTgs_len e, hl]
  · rename_i ds
    cases r with
    | lst o t r =>
      refine .inr ⟨_, _, rfl, .of t, ?_, h _ _ _ _ _ e _ _ _ _ _ R S r A⟩
      rw [← r.length, evTgs_len e, hl]
  · cases e
theorem assign_sub {o i : Expr} (h : plainIx i = true) : ∀ v, assign (.Subscript o i pos) X.env v = (do
      let ov ← holding [v] (eval o X.env)
      let iv ← holding [v, ov] (eval i X.env)
      standAt pos
      holding [v, ov, iv] (setItem ov iv v)
      release [v, ov, iv] []) := by
  intro v
  cases i with
  | Slice => exact absurd h (by simp [plainIx])
  | _ => rfl
theorem ixN_lt {n : Nat} {i : Int} {j : Nat} (h : ixN n i = some j) : j < n := (ixN_seq h).2.1
theorem g_sub {o i : Expr} {co ci : E} (hp : plainIx i = true) (ho : SE cl gl X o co) (hi : SE cl gl X i ci) : SG cl gl X (.Subscript o i pos) (.sub co ci) := fun d σ h0 σ' h' e v σv H μ Q R S r A => by
  simp only [evTg, Option.bind_eq_some_iff] at e
  obtain ⟨p, e1, q, e2, e3⟩ := e
  split at e3
  · rename_i c k hc hk
    simp only [Option.bind_eq_some_iff, Option.map_eq_some_iff, Prod.mk.injEq] at e3
    obtain ⟨ds, e4, j, e5, rfl, rfl⟩ := e3
    refine wg_of (pg_sub pe_we pe_we set_list (assign_sub hp)) (ho _ _ _ _ e1 _ _ _ _ R S fun v1 H1 μ1 S1 R1 r1 => hi _ _ _ _ e2 _ _ _ _ R1 (S.stp S1) fun v2 H2 μ2 S2 R2 r2 => ?_)
    rw [hc] at r1
    rw [hk] at r2
    have r1' := r1.stp S2
    cases r2
    cases r1' with
    | cel ha =>
      obtain ⟨ws, h1, rw'⟩ := R2.at ha e4
      obtain ⟨R3, S3⟩ := R2.put ha (rw'.set (r.stp (S1.trans S2)) j)
      exact ⟨_, ws, k, j, rfl, rfl, h1, by rw [← rw'.length]; exact e5, A _ _ _ ((S1.trans S2).trans S3) R3 (S.stp ((S1.trans S2).trans S3)) (Agr.refl _ _)⟩
  · cases e3

/-! ### what is walked -/
theorem walks_t {K : PySem.W.Frag} {μ0 : Mu} {H0 : Hp} {a : Addr} {vs : List V} {ds : List D} (t : TupAt K μ0 H0 a vs) (r : Reps K μ0 H0 ds vs) : Walks K (Itt K a) none ds μ0 H0 := fun μ H h S R _ i => by
  have t' := (t.mv S).sq
  have r' := r.mv S
  refine ⟨fun d hd => ?_, fun hi => ⟨vs, t', by rw [← r'.length]; exact hi⟩⟩
  obtain ⟨v, hv, rv⟩ := r'.get hd
  refine ⟨⟨vs, v, t', hv⟩, fun x H' y => ?_⟩
  obtain ⟨rfl, y⟩ := y
  have := y vs t'
  rw [hv] at this
  cases this
  exact ⟨Stp.refl, R, rv⟩
theorem walks_l {K : PySem.W.Frag} {μ0 : Mu} {H0 : Hp} {a : Addr} {vs : List V} {ds : List D} (t : ∀ μ H, Mv μ0 H0 μ H → SqL K H a vs) (r : Reps K μ0 H0 ds vs) : Walks K (Itl K a) none ds μ0 H0 := fun μ H h S R _ i => by
  have t' := t μ H S
  have r' := r.mv S
  refine ⟨fun d hd => ?_, fun hi => ⟨vs, t', by rw [← r'.length]; exact hi⟩⟩
  obtain ⟨v, hv, rv⟩ := r'.get hd
  refine ⟨⟨vs, v, t', hv⟩, fun x H' y => ?_⟩
  obtain ⟨rfl, y⟩ := y
  have := y vs t'
  rw [hv] at this
  cases this
  exact ⟨Stp.refl, R, rv⟩
theorem walks_c {K : PySem.W.Frag} {μ0 : Mu} {H0 : Hp} {a : Addr} {c : Nat} {ds : List D} (ha : μ0.cs[c]? = some a) : Walks K (Itl K a) (some c) ds μ0 H0 := fun μ H h S R hs i => by
  obtain ⟨vs, h1, r'⟩ := R.at (S.ix _ _ ha) (hs c rfl)
  have t' : SqL K H a vs := .of h1
  refine ⟨fun d hd => ?_, fun hi => ⟨vs, t', by rw [← r'.length]; exact hi⟩⟩
  obtain ⟨v, hv, rv⟩ := r'.get hd
  refine ⟨⟨vs, v, t', hv⟩, fun x H' y => ?_⟩
  obtain ⟨rfl, y⟩ := y
  have := y vs t'
  rw [hv] at this
  cases this
  exact ⟨Stp.refl, R, rv⟩
def iSeq (K : PySem.W.Frag) (tl : TE) : TI := fun σ H R => tl σ H fun x H1 => ∃ a, x = .ref a ∧ (((∃ xs, SqL K H1 a xs) ∧ R (Itl K a) H1) ∨ ((∃ xs, SqT K H1 a xs) ∧ R (Itt K a) H1))
theorem pi_seq {tg l : Expr} {tl : TE} (hl : PE X l tl) : PI X tg l (iSeq X.K tl) := by
  refine ⟨fun pins s σ H R I h => ?_⟩
  have h1 : PI X tg l (fun σ H R => ∀ pins s, Inv X pins σ H s → wpAny (model X.prog X.w) X.A (eval l X.env) (fun v s1 => wpAny (model X.prog X.w) X.A (pyIter v) (PIE X pins σ tg R) X.xe s1) X.xe s) := ⟨fun pins s σ H R I h => h pins s I⟩
  refine thn (hl.run pins s σ H _ I h) fun v s1 ⟨x, H1, I1, r1, q1⟩ => ?_
  obtain ⟨a, e, q⟩ := q1
  subst e
  cases r1
  rcases q with ⟨⟨xs, hq⟩, q⟩ | ⟨⟨xs, hq⟩, q⟩
  · obtain ⟨its, rv, p, hz⟩ := I1.list hq
    refine wpAny_pyIter_list p.isList ?_
    refine ⟨s1.heap.objs.size, [s1.heap.objs.size], _, _, H1, rfl, I1.kept (t' := s1.toks) fun b o e => Heap.get?_push_of_some _ e, turn_list a _, ⟨_, Heap.get?_push_size _ rfl, rfl, rfl⟩, fun b hb => ?_, q⟩
    have e : b = s1.heap.objs.size := by simpa using hb
    subst e
    exact I1.fpOk (Nat.le_refl _) (I1.hok.fresh (Nat.le_refl _))
  · obtain ⟨its, rv, p, hz⟩ := I1.tuple hq
    refine wpAny_pyIter_tuple (show s1.heap.IsTuple a its.toArray from p) ?_
    refine ⟨s1.heap.objs.size, [s1.heap.objs.size], _, _, H1, rfl, I1.kept (t' := s1.toks) fun b o e => Heap.get?_push_of_some _ e, turn_tuple a _, ⟨_, Heap.get?_push_size _ rfl, rfl, rfl⟩, fun b hb => ?_, q⟩
    have e : b = s1.heap.objs.size := by simpa using hb
    subst e
    exact I1.fpOk (Nat.le_refl _) (I1.hok.fresh (Nat.le_refl _))
theorem i_seq {tg l : Expr} {cl' : E} (hl : SE cl gl X l cl') : SI cl gl X tg l (.seq cl') := fun σ h w e σv H μ R RR S A => by
  simp only [evIt, Option.bind_eq_some_iff, Option.map_eq_some_iff] at e
  obtain ⟨p, e1, q, e2, rfl⟩ := e
  refine wi_of (pi_seq pe_we) (hl _ _ _ _ e1 _ _ _ _ RR S fun v1 H1 μ1 S1 R1 r1 => ?_)
  unfold seqI at e2
  split at e2
  · rename_i hp
    cases e2
    rw [hp] at r1
    cases r1 with
    | tup t r => exact ⟨_, rfl, .inr ⟨⟨_, t.sq⟩, A _ _ _ S1 R1 (walks_t t r)⟩⟩
  · rename_i hp
    cases e2
    rw [hp] at r1
    cases r1 with
    | lst o t r => exact ⟨_, rfl, .inl ⟨⟨_, .of t⟩, A _ _ _ S1 R1 (walks_l (fun μ' H' S' => .of (S'.keep _ _ o t)) r)⟩⟩
  · rename_i hp
    cases e2
    rw [hp] at r1
    cases r1 with
    | frz t r => exact ⟨_, rfl, .inl ⟨⟨_, t.sq⟩, A _ _ _ S1 R1 (walks_l (fun μ' H' S' => (t.mv S').sq) r)⟩⟩
  · rename_i c hp
    simp only [Option.map_eq_some_iff] at e2
    obtain ⟨ds, e3, rfl⟩ := e2
    rw [hp] at r1
    cases r1 with
    | cel ha =>
      obtain ⟨vs, h1, _⟩ := R1.at ha e3
      exact ⟨_, rfl, .inl ⟨⟨_, .of h1⟩, A _ _ _ S1 R1 (walks_c ha)⟩⟩
  · cases e2
theorem rngL_get (lo : Int) (n i : Nat) : (rngL lo n)[i]? = if i < n then some (.int (lo + (i : Int))) else none := by
  unfold rngL
  rw [List.getElem?_map]
  by_cases h : i < n
  · rw [if_pos h, List.getElem?_range h]; rfl
  · rw [if_neg h, List.getElem?_eq_none (by simpa using h)]; rfl
theorem walks_r {K : PySem.W.Frag} {μ0 : Mu} {H0 : Hp} (lo : Int) (m : Nat) : Walks K (Itr lo m) none (rngL lo m) μ0 H0 := fun μ H h S R _ i => by
  refine ⟨fun d hd => ?_, fun hi => show m ≤ i from (by simpa [rngL] using hi)⟩
  rw [rngL_get] at hd
  split at hd
  · rename_i hi
    cases hd
    refine ⟨hi, fun x H' y => ?_⟩
    obtain ⟨rfl, rfl⟩ := y
    exact ⟨Stp.refl, R, .int _⟩
  · cases hd
theorem i_rng1 {tg : Expr} (G : CG T n N sc fnb X) (hg : Gl X "range") (hm : ("range" : Str) ∈ T.bn) (hs : notStar a = true) (ha : SA cl gl X [a] (.cons ca .nil)) : SI cl gl X tg (.Call (.Name "range" p) [a] [] pos) (.rng1 ca) := fun σ h w e σv H μ R RR S A => by
  simp only [evIt, Option.bind_eq_some_iff] at e
  obtain ⟨q, e1, e2⟩ := e
  split at e2
  · rename_i m hm'
    split at e2
    · rename_i hb
      cases e2
      have ev : evEs cl gl (.cons ca .nil) σ h = some ([q.1], q.2) := by simp only [evEs, e1, Option.bind_some, Option.map_some]
      refine wi_of (pi_range1 hg (G.bn _ hm) pa_wa (star_cons hs)) (ha _ _ _ _ ev _ _ _ _ RR S fun vs H1 μ1 S1 R1 r1 => ?_)
      rw [hm'] at r1
      match vs, r1 with
      | [_], .cons r .nil =>
        cases r
        exact ⟨m, rfl, hb.1, hb.2, A _ _ _ S1 R1 (walks_r 0 _)⟩
    · cases e2
  · cases e2
theorem i_rng2 {tg : Expr} (G : CG T n N sc fnb X) (hg : Gl X "range") (hm : ("range" : Str) ∈ T.bn) (hs : notStar a = true) (hs2 : notStar b = true) (ha : SA cl gl X [a, b] (.cons ca (.cons cb .nil))) : SI cl gl X tg (.Call (.Name "range" p) [a, b] [] pos) (.rng2 ca cb) := fun σ h w e σv H μ R RR S A => by
  simp only [evIt, Option.bind_eq_some_iff] at e
  obtain ⟨q, e1, q2, e3, e2⟩ := e
  split at e2
  · rename_i l m hl' hm'
    split at e2
    · rename_i hb
      cases e2
      have ev : evEs cl gl (.cons ca (.cons cb .nil)) σ h = some ([q.1, q2.1], q2.2) := by simp only [evEs, e1, e3, Option.bind_some, Option.map_some]
      have hs3 : starEach [b] X.env = [(false, eval b X.env)] := star_cons hs2
      refine wi_of (pi_range2 hg (G.bn _ hm) pa_wa (by rw [star_cons hs, hs3]) hs3) (ha _ _ _ _ ev _ _ _ _ RR S fun vs H1 μ1 S1 R1 r1 => ?_)
      rw [hm', hl'] at r1
      match vs, r1 with
      | [_, _], .cons r (.cons r' .nil) =>
        cases r
        cases r'
        exact ⟨l, m, rfl, ⟨hb.1.1, hb.1.2, hb.2.1, hb.2.2⟩, A _ _ _ S1 R1 (walks_r l _)⟩
    · cases e2
  · cases e2
theorem new_pair {K : PySem.W.Frag} {μ : Mu} {h : Hs} {H : Hp} {d1 d2 : D} {x y : V} {p : Addr} (R : HRel K μ h H) (hp : H p = none) (r1 : Rep K μ H d1 x) (r2 : Rep K μ H d2 y) :
    Stp μ H μ (upd H p (.tup [x, y])) ∧ HRel K μ h (upd H p (.tup [x, y])) ∧ Rep K μ (upd H p (.tup [x, y])) (.tup [d1, d2]) (.ref p) := by
  obtain ⟨R', S⟩ := R.new (.tup [x, y]) hp
  exact ⟨S, R', .tup (.inl ⟨R.fresh hp, upd_same⟩) ((Reps.cons r1 (.cons r2 .nil)).stp S)⟩
theorem zip_get {xs ys : List D} (hl : xs.length = ys.length) {i : Nat} {d : D} (h : (xs.zipWith (fun x y => D.tup [x, y]) ys)[i]? = some d) : ∃ x y, xs[i]? = some x ∧ ys[i]? = some y ∧ d = .tup [x, y] := by
  rw [List.getElem?_zipWith] at h
  split at h
  · rename_i x y hx hy
    cases h
    exact ⟨x, y, hx, hy, rfl⟩
  · cases h
theorem i_zip {elts : List Expr} {kk : Nat} {tpos : Pos} (G : CG T n N sc fnb X) (hg : Gl X "zip") (hm : ("zip" : Str) ∈ T.bn) (hs : notStar a = true) (hs2 : notStar b = true) (ha : SA cl gl X [a, b] (.cons ca (.cons cb .nil))) :
    SI cl gl X (.Tuple elts kk tpos) (.Call (.Name "zip" p) [a, b] [] pos) (.zip ca cb) := fun σ h w e σv H μ R RR S A => by
  simp only [evIt, Option.bind_eq_some_iff, Option.map_eq_some_iff] at e
  obtain ⟨q, e1, q2, e3, xs, e2, rfl⟩ := e
  have ev : evEs cl gl (.cons ca (.cons cb .nil)) σ h = some ([q.1, q2.1], q2.2) := by simp only [evEs, e1, e3, Option.bind_some, Option.map_some]
  have hs3 : starEach [b] X.env = [(false, eval b X.env)] := star_cons hs2
  refine wi_of (RZ.pi_zipA hg (G.bn _ hm) pa_wa (star_cons hs) (by rw [hs3]; rfl)) (ha _ _ _ _ ev _ _ _ _ RR S fun vs H1 μ1 S1 R1 r1 => ?_)
  unfold zipI at e2
  split at e2
  · rename_i ds es hq hq2
    split at e2
    · rename_i hl
      cases e2
      rw [hq, hq2] at r1
      match vs, r1 with
      | [_, _], .cons r (.cons r' .nil) =>
        cases r with
        | tup t r => cases r' with
          | tup t' r' =>
            refine ⟨_, _, _, _, rfl, .inr ⟨t.sq, t'.sq, A _ _ _ S1 R1 fun μ2 H2 h2 S2 R2 _ i => ?_⟩⟩
            have u := (t.mv S2).sq
            have u' := (t'.mv S2).sq
            have s1 := r.mv S2
            have s2 := r'.mv S2
            refine ⟨fun d hd => ?_, fun hi => ⟨_, _, u, u', .inl (by rw [← s1.length]; simpa [hl] using hi)⟩⟩
            obtain ⟨x, y, hx, hy, rfl⟩ := zip_get hl hd
            obtain ⟨v, hv, rv⟩ := s1.get hx
            obtain ⟨v', hv', rv'⟩ := s2.get hy
            refine ⟨⟨_, _, v, v', u, u', hv, hv'⟩, fun z H' yl => ?_⟩
            obtain ⟨T', x', y', rfl, hT, rfl, k1, k2⟩ := yl
            have g1 := k1 _ u
            have g2 := k2 _ u'
            rw [hv] at g1
            rw [hv'] at g2
            cases g1
            cases g2
            exact new_pair R2 hT rv rv'
    · cases e2
  · rename_i ds es hq hq2
    split at e2
    · rename_i hl
      cases e2
      rw [hq, hq2] at r1
      match vs, r1 with
      | [_, _], .cons r (.cons r' .nil) =>
        cases r with
        | lst o t r => cases r' with
          | lst o' t' r' =>
            refine ⟨_, _, _, _, rfl, .inl ⟨.of t, .of t', A _ _ _ S1 R1 fun μ2 H2 h2 S2 R2 _ i => ?_⟩⟩
            have u : SqL X.K H2 _ _ := .of (S2.keep _ _ o t)
            have u' : SqL X.K H2 _ _ := .of (S2.keep _ _ o' t')
            have s1 := r.mv S2
            have s2 := r'.mv S2
            refine ⟨fun d hd => ?_, fun hi => ⟨_, _, u, u', .inl (by rw [← s1.length]; simpa [hl] using hi)⟩⟩
            obtain ⟨x, y, hx, hy, rfl⟩ := zip_get hl hd
            obtain ⟨v, hv, rv⟩ := s1.get hx
            obtain ⟨v', hv', rv'⟩ := s2.get hy
            refine ⟨⟨_, _, v, v', u, u', hv, hv'⟩, fun z H' yl => ?_⟩
            obtain ⟨T', x', y', rfl, hT, rfl, k1, k2⟩ := yl
            have g1 := k1 _ u
            have g2 := k2 _ u'
            rw [hv] at g1
            rw [hv'] at g2
            cases g1
            cases g2
            exact new_pair R2 hT rv rv'
    · cases e2
  · cases e2
theorem enm_get : ∀ {xs : List D} {k i : Nat} {d : D}, (enmFrom k xs)[i]? = some d → ∃ x, xs[i]? = some x ∧ d = .tup [.int ((k + i : Nat) : Int), x]
  | [], _, _, _, h => by simp [enmFrom] at h
  | x :: xs, k, 0, d, h => by simp [enmFrom] at h; exact ⟨x, by simp, h.symm⟩
  | x :: xs, k, i + 1, d, h => by
    obtain ⟨y, h1, h2⟩ := enm_get (xs := xs) (k := k + 1) (i := i) (by simpa [enmFrom] using h)
    exact ⟨y, by simpa using h1, by rw [h2, show k + 1 + i = k + (i + 1) by omega]⟩
theorem enm_len : ∀ (xs : List D) (k : Nat), (enmFrom k xs).length = xs.length
  | [], _ => rfl
  | x :: xs, k => by simp [enmFrom, enm_len xs]
theorem i_enm {elts : List Expr} {kk : Nat} {tpos : Pos} (G : CG T n N sc fnb X) (hg : Gl X "enumerate") (hm : ("enumerate" : Str) ∈ T.bn) (hs : notStar a = true) (ha : SA cl gl X [a] (.cons ca .nil)) :
    SI cl gl X (.Tuple elts kk tpos) (.Call (.Name "enumerate" p) [a] [] pos) (.enm ca) := fun σ h w e σv H μ R RR S A => by
  simp only [evIt, Option.bind_eq_some_iff] at e
  obtain ⟨q, e1, e2⟩ := e
  split at e2
  · rename_i ds hq
    cases e2
    have ev : evEs cl gl (.cons ca .nil) σ h = some ([q.1], q.2) := by simp only [evEs, e1, Option.bind_some, Option.map_some]
    refine wi_of (pi_enum hg (G.bn _ hm) pa_wa (star_cons hs)) (ha _ _ _ _ ev _ _ _ _ RR S fun vs H1 μ1 S1 R1 r1 => ?_)
    rw [hq] at r1
    match vs, r1 with
    | [_], .cons r .nil =>
      cases r with
      | lst o t r =>
        refine ⟨_, _, rfl, .of t, A _ _ _ S1 R1 fun μ2 H2 h2 S2 R2 _ i => ?_⟩
        have u : SqL X.K H2 _ _ := .of (S2.keep _ _ o t)
        have s1 := r.mv S2
        refine ⟨fun d hd => ?_, fun hi => ⟨_, u, by rw [← s1.length]; simpa [enm_len] using hi⟩⟩
        obtain ⟨x, hx, rfl⟩ := enm_get hd
        obtain ⟨v, hv, rv⟩ := s1.get hx
        refine ⟨⟨_, v, u, hv⟩, fun z H' yl => ?_⟩
        obtain ⟨T', x', rfl, hT, rfl, k1⟩ := yl
        have g1 := k1 _ u
        rw [hv] at g1
        cases g1
        rw [show 0 + i = i by omega]
        exact new_pair R2 hT (.int _) rv
  · cases e2
end
end Py

set_option Elab.async false
set_option linter.all false
set_option maxRecDepth 100000
set_option maxHeartbeats 1000000
/-! Comprehensions. -/
namespace Py
open PySem PySem.Spec PyProof.Rows L2

theorem loopC_nil {σ : Sg} {bind : D → Sg → Hs → Option (Sg × Hs)} {cond : Sg → Hs → Option (Bool × Hs)} {elt : Sg → Hs → Option (D × Hs)} {src : Option Nat} {all : List D} {h : Hs} {p : List D × Hs} (e : loopC σ bind cond elt src all [] h = some p) :
    (∀ c, src = some c → h[c]? = some all) ∧ p = ([], h) := by
  simp only [loopC] at e
  split at e
  · rename_i hs
    cases e
    exact ⟨hs, rfl⟩
  · cases e
theorem loopC_cons {σ : Sg} {bind : D → Sg → Hs → Option (Sg × Hs)} {cond : Sg → Hs → Option (Bool × Hs)} {elt : Sg → Hs → Option (D × Hs)} {src : Option Nat} {all : List D} {x : D} {xs : List D} {h : Hs} {p : List D × Hs} (e : loopC σ bind cond elt src all (x :: xs) h = some p) :
    (∀ c, src = some c → h[c]? = some all) ∧ ∃ σ1 h1 b h2, bind x σ h = some (σ1, h1) ∧ cond σ1 h1 = some (b, h2) ∧
      ((b = false ∧ loopC σ bind cond elt src all xs h2 = some p) ∨ (b = true ∧ ∃ d h3 q, elt σ1 h2 = some (d, h3) ∧ loopC σ bind cond elt src all xs h3 = some q ∧ q.1.length < lim ∧ p = (d :: q.1, q.2))) := by
  simp only [loopC] at e
  split at e
  · rename_i hs
    simp only [Option.bind_eq_some_iff] at e
    obtain ⟨⟨σ1, h1⟩, e1, ⟨b, h2⟩, e2, e3⟩ := e
    refine ⟨hs, σ1, h1, b, h2, e1, e2, ?_⟩
    cases b with
    | false => exact .inl ⟨rfl, by simpa using e3⟩
    | true =>
      simp only [if_true, Option.bind_eq_some_iff] at e3
      obtain ⟨⟨d, h3⟩, e4, q, e5, e6⟩ := e3
      split at e6
      · rename_i hl
        cases e6
        exact .inr ⟨rfl, d, h3, q, e4, e5, hl, rfl⟩
      · cases e6
  · cases e

theorem loopC_len {σ : Sg} {bind : D → Sg → Hs → Option (Sg × Hs)} {cond : Sg → Hs → Option (Bool × Hs)} {elt : Sg → Hs → Option (D × Hs)} {src : Option Nat} {all : List D} : ∀ {xs : List D} {h : Hs} {p : List D × Hs}, loopC σ bind cond elt src all xs h = some p → p.1.length ≤ lim
  | [], h, p, e => by
    rw [(loopC_nil e).2]
    exact Nat.zero_le _
  | x :: xs, h, p, e => by
    obtain ⟨_, σ1, h1, b, h2, _, _, ⟨_, e3⟩ | ⟨_, d, h3, q, _, e5, hl, rfl⟩⟩ := loopC_cons e
    · exact loopC_len e3
    · exact hl
theorem Stp.adv {μ1 μ3 μ6 : Mu} {H1 H3 H6 : Hp} (S : Stp μ1 H1 ⟨μ3.cs, μ1.ms⟩ H3) (S' : Stp μ3 H3 μ6 H6) : Stp μ1 H1 ⟨μ6.cs, μ1.ms⟩ H6 :=
  S.trans ⟨S'.pre, rfl, S'.keep, S'.dom⟩
theorem Stp.advg {μ1 μ3 : Mu} {H1 H3 : Hp} {p : Addr} {o : HO} (S : Stp μ1 H1 ⟨μ3.cs, μ1.ms⟩ H3) (hp : H1 p = none) : Stp μ1 H1 ⟨μ3.cs, μ1.ms⟩ (upd H3 p o) :=
  ⟨S.pre, rfl, fun a u h e => by rw [upd_ne (ne_of_none e hp)]; exact S.keep a u h e, fun a e => S.dom a (upd_none e)⟩

section
variable {T : Tbl} {n : Nat} {N : List Str} {sc : Scope} {fnb : Str → Bool} {X : Cx}
variable {e : Expr} {es : List Expr} {cs : Es} {pos p : Pos} {cl : Nat → List D → Hs → Option (D × Hs)} {gl : Str → Option D}

/-- a comprehension's block, whichever it is -/
def CGB (T : Tbl) (n : Nat) (N : List Str) (sc scope : Scope) (Y : Cx) : Prop := CG T n N (relS scope sc) (fun x => scope.names.lookup x == some .cell) Y

/-- a comprehension's reading -/
theorem cp_core (G : CG T n N sc fnb X) {tg iter elt : Expr} {ifs : List Expr} {scope : Scope} {own : List (Str × Nat)} {t : Tg} {it : It} {ce : E} {ci : Eo} {m : Bool} (ok : blkC N sc scope own = true) (hf : plainFor iter = true) (ht : ∀ i ∈ slT t, i ∈ own.map (·.2))
    (hi : SI cl gl X tg iter it) (hg : ∀ Y, CGB T n N sc scope Y → SG cl gl Y tg t) (he : ∀ Y, CGB T n N sc scope Y → SE cl gl Y elt ce)
    (hc : (ifs = [] ∧ ci = .none) ∨ ∃ c cc, ifs = [c] ∧ ci = .some cc ∧ ∀ Y, CGB T n N sc scope Y → ST cl gl Y c cc) :
    ∃ (g : TG) (tt : TT) (te : TE), (∀ (s : Shared) (H : Hp) (C : Addr) (cs : List (Str × Addr)) (fp : List Addr), PG (X.blk s H scope (compEnvC scope cs C X.env) fp) tg g) ∧
      (∀ (s : Shared) (H : Hp) (C : Addr) (cs : List (Str × Addr)) (fp : List Addr), PTs (X.blk s H scope (compEnvC scope cs C X.env) fp) ifs tt) ∧
      (∀ (s : Shared) (H : Hp) (C : Addr) (cs : List (Str × Addr)) (fp : List Addr), PE (X.blk s H scope (compEnvC scope cs C X.env) fp) elt te) ∧
      ∀ (σ : Sg) (h : Hs) (d : D) (h' : Hs), evE cl gl (.cp m ce t it ci (own.map (·.2))) σ h = some (d, h') → ∀ (σv : L2.St) (H : Hp) (μ : Mu) (Q : VK), HRel X.K μ h H → RelS X.K μ H σ σv → AnsE X.K μ H d h' Q →
        tLc (WI X tg iter) g tt te (own.map (·.2)) σv H Q := by
  have GB : ∀ (s : Shared) (H : Hp) (C : Addr) (cs : List (Str × Addr)) (fp : List Addr), CGB T n N sc scope (X.blk s H scope (compEnvC scope cs C X.env) fp) := fun s H C cs fp => G.blk s H scope C cs fp
  -- the readings that hold of each block
  let gU : TG := fun v σ H Q => ∀ (s : Shared) (H0 : Hp) (C : Addr) (cs : List (Str × Addr)) (fp : List Addr), WG (X.blk s H0 scope (compEnvC scope cs C X.env) fp) tg v σ H Q
  let eU : TE := fun σ H Q => ∀ (s : Shared) (H0 : Hp) (C : Addr) (cs : List (Str × Addr)) (fp : List Addr), WE (X.blk s H0 scope (compEnvC scope cs C X.env) fp) elt σ H Q
  have pg : ∀ (s : Shared) (H : Hp) (C : Addr) (cs : List (Str × Addr)) (fp : List Addr), PG (X.blk s H scope (compEnvC scope cs C X.env) fp) tg gU := fun s H C cs fp => ⟨fun pins s' σ H' v u Q I r q => q s H C cs fp pins s' u I r⟩
  have pe : ∀ (s : Shared) (H : Hp) (C : Addr) (cs : List (Str × Addr)) (fp : List Addr), PE (X.blk s H scope (compEnvC scope cs C X.env) fp) elt eU := fun s H C cs fp => ⟨fun pins s' σ H' Q I q => q s H C cs fp pins s' I⟩
  have ptt : ∃ tt : TT, (∀ (s : Shared) (H : Hp) (C : Addr) (cs : List (Str × Addr)) (fp : List Addr), PTs (X.blk s H scope (compEnvC scope cs C X.env) fp) ifs tt) ∧
      ∀ (σ : Sg) (h : Hs) (b : Bool) (h' : Hs), evC cl gl ci σ h = some (b, h') → ∀ (σv : L2.St) (H : Hp) (μ : Mu) (Q : Bool → Hp → Prop), HRel X.K μ h H → RelS X.K μ H σ σv → AnsT X.K μ H b h' Q → tt σv H Q := by
    rcases hc with ⟨rfl, rfl⟩ | ⟨c, cc, rfl, rfl, hc⟩
    · refine ⟨tYes, fun s H C cs fp => pts_nil, fun σ h b h' e σv H μ Q R S A => ?_⟩
      simp only [evC] at e
      cases e
      exact A _ _ Stp.refl R
    · refine ⟨fun σ H Q => ∀ (s : Shared) (H0 : Hp) (C : Addr) (cs : List (Str × Addr)) (fp : List Addr), WT (X.blk s H0 scope (compEnvC scope cs C X.env) fp) c σ H Q,
        fun s H C cs fp => pts_one ⟨fun pins s' σ H' Q I q => q s H C cs fp pins s' I⟩, fun σ h b h' e σv H μ Q R S A s H0 C cs fp => ?_⟩
      simp only [evC, Option.bind_eq_some_iff] at e
      obtain ⟨q, e1, e2⟩ := e
      split at e2
      · rename_i k hk
        cases e2
        exact hc _ (GB s H0 C cs fp) σ h b q.2 (by rw [e1, ← hk]) σv H μ Q R S A
      · cases e2
  obtain ⟨tt, pt, et⟩ := ptt
  refine ⟨gU, tt, eU, pg, pt, pe, fun σ h d h' ev σv H μ Q R RS A => ?_⟩
  simp only [evE, Option.bind_eq_some_iff] at ev
  obtain ⟨w, ew, pr, el, ef⟩ := ev
  refine hi _ _ _ ew _ _ _ _ R RS fun J H1 μ1 S1 R1 wk Dd hD => ?_
  obtain ⟨Rb, Mb, _⟩ := R1.mask (.lst []) hD
  have RS1 := (RS.stp S1).wipe (own.map (·.2))
  -- what holds between the turns
  let W : Nat → Nat → Hp → Prop := fun i k H => k = w.xs.length - i ∧ i ≤ w.xs.length ∧ ∃ (μ : Mu) (h : Hs) (acc : List D) (accV : List V) (rest : List D × Hs),
    μ.ms = Dd :: μ1.ms ∧ Mv μ1 H1 μ H ∧ Stp μ1 H1 ⟨μ.cs, μ1.ms⟩ H ∧ HRel X.K μ h H ∧ H Dd = some (.lst accV) ∧ Reps X.K μ H acc accV ∧
    loopC (wipeD σ (own.map (·.2))) (fun d σ h => evTg cl gl t d σ h) (fun σ h => evC cl gl ci σ h) (fun σ h => evE cl gl ce σ h) w.src w.xs (w.xs.drop i) h = some rest ∧ acc ++ rest.1 = pr.1 ∧ rest.2 = pr.2
  have hlim : pr.1.length ≤ lim := loopC_len el
  refine ⟨W, ⟨w.xs.length, by simp, Nat.zero_le _, ⟨μ1.cs, Dd :: μ1.ms⟩, w.h, [], [], pr, rfl, Mb, (R1.new (.lst []) hD).2, Rb, upd_same, .nil, by simpa using el, rfl, rfl⟩, ?_⟩
  rintro i k H3 ⟨rfl, hi, μ3, h3, acc, accV, rest, hms, M3, S3, R3, hD3, ra, lc, ea, eh⟩
  have hDm : Dd ∈ μ3.ms := by rw [hms]; exact List.mem_cons_self
  have hDc : Dd ∉ μ3.cs := (R3.ms Dd hDm).2
  by_cases hlt : i < w.xs.length
  · rw [List.drop_eq_getElem_cons hlt] at lc
    obtain ⟨hs, σ1, h4, b, h5, e1, e2, e3⟩ := loopC_cons lc
    obtain ⟨go, yl⟩ := (wk μ3 H3 h3 M3 R3 hs i).1 _ (List.getElem?_eq_getElem hlt)
    refine .inr ⟨go, fun H' => ∃ k', k' < w.xs.length - i ∧ W (i + 1) k' H', fun H' q => q, fun x H' y => ?_⟩
    obtain ⟨S4, R4, r4⟩ := yl x H' y
    show ∀ (s : Shared) (H0 : Hp) (C : Addr) (cs : List (Str × Addr)) (fp : List Addr), WG (X.blk s H0 scope (compEnvC scope cs C X.env) fp) tg x (wipe σv (own.map (·.2))) H' _
    intro s H0 C cs fp
    refine hg _ (GB s H0 C cs fp) _ _ _ _ _ e1 x _ H' μ3 _ R4 (RS1.mv (M3.trans S4.mv)) r4 fun σv2 H5 μ5 S5 R5 rs5 ag => ⟨wipe_agr ag ht, ?_⟩
    refine et _ _ _ _ e2 σv2 H5 μ5 _ R5 rs5 fun H6 μ6 S6 R6 => ?_
    have Sx : Stp μ3 H3 μ6 H6 := S4.trans (S5.trans S6)
    rcases e3 with ⟨rfl, e4⟩ | ⟨rfl, d7, h7, q, e4, e5, hl, ep⟩
    · rw [if_neg (by decide)]
      exact ⟨w.xs.length - (i + 1), by omega, rfl, hlt, μ6, h5, acc, accV, rest, by rw [Sx.ms, hms], M3.trans Sx.mv, S3.adv Sx, R6, Sx.keep _ _ hDc hD3, ra.stp Sx, e4, ea, eh⟩
    · rw [if_pos rfl]
      show ∀ (s : Shared) (H0 : Hp) (C : Addr) (cs : List (Str × Addr)) (fp : List Addr), WE (X.blk s H0 scope (compEnvC scope cs C X.env) fp) elt σv2 H6 _
      intro s' H0' C' cs' fp'
      refine he _ (GB s' H0' C' cs' fp') _ _ _ _ e4 σv2 H6 μ6 _ R6 (rs5.stp S6) fun yv H7 μ7 S7 R7 ry => ?_
      have Sy : Stp μ3 H3 μ7 H7 := Sx.trans S7
      have hD7 : H7 Dd = some (.lst accV) := Sy.keep _ _ hDc hD3
      have hm7 : μ7.ms = Dd :: μ1.ms := by rw [Sy.ms, hms]
      obtain ⟨R8, M8⟩ := R7.grow (p := Dd) (o := .lst (accV ++ [yv])) (by rw [hm7]; exact List.mem_cons_self)
      have hsz : acc.length < lim := by
        have : (acc ++ rest.1).length ≤ lim := by rw [ea]; exact hlim
        rw [ep] at this
        simp at this
        omega
      refine ⟨accV, hD7, by rw [← ra.length]; exact lim_lt hsz, w.xs.length - (i + 1), by omega, rfl, hlt, μ7, h7, acc ++ [d7], accV ++ [yv], q, hm7, (M3.trans Sy.mv).trans M8, (S3.adv Sy).advg hD, R8, upd_same, ((ra.stp Sy).mv M8).append (.cons (ry.mv M8) .nil), e5, ?_, ?_⟩
      · rw [← ea, ep, List.append_assoc]; rfl
      · rw [← eh, ep]
  · have ei : i = w.xs.length := by omega
    subst ei
    rw [List.drop_eq_nil_of_le (Nat.le_refl _)] at lc
    obtain ⟨hs, rfl⟩ := loopC_nil lc
    have ea' : acc = pr.1 := by simpa using ea
    subst ea'
    have eh' : h3 = pr.2 := eh
    subst eh'
    have e1 : μ1.ms = μ.ms := S1.ms
    refine .inl ⟨(wk μ3 H3 _ M3 R3 hs _).2 (Nat.le_refl _), ?_⟩
    split at ef
    · cases ef
      have M9 : Mv μ3 H3 ⟨μ3.cs ++ [Dd], μ1.ms⟩ H3 := by
        refine ⟨fun a hf n => ⟨fun q => ?_, fun q => hf.2 (by rw [hms]; exact List.mem_cons_of_mem _ q)⟩, fun _ _ _ e => e, fun j a e => ?_⟩
        · rcases List.mem_append.mp q with z | z
          · exact hf.1 z
          · rw [List.mem_singleton.mp z] at hf
            exact hf.2 hDm
        · show (μ3.cs ++ [Dd])[j]? = some a
          rw [List.getElem?_append_left (List.getElem?_eq_some_iff.mp e).1]; exact e
      have S9 : Stp μ1 H1 ⟨μ3.cs ++ [Dd], μ1.ms⟩ H3 := by
        obtain ⟨ν, e2, f2⟩ := S3.pre
        have e2 : μ3.cs = μ1.cs ++ ν := e2
        refine ⟨⟨ν ++ [Dd], by show μ3.cs ++ [Dd] = _; rw [e2, List.append_assoc], fun a ha => ?_⟩, rfl, S3.keep, S3.dom⟩
        rcases List.mem_append.mp ha with z | z
        · exact f2 a z
        · rw [List.mem_singleton.mp z]; exact hD
      have hix : (μ3.cs ++ [Dd])[pr.2.length]? = some Dd := by
        rw [← R3.len, List.getElem?_append_right (Nat.le_refl _)]; simp
      refine A _ _ _ (S1.trans S9) ⟨by simp [R3.len], ?_, fun j ds e => ?_, fun a ha => ?_⟩ (.cel hix)
      · show (μ3.cs ++ [Dd]).Nodup
        rw [List.nodup_append]
        refine ⟨R3.nd, by simp, fun a ha b hb => ?_⟩
        rw [List.mem_singleton.mp hb]
        intro z
        rw [z] at ha
        exact hDc ha
      · by_cases hj : j < pr.2.length
        · rw [List.getElem?_append_left hj] at e
          obtain ⟨a, ws, k1, k2, k3⟩ := R3.cel j ds e
          exact ⟨a, ws, M9.ix _ _ k1, k2, k3.mv M9⟩
        · have hj2 : j = pr.2.length := by
            have := (List.getElem?_eq_some_iff.mp e).1
            simp at this
            omega
          subst hj2
          rw [List.getElem?_append_right (Nat.le_refl _)] at e
          simp at e
          subst e
          exact ⟨Dd, accV, hix, hD3, ra.mv M9⟩
      · have ha' : a ∈ μ3.ms := by rw [hms]; exact List.mem_cons_of_mem _ ha
        refine ⟨(R3.ms a ha').1, fun q => ?_⟩
        rcases List.mem_append.mp q with z | z
        · exact (R3.ms a ha').2 z
        · rw [List.mem_singleton.mp z] at ha
          exact (R1.fresh hD).2 ha
    · cases ef
      have M9 : Mv μ3 H3 ⟨μ3.cs, μ1.ms⟩ H3 := ⟨fun a hf n => ⟨hf.1, fun q => hf.2 (by rw [hms]; exact List.mem_cons_of_mem _ q)⟩, fun _ _ _ e => e, fun j a e => e⟩
      refine A _ _ _ (S1.trans S3) (R3.mv M9 rfl (fun _ _ _ e => e) fun a ha => R3.ms a (by rw [hms]; exact List.mem_cons_of_mem _ ha)) (.lst ⟨hDc, (R1.fresh hD).2⟩ hD3 (ra.mv M9))
theorem c_cp (G : CG T n N sc fnb X) {tg iter elt : Expr} {ifs : List Expr} {scope : Scope} {own : List (Str × Nat)} {t : Tg} {it : It} {ce : E} {ci : Eo} {m : Bool} (ok : blkC N sc scope own = true) (hf : plainFor iter = true) (ht : ∀ i ∈ slT t, i ∈ own.map (·.2))
    (hi : SI cl gl X tg iter it) (hg : ∀ Y, CGB T n N sc scope Y → SG cl gl Y tg t) (he : ∀ Y, CGB T n N sc scope Y → SE cl gl Y elt ce)
    (hc : (ifs = [] ∧ ci = .none) ∨ ∃ c cc, ifs = [c] ∧ ci = .some cc ∧ ∀ Y, CGB T n N sc scope Y → ST cl gl Y c cc) :
    SE cl gl X (.ListComp elt [⟨tg, iter, ifs, 0⟩] scope pos) (.cp m ce t it ci (own.map (·.2))) := fun σ h d h' ev σv H μ Q R RS A => by
  obtain ⟨g, tt, te, pg, pt, pe, core⟩ := cp_core (m := m) G ok hf ht hi hg he hc
  exact we_of (pe_lc G.calm (by rw [G.hN]; exact G.nd) pi_wi (by rw [G.hN, G.sc]; exact blkOk_by ok) pg pt pe (plain_for hf)) (core _ _ _ _ ev _ _ _ _ R RS A)
end
end Py

set_option Elab.async false
set_option linter.all false
set_option maxRecDepth 100000
set_option maxHeartbeats 1000000
/-! Statements, blocks, loops. -/
namespace Py
open PySem PySem.Spec PyProof.Rows L2

def Want (K : PySem.W.Frag) (μ : Mu) (H : Hp) (D : Ends) : O → Prop
  | .nx σ' h' => AnsG K μ H σ' h' D.nx
  | .rt d h' => AnsE K μ H d h' D.rt
  | .bk σ' h' => AnsG K μ H σ' h' D.bk
  | .ct σ' h' => AnsG K μ H σ' h' D.ct
theorem Want.step {K : PySem.W.Frag} {μ μ' : Mu} {H H' : Hp} {D : Ends} {o : O} (w : Want K μ H D o) (S : Stp μ H μ' H') : Want K μ' H' D o := by
  cases o with
  | nx σ' h' => exact AnsG.step w S
  | rt d h' => exact AnsE.step w S
  | bk σ' h' => exact AnsG.step w S
  | ct σ' h' => exact AnsG.step w S
section
variable (cl : Nat → List D → Hs → Option (D × Hs)) (gl : Str → Option D)
def SS (X : Cx) (st : Stmt) (c : S) : Prop := ∀ (σ : Sg) (h : Hs) (o : O), evS cl gl c σ h = some o → ∀ (σv : L2.St) (H : Hp) (μ : Mu) (D : Ends), HRel X.K μ h H → RelS X.K μ H σ σv → Want X.K μ H D o → WS X st D σv H
def SSs (X : Cx) (st : List Stmt) (c : Ss) : Prop := ∀ (σ : Sg) (h : Hs) (o : O), evSs cl gl c σ h = some o → ∀ (σv : L2.St) (H : Hp) (μ : Mu) (D : Ends), HRel X.K μ h H → RelS X.K μ H σ σv → Want X.K μ H D o → WSs X st D σv H
end

section
variable {T : Tbl} {n : Nat} {N : List Str} {sc : Scope} {fnb : Str → Bool} {X : Cx}
variable {e : Expr} {ce : E} {st : Stmt} {rest body : List Stmt} {s : S} {ss cb : Ss} {pos p : Pos} {cl : Nat → List D → Hs → Option (D × Hs)} {gl : Str → Option D}

theorem ss_nil : SSs cl gl X [] .nil := fun σ h o e σv H μ D R RS W => by
  simp only [evSs] at e
  cases e
  exact wss_of pss_nil (W _ _ _ Stp.refl R RS)
theorem ss_cons (h1 : SS cl gl X st s) (h2 : SSs cl gl X rest ss) : SSs cl gl X (st :: rest) (.cons s ss) := fun σ h o e σv H μ D R RS W => by
  simp only [evSs, Option.bind_eq_some_iff] at e
  obtain ⟨o1, e1, e2⟩ := e
  refine wss_of (pss_cons ps_ws pss_wss) (h1 _ _ _ e1 _ _ _ _ R RS ?_)
  cases o1 with
  | nx σ' h' => exact fun σv' H' μ' S' R' RS' => h2 _ _ _ e2 _ _ _ _ R' RS' (W.step S')
  | rt d h' => cases e2; exact W
  | bk σ' h' => cases e2; exact W
  | ct σ' h' => cases e2; exact W
theorem s_pass : SS cl gl X (.Pass pos) .pass := fun σ h o e σv H μ D R RS W => by
  simp only [evS] at e
  cases e
  exact ws_of ps_pass (W _ _ _ Stp.refl R RS)
theorem s_brk : SS cl gl X (.Break pos) .brk := fun σ h o e σv H μ D R RS W => by
  simp only [evS] at e
  cases e
  exact ws_of ps_break (W _ _ _ Stp.refl R RS)
theorem s_cnt : SS cl gl X (.Continue pos) .cnt := fun σ h o e σv H μ D R RS W => by
  simp only [evS] at e
  cases e
  exact ws_of ps_continue (W _ _ _ Stp.refl R RS)
theorem s_never : SS cl gl X st .never := fun σ h o e σv H μ D R RS W => by
  simp only [evS] at e
  cases e
theorem s_ret (he : SE cl gl X e ce) : SS cl gl X (.Return (some e) pos) (.ret ce) := fun σ h o ev σv H μ D R RS W => by
  simp only [evS, Option.map_eq_some_iff] at ev
  obtain ⟨p, e1, rfl⟩ := ev
  exact ws_of (ps_ret pe_we) (he _ _ _ _ e1 _ _ _ _ R RS W)
theorem s_retN : SS cl gl X (.Return none pos) .retN := fun σ h o e σv H μ D R RS W => by
  simp only [evS] at e
  cases e
  exact ws_of ps_retN (W _ _ _ Stp.refl R .non)
theorem s_ite {c : Expr} {cc : E} {a b : List Stmt} {ca cb : Ss} (hc : ST cl gl X c cc) (ha : SSs cl gl X a ca) (hb : SSs cl gl X b cb) : SS cl gl X (.If c a b pos) (.ite cc ca cb) := fun σ h o ev σv H μ D R RS W => by
  simp only [evS, Option.bind_eq_some_iff] at ev
  obtain ⟨p, e1, e2⟩ := ev
  split at e2
  · rename_i k hk
    refine ws_of (ps_if pt_wt pss_wss pss_wss) (hc _ _ k p.2 (by rw [e1, ← hk]) _ _ _ _ R RS fun H1 μ1 S1 R1 => ?_)
    cases k with
    | true => exact ha _ _ _ e2 _ _ _ _ R1 (RS.stp S1) (W.step S1)
    | false => exact hb _ _ _ e2 _ _ _ _ R1 (RS.stp S1) (W.step S1)
  · cases e2
/-- no comprehension is swapped with its store -/
def noComp : Expr → Bool
  | .ListComp _ _ _ _ => false
  | .SetComp _ _ _ _ => false
  | .DictComp _ _ _ _ _ => false
  | _ => true
theorem no_swap {tg : Option Expr} {l : Nat} {env : Env} (h : noComp e = true) : swapsWith e tg l env = pure false := by
  cases e <;> first | rfl | (exact absurd h (by simp [noComp]))
theorem s_ex (hs : noComp e = true) (he : SE cl gl X e ce) : SS cl gl X (.Expr e pos) (.ex ce) := fun σ h o ev σv H μ D R RS W => by
  simp only [evS, Option.map_eq_some_iff] at ev
  obtain ⟨p, e1, rfl⟩ := ev
  exact ws_of (ps_expr pe_we (no_swap hs)) (he _ _ _ _ e1 _ _ _ _ R RS fun v H1 μ1 S1 R1 r1 => W _ _ _ S1 R1 (RS.stp S1))
/-- a comprehension that is swapped with the store at its target, or not -/
def swaps (sc : Scope) (e tg : Expr) : Bool := match e, tg with
  | .ListComp _ _ s _, .Name t pos => sc.kind == .function && sc.names.lookup t == some .local && pos.line == e.pos.line && !(s.names.any fun (n, k) => n == t && (k == .local || k == .cell))
  | _, _ => false
def okSwap : Expr → Bool
  | .SetComp _ _ _ _ => false
  | .DictComp _ _ _ _ _ => false
  | _ => true
theorem swap_is {tg : Expr} {l : Nat} (hk : X.env.scope.kind = .function) (hs : X.env.scope = sc) (h : okSwap e = true) : swapsWith e (some tg) l X.env = pure (swaps sc e tg) := by
  cases e with
  | SetComp => exact absurd h (by simp [okSwap])
  | DictComp => exact absurd h (by simp [okSwap])
  | ListComp elt gs s p =>
    cases tg with
    | Name t tp =>
      subst hs
      have hb : X.env.blockKind = .function := by unfold Env.blockKind; rw [hk]; rfl
      unfold swapsWith swaps
      simp only [hb, hk]
      rfl
    | _ => rfl
  | _ => rfl
/-- whether the two sides of a, b = x, y are stored one by one -/
def storesNone (sc : Scope) (tg e : Expr) : Bool := match tg, e with
  | .Tuple ts _ _, .Tuple vs _ _ => (ts.filterMap fun
      | .Name id pos => if sc.names.lookup id == some .local && pos.line == ((ts.head?.map (·.pos.line)).getD 0) then some id else none
      | _ => none).length != ts.length
  | .List _ _, _ => false
  | _, _ => true
theorem stores_is {tg : Expr} (hs : X.env.scope = sc) (h : storesNone sc tg e = true) : swappedStores [tg] e X.env = pure none := by
  subst hs
  unfold storesNone at h
  split at h
  · rename_i ts k1 p1 vs k2 p2
    unfold swappedStores
    simp only [pure_bind]
    split
    · rfl
    · split
      · rfl
      · exact if_pos (by rw [Bool.or_eq_true]; exact Or.inl h)
  · cases h
  · rename_i h1 h2
    unfold swappedStores
    split
    · rename_i hq
      split at hq
      · rename_i hz
        simp only [List.cons.injEq, and_true] at hz
        exact (h2 _ _ _ _ _ _ hz rfl).elim
      · rename_i hz
        simp only [List.cons.injEq, and_true] at hz
        exact (h1 _ _ hz).elim
      · cases hq
    · rfl
theorem s_asg {tg : Expr} {t : Tg} (hk : sc.kind = .function) (hs : X.env.scope = sc) (ho : okSwap e = true) (hsw : swaps sc e tg = false) (hst : storesNone sc tg e = true) (hn : notStar tg = true) (he : SE cl gl X e ce) (hg : SG cl gl X tg t) : SS cl gl X (.Assign [tg] e pos) (.asg t ce) := fun σ h o ev σv H μ D R RS W => by
  simp only [evS, Option.bind_eq_some_iff, Option.map_eq_some_iff] at ev
  obtain ⟨p, e1, q, e2, rfl⟩ := ev
  have h1 : swapsWithSole [tg] e pos.line X.env = pure false := by
    show swapsWith e (some tg) pos.line X.env = _
    rw [swap_is (by rw [hs]; exact hk) hs ho, hsw]
  refine ws_of (ps_asg pe_we pg_wg h1 (stores_is hs hst) (each_cons hn)) (he _ _ _ _ e1 _ _ _ _ R RS fun v1 H1 μ1 S1 R1 r1 => hg _ _ _ _ _ e2 _ _ _ _ _ R1 (RS.stp S1) r1 fun σ2 H2 μ2 S2 R2 rs2 _ => ?_)
  exact W _ _ _ (S1.trans S2) R2 rs2
/-- y = [..] on one line, y a local -/
theorem s_setcp (G : CG T n N sc fnb X) (hk : sc.kind = .function) {i : Nat} {y : Str} {py spos : Pos} {tg iter elt : Expr} {ifs : List Expr} {scope : Scope} {own : List (Str × Nat)} {t : Tg} {it : It} {ce : E} {ci : Eo} {m : Bool}
    (hi' : N[i]? = some y) (hl : sc.names.lookup y = some .local) (hsw : swaps sc (.ListComp elt [⟨tg, iter, ifs, 0⟩] scope pos) (.Name y py) = true) (ok : blkC N sc scope own = true) (hf : plainFor iter = true) (ht : ∀ i ∈ slT t, i ∈ own.map (·.2))
    (hi : SI cl gl X tg iter it) (hg : ∀ Y, CGB T n N sc scope Y → SG cl gl Y tg t) (he : ∀ Y, CGB T n N sc scope Y → SE cl gl Y elt ce)
    (hc : (ifs = [] ∧ ci = .none) ∨ ∃ c cc, ifs = [c] ∧ ci = .some cc ∧ ∀ Y, CGB T n N sc scope Y → ST cl gl Y c cc) :
    SS cl gl X (.Assign [.Name y py] (.ListComp elt [⟨tg, iter, ifs, 0⟩] scope pos) spos) (.asg (.name i) (.cp m ce t it ci (own.map (·.2)))) := fun σ h o ev σv H μ D R RS W => by
  simp only [evS, Option.bind_eq_some_iff, Option.map_eq_some_iff] at ev
  obtain ⟨p, e1, q, e2, rfl⟩ := ev
  simp only [evTg, Option.some.injEq] at e2
  subst e2
  obtain ⟨g, tt, te, pg, pt, pe, core⟩ := cp_core (m := m) G ok hf ht hi hg he hc
  have hsw' : swapsWith (.ListComp elt [⟨tg, iter, ifs, 0⟩] scope pos) (some (.Name y py)) spos.line X.env = pure true := by
    rw [swap_is (by rw [G.sc]; exact hk) G.sc rfl, hsw]
  refine ws_of (ps_setLc G.calm (by rw [G.hN]; exact G.nd) (by rw [G.hN]; exact hi') (by rw [G.sc]; exact hl) hsw' pi_wi (by rw [G.hN, G.sc]; exact blkOk_by ok) pg pt pe (plain_for hf)) ?_
  refine core _ _ _ _ e1 _ _ _ _ R RS fun v1 H1 μ1 S1 R1 r1 => ?_
  exact W _ _ _ S1 R1 ((RS.stp S1).set r1 i)
theorem star_m {a : Expr} (q : (match a with | .Starred .. => true | _ => false) = true) : notStar a = false := by
  cases a <;> first | rfl | (exact absurd q Bool.false_ne_true)
/-- the pair of stores, one by one -/
theorem s_par (G : CG T n N sc fnb X) (hk : sc.kind = .function) {i j : Nat} {x y : Str} {a b : Expr} {ca cb : E} {px py pt pt2 : Pos} {kt k2 : Nat} (hi : N[i]? = some x) (hj : N[j]? = some y) (hij : i ≠ j) (hx : sc.names.lookup x = some .local) (hy : sc.names.lookup y = some .local) (hl : (py.line == px.line) = true) (hxy : (x == y) = false)
    (hsa : notStar a = true) (hsb : notStar b = true) (hff : ([a, b].all (foldedForSure 8)) = false) (hca : ([a, b].all (constantsAlone 8)) = false) (ha : SE cl gl X a ca) (hb : SE cl gl X b cb) :
    SS cl gl X (.Assign [.Tuple [.Name x px, .Name y py] kt pt] (.Tuple [a, b] k2 pt2) pos) (.par i j ca cb) := fun σ h o ev σv H μ D R RS W => by
  simp only [evS, Option.bind_eq_some_iff, Option.map_eq_some_iff] at ev
  obtain ⟨p, e1, q, e2, rfl⟩ := ev
  have hkx : X.env.kindOf x = some .local := by show X.env.scope.names.lookup x = _; rw [G.sc]; exact hx
  have hky : X.env.kindOf y = some .local := by show X.env.scope.names.lookup y = _; rw [G.sc]; exact hy
  have hbk : X.env.blockKind = .function := by
    unfold Env.blockKind
    rw [G.sc, hk]; rfl
  have hw : swappedStores [.Tuple [.Name x px, .Name y py] kt pt] (.Tuple [a, b] k2 pt2) X.env = pure (some [x, y]) := by
    have hxy' : (y == x) = false := by
      cases q : (y == x) with
      | false => rfl
      | true => rw [eq_of_beq q] at hxy; simp at hxy
    unfold swappedStores
    simp only [pure_bind, List.length_cons, List.length_nil, hbk, List.any_cons, List.any_nil, List.filterMap_cons, List.filterMap_nil, hkx, hky, hff, hca, List.head?_cons, Option.map_some, Option.getD_some]
    simp [Expr.pos, hl, List.eraseDups, List.eraseDupsBy, List.eraseDupsBy.loop, hxy, hxy', hff, hca]
    intro hq
    exfalso
    rcases hq with q | q
    · rw [star_m q] at hsa; cases hsa
    · rw [star_m q] at hsb; cases hsb
  refine ws_of (ps_par G.calm (by rw [G.hN]; exact G.nd) (by rw [G.hN]; exact hi) (by rw [G.hN]; exact hj) hij (by rw [G.sc]; exact hx) (by rw [G.sc]; exact hy) (pa_cons pe_we (pa_cons pe_we pa_nil (star_cons hsb)) (star_cons hsa)) hw) ?_
  refine ha _ _ _ _ e1 _ _ _ _ R RS fun v1 H1 μ1 S1 R1 r1 => hb _ _ _ _ e2 _ _ _ _ R1 (RS.stp S1) fun v2 H2 μ2 S2 R2 r2 => ?_
  exact ⟨v1, v2, rfl, W _ _ _ (S1.trans S2) R2 (((RS.stp (S1.trans S2)).set (r1.stp S2) i).set r2 j)⟩
theorem s_aug (G : CG T n N sc fnb X) {i : Nat} {x : Str} {o : Bop} {px : Pos} (ho : o = .add ∨ o = .sub) (hi : N[i]? = some x) (hx : Loc sc x) (hf : fnb x = true ∨ sc.names.lookup x = some .local) (he : SE cl gl X e ce) : SS cl gl X (.AugAssign (.Name x px) (opOf o) e pos) (.aug i o ce) := fun σ h oo ev σv H μ D R RS W => by
  simp only [evS] at ev
  split at ev
  · rename_i d hd
    simp only [Option.bind_eq_some_iff] at ev
    obtain ⟨p, e1, e2⟩ := ev
    obtain ⟨v, hv, rv⟩ := RS.get i d hd
    split at e2
    · rename_i a b hp
      simp only [Option.map_eq_some_iff] at e2
      obtain ⟨z, e3, rfl⟩ := e2
      cases rv
      have hf' : X.fn x = true ∨ X.env.scope.names.lookup x = some .local := by rw [G.fn, G.sc]; exact hf
      rcases ho with rfl | rfl
      · simp only [binop, Option.some.injEq] at e3
        subst e3
        refine ws_of (ps_aug (by rw [G.hN]; exact G.nd) (by rw [G.hN]; exact hi) (G.loc hx) pe_we ip_add hf') ⟨_, hv, he _ _ _ _ e1 _ _ _ _ R RS fun v1 H1 μ1 S1 R1 r1 => ?_⟩
        rw [hp] at r1
        cases r1
        exact ⟨_, _, rfl, rfl, W _ _ _ S1 R1 ((RS.stp S1).set (.int _) i)⟩
      · simp only [binop, Option.some.injEq] at e3
        subst e3
        refine ws_of (ps_aug (by rw [G.hN]; exact G.nd) (by rw [G.hN]; exact hi) (G.loc hx) pe_we ip_sub hf') ⟨_, hv, he _ _ _ _ e1 _ _ _ _ R RS fun v1 H1 μ1 S1 R1 r1 => ?_⟩
        rw [hp] at r1
        cases r1
        exact ⟨_, _, rfl, rfl, W _ _ _ S1 R1 ((RS.stp S1).set (.int _) i)⟩
    · cases e2
  · cases ev
end
end Py

set_option Elab.async false
set_option linter.all false
set_option maxRecDepth 100000
set_option maxHeartbeats 1000000
/-! Loops. -/
namespace Py
open PySem PySem.Spec PyProof.Rows L2

section
variable {bind : D → Sg → Hs → Option (Sg × Hs)} {run : Sg → Hs → Option O} {src : Option Nat} {all : List D}
theorem loopF_nil {σ : Sg} {h : Hs} {o : O} (e : loopF bind run src all [] σ h = some o) : (∀ c, src = some c → h[c]? = some all) ∧ o = .nx σ h := by
  simp only [loopF] at e
  split at e
  · rename_i hs
    cases e
    exact ⟨hs, rfl⟩
  · cases e
theorem loopF_cons {x : D} {xs : List D} {σ : Sg} {h : Hs} {o : O} (e : loopF bind run src all (x :: xs) σ h = some o) : (∀ c, src = some c → h[c]? = some all) ∧ ∃ σ1 h1 o1, bind x σ h = some (σ1, h1) ∧ run σ1 h1 = some o1 ∧
    match o1 with
    | .nx σ' h' => loopF bind run src all xs σ' h' = some o
    | .ct σ' h' => loopF bind run src all xs σ' h' = some o
    | .bk σ' h' => o = .nx σ' h'
    | .rt d h' => o = .rt d h' := by
  simp only [loopF] at e
  split at e
  · rename_i hs
    simp only [Option.bind_eq_some_iff] at e
    obtain ⟨⟨σ1, h1⟩, e1, o1, e2, e3⟩ := e
    refine ⟨hs, σ1, h1, o1, e1, e2, ?_⟩
    cases o1 with
    | nx σ' h' => exact e3
    | ct σ' h' => exact e3
    | bk σ' h' => exact (Option.some.inj e3).symm
    | rt d h' => exact (Option.some.inj e3).symm
  · cases e
end

section
variable {T : Tbl} {n : Nat} {N : List Str} {sc : Scope} {fnb : Str → Bool} {X : Cx}
variable {e : Expr} {ce : E} {body : List Stmt} {cb : Ss} {pos p : Pos} {cl : Nat → List D → Hs → Option (D × Hs)} {gl : Str → Option D}

theorem s_for (G : CG T n N sc fnb X) {tg iter : Expr} {t : Tg} {it : It} (hf : plainFor iter = true) (hi : SI cl gl X tg iter it) (hg : SG cl gl X tg t) (hb : SSs cl gl X body cb) : SS cl gl X (.For tg iter body [] pos) (.for_ t it cb) := fun σ h o ev σv H μ D R RS Wt => by
  simp only [evS, Option.bind_eq_some_iff] at ev
  obtain ⟨w, ew, el⟩ := ev
  refine ws_of (ps_for (by rw [G.xe]; exact PassesOwn.never) G.calm pi_wi pg_wg pss_wss (plain_for hf)) (hi _ _ _ ew _ _ _ _ R RS fun J H1 μ1 S1 R1 wk => ?_)
  have Wt1 := Wt.step S1
  let W : Nat → Nat → L2.St → Hp → Prop := fun i k σv H => k = w.xs.length - i ∧ i ≤ w.xs.length ∧ ∃ (μ : Mu) (h : Hs) (σ : Sg), Stp μ1 H1 μ H ∧ HRel X.K μ h H ∧ RelS X.K μ H σ σv ∧
    loopF (fun d σ h => evTg cl gl t d σ h) (fun σ h => evSs cl gl cb σ h) w.src w.xs (w.xs.drop i) σ h = some o
  refine ⟨W, ⟨w.xs.length, by simp, Nat.zero_le _, μ1, w.h, σ, Stp.refl, R1, RS.stp S1, by simpa using el⟩, ?_⟩
  rintro i k σ3 H3 ⟨rfl, hi, μ3, h3, σd, S3, R3, RS3, lf⟩
  by_cases hlt : i < w.xs.length
  · rw [List.drop_eq_getElem_cons hlt] at lf
    obtain ⟨hs, σ4, h4, o4, e1, e2, e3⟩ := loopF_cons lf
    obtain ⟨go, yl⟩ := (wk μ3 H3 h3 S3.mv R3 hs i).1 _ (List.getElem?_eq_getElem hlt)
    refine .inr ⟨go, fun σ' H' => ∃ k', k' < w.xs.length - i ∧ W (i + 1) k' σ' H', fun σ' H' q => q, fun x H' y => ?_⟩
    obtain ⟨S4, R4, r4⟩ := yl x H' y
    refine hg _ _ _ _ _ e1 x σ3 H' μ3 _ R4 (RS3.stp S4) r4 fun σ5 H5 μ5 S5 R5 RS5 _ => ?_
    have S35 : Stp μ1 H1 μ5 H5 := S3.trans (S4.trans S5)
    refine hb _ _ _ e2 _ _ _ _ R5 RS5 ?_
    cases o4 with
    | nx σ' h' => exact fun σ6 H6 μ6 S6 R6 RS6 => ⟨w.xs.length - (i + 1), by omega, rfl, hlt, μ6, h', σ', S35.trans S6, R6, RS6, e3⟩
    | ct σ' h' => exact fun σ6 H6 μ6 S6 R6 RS6 => ⟨w.xs.length - (i + 1), by omega, rfl, hlt, μ6, h', σ', S35.trans S6, R6, RS6, e3⟩
    | bk σ' h' =>
      have e3 : o = .nx σ' h' := e3
      subst e3
      exact Wt1.step S35
    | rt d h' =>
      have e3 : o = .rt d h' := e3
      subst e3
      exact Wt1.step S35
  · have ei : i = w.xs.length := by omega
    subst ei
    rw [List.drop_eq_nil_of_le (Nat.le_refl _)] at lf
    obtain ⟨hs, rfl⟩ := loopF_nil lf
    exact .inl ⟨(wk μ3 H3 _ S3.mv R3 hs _).2 (Nat.le_refl _), Wt1 _ _ _ S3 R3 RS3⟩
theorem s_whl (G : CG T n N sc fnb X) {c : Expr} {cc : E} (hc : ST cl gl X c cc) (hb : SSs cl gl X body cb) : SS cl gl X (.While c body [] pos) (.whl cc cb) := fun σ h o ev σv H μ D R RS Wt => by
  simp only [evS] at ev
  generalize hn : WF = m0 at ev
  refine ws_of (ps_while (by rw [G.xe]; exact PassesOwn.never) pt_wt pss_wss) ?_
  let W : Nat → L2.St → Hp → Prop := fun k σv H' => ∃ (μ' : Mu) (h : Hs) (σ : Sg), Stp μ H μ' H' ∧ HRel X.K μ' h H' ∧ RelS X.K μ' H' σ σv ∧
    loopW (fun σ h => evC cl gl (.some cc) σ h) (fun σ h => evSs cl gl cb σ h) k σ h = some o
  refine ⟨W, ⟨m0, μ, h, σ, Stp.refl, R, RS, ev⟩, ?_⟩
  rintro k σ3 H3 ⟨μ3, h3, σd, S3, R3, RS3, lw⟩
  cases k with
  | zero => simp only [loopW] at lw; cases lw
  | succ k =>
    simp only [loopW, Option.bind_eq_some_iff] at lw
    obtain ⟨p, e1, e2⟩ := lw
    simp only [evC, Option.bind_eq_some_iff] at e1
    obtain ⟨q, e3, e4⟩ := e1
    split at e4
    · rename_i b hbq
      cases e4
      refine hc _ _ b q.2 (by rw [e3, ← hbq]) _ _ _ _ R3 RS3 fun H4 μ4 S4 R4 => ?_
      have S34 := S3.trans S4
      cases b with
      | true =>
        simp only [if_true, Option.bind_eq_some_iff] at e2 ⊢
        obtain ⟨o4, e5, e6⟩ := e2
        refine ⟨fun σ' H' => ∃ k', k' < k + 1 ∧ W k' σ' H', fun σ' H' q => q, hb _ _ _ e5 _ _ _ _ R4 (RS3.stp S4) ?_⟩
        cases o4 with
        | nx σ' h' => exact fun σ6 H6 μ6 S6 R6 RS6 => ⟨k, Nat.lt_succ_self k, μ6, h', σ', S34.trans S6, R6, RS6, e6⟩
        | ct σ' h' => exact fun σ6 H6 μ6 S6 R6 RS6 => ⟨k, Nat.lt_succ_self k, μ6, h', σ', S34.trans S6, R6, RS6, e6⟩
        | bk σ' h' =>
          have e6 : o = .nx σ' h' := (Option.some.inj e6).symm
          subst e6
          exact Wt.step S34
        | rt d h' =>
          have e6 : o = .rt d h' := (Option.some.inj e6).symm
          subst e6
          exact Wt.step S34
      | false =>
        simp only [Bool.false_eq_true, if_false] at e2 ⊢
        cases e2
        exact Wt _ _ _ S34 R4 (RS3.stp S4)
    · cases e4
end
end Py

set_option Elab.async false
set_option linter.all false
set_option maxRecDepth 100000
set_option maxHeartbeats 4000000
/-! The look: whether a piece of syntax is the piece of the small language; and that then all is as PyCore says. -/
namespace Py
open PySem PySem.Spec PyProof.Rows L2

def visB (sc : Scope) (x : Str) : Bool := match sc.names.lookup x with
  | some .local => true
  | some .cell => true
  | some .free => true
  | _ => false
def locB (sc : Scope) (x : Str) : Bool := match sc.names.lookup x with
  | some .local => true
  | some .cell => true
  | _ => false
def glB (sc : Scope) (x : Str) : Bool := match sc.names.lookup x with
  | some .globalImplicit => true
  | _ => false
def loB (sc : Scope) (x : Str) : Bool := match sc.names.lookup x with
  | some .local => true
  | _ => false
def okN (x : Str) : Bool := !(x == ("__debug__" : Str)) && !(x == ("__classdict__" : Str))
theorem visB_ok {sc : Scope} {x : Str} (h : visB sc x = true) : Vis sc x := by
  unfold visB at h
  split at h
  · exact .inl (by assumption)
  · exact .inr (.inl (by assumption))
  · exact .inr (.inr (by assumption))
  · cases h
theorem locB_ok {sc : Scope} {x : Str} (h : locB sc x = true) : Loc sc x := by
  unfold locB at h
  split at h
  · exact .inl (by assumption)
  · exact .inr (by assumption)
  · cases h
theorem glB_ok {sc : Scope} {x : Str} (h : glB sc x = true) : sc.names.lookup x = some .globalImplicit := by
  unfold glB at h
  split at h
  · assumption
  · cases h
theorem loB_ok {sc : Scope} {x : Str} (h : loB sc x = true) : sc.names.lookup x = some .local := by
  unfold loB at h
  split at h
  · assumption
  · cases h
theorem okN_ok {x : Str} (h : okN x = true) : (x == ("__debug__" : Str)) = false ∧ (x == ("__classdict__" : Str)) = false := by
  unfold okN at h
  rw [Bool.and_eq_true] at h
  exact ⟨by simpa using h.1, by simpa using h.2⟩
def isTy (x : Str) (n : String) : Bool := match bootBuiltins x with
  | some (.type m) => m == n
  | _ => false
theorem isTy_ok {x : Str} {n : String} (h : isTy x n = true) : bootBuiltins x = some (.type n) := by
  unfold isTy at h
  split at h
  · rename_i m hm
    rw [hm, eq_of_beq h]
  · cases h
def ownOf (N : List Str) (own : List Nat) : List (Str × Nat) := own.map fun i => ((N[i]?).getD "", i)
theorem ownOf_snd (N : List Str) (own : List Nat) : (ownOf N own).map (·.2) = own := by
  unfold ownOf
  rw [List.map_map]
  exact List.map_id _
def kwList (kws : List Keyword) : List Str := kws.filterMap fun k => k.arg
def noCall : Expr → Bool
  | .Call _ _ _ _ => false
  | _ => true
theorem base_ok {o : Expr} {nm : Str} {env : Env} (h : noCall o = true) : attributeBase o nm env (eval o env) = eval o env := by
  cases o <;> first | rfl | (exact absurd h (by simp [noCall]))
def isTup : Expr → Bool
  | .Tuple _ _ _ => true
  | _ => false
theorem isTup_ok {e : Expr} (h : isTup e = true) : ∃ es k p, e = .Tuple es k p := by
  cases e <;> first | exact ⟨_, _, _, rfl⟩ | (exact absurd h Bool.false_ne_true)
def fnBlk (scope : Scope) : Str → Bool := fun x => scope.names.lookup x == some .cell

section
variable (T : Tbl) (N : List Str)
mutual
def chE : E → Scope → (Str → Bool) → Expr → Bool
  | .var i, sc, _, e => match e with
    | .Name x _ => decide (N[i]? = some x) && visB sc x && okN x
    | _ => false
  | .non, _, _, e => match e with
    | .Constant .none _ _ => true
    | _ => false
  | .bl b, _, _, e => match e with
    | .Constant (.bool b') _ _ => decide (b = b')
    | _ => false
  | .int i, _, _, e => match e with
    | .Constant (.int j) _ _ => decide (i = j)
    | _ => false
  | .str s, _, _, e => match e with
    | .Constant (.str s') _ _ => decide (s = s')
    | _ => false
  | .ty n, sc, _, e => match e with
    | .Name x _ => glB sc x && okN x && isTy x n && decide (x ∈ T.bn) && !(x == "__name__")
    | _ => false
  | .glob x, sc, _, e => match e with
    | .Name y _ => decide (x = y) && glB sc y && okN y
    | _ => false
  | .op o a b, sc, fnb, e => match e with
    | .BinOp l op r _ => decide (opOf o = op) && chE a sc fnb l && chE b sc fnb r
    | _ => false
  | .neg a, sc, fnb, e => match e with
    | .UnaryOp op x _ => decide (op = .USub) && chE a sc fnb x
    | _ => false
  | .cmp o a b, sc, fnb, e => match e with
    | .Compare l [op] [r] _ => decide (copOf o = op) && !(behindInMarks (copOf o) r) && chE a sc fnb l && chE b sc fnb r
    | _ => false
  | .chn o o' a b c, sc, fnb, e => match e with
    | .Compare l [op, op'] [r, r'] _ => decide (copOf o = op) && decide (copOf o' = op') && !(lastMarks [copOf o, copOf o'] [r, r']) && chE a sc fnb l && chE b sc fnb r && chE c sc fnb r'
    | _ => false
  | .bop k es, sc, fnb, e => match e with
    | .BoolOp op vs _ => decide (op = if k then .And else .Or) && chB es sc fnb vs
    | _ => false
  | .not a, sc, fnb, e => match e with
    | .UnaryOp op x _ => decide (op = .Not) && chE a sc fnb x
    | _ => false
  | .ife c a b, sc, fnb, e => match e with
    | .IfExp t x y _ => chE c sc fnb t && chE a sc fnb x && chE b sc fnb y
    | _ => false
  | .tup es, sc, fnb, e => match e with
    | .Tuple xs _ _ => chEs es sc fnb xs
    | _ => false
  | .lst _ es, sc, fnb, e => match e with
    | .List xs _ => chEs es sc fnb xs
    | _ => false
  | .ix a i, sc, fnb, e => match e with
    | .Subscript x y _ => plainIx y && chE a sc fnb x && chE i sc fnb y
    | _ => false
  | .sl a lo hi, sc, fnb, e => match e with
    | .Subscript x (.Slice l h none _) _ => chE a sc fnb x && chO lo sc fnb l && chO hi sc fnb h
    | _ => false
  | .cl f es, sc, fnb, e => match e with
    | .Call (.Name x _) xs [] _ => decide (T.nm f = x) && (T.FT f).isSome && glB sc x && okN x && chEs es sc fnb xs
    | _ => false
  | .ck f es ks perm, sc, fnb, e => match e with
    | .Call (.Name x _) xs kws _ => decide (T.nm f = x) && (T.FT f).isSome && glB sc x && okN x && decide (kwNames kws = (kwList kws).map some) && decide ((f, xs.length, kwList kws, perm) ∈ T.kw) && chEs es sc fnb xs && chKs ks sc fnb kws
    | _ => false
  | .bt b es, sc, fnb, e => match e with
    | .Call (.Name x _) (y :: ys) [] _ => decide (bltName b = x) && glB sc x && (if b = .gcd then T.gcd else decide (bltName b ∈ T.bn)) && chEs es sc fnb (y :: ys)
    | _ => false
  | .mt m o es, sc, fnb, e => match e with
    | .Call (.Attribute x nm ap) (y :: ys) [] pos => decide (mthName m = nm) && decide (m = .append ∨ m = .popAt) && noCall x && (ap.endLine == pos.line) && decide (ys.length < 20) && chE o sc fnb x && chEs es sc fnb (y :: ys)
    | _ => false
  | .cp _ ce t it ci own, sc, fnb, e => match e with
    | .ListComp elt [⟨tg, iter, ifs, a⟩] scope _ => decide (a = 0) && blkC N sc scope (ownOf N own) && plainFor iter && ((slT t).all fun i => decide (i ∈ own)) && chI it sc fnb tg iter && chT t (relS scope sc) (fnBlk scope) tg && chE ce (relS scope sc) (fnBlk scope) elt && chC ci (relS scope sc) (fnBlk scope) ifs
    | _ => false
def chB : Es → Scope → (Str → Bool) → List Expr → Bool
  | .nil, _, _, _ => false
  | .cons c .nil, sc, fnb, xs => match xs with
    | [x] => chE c sc fnb x
    | _ => false
  | .cons c (.cons c' cs), sc, fnb, xs => match xs with
    | [] => false
    | x :: xs => chE c sc fnb x && chB (.cons c' cs) sc fnb xs
def chEs : Es → Scope → (Str → Bool) → List Expr → Bool
  | .nil, _, _, xs => xs.isEmpty
  | .cons c cs, sc, fnb, xs => match xs with
    | [] => false
    | x :: xs => notStar x && chE c sc fnb x && chEs cs sc fnb xs
def chKs : Es → Scope → (Str → Bool) → List Keyword → Bool
  | .nil, _, _, xs => xs.isEmpty
  | .cons c cs, sc, fnb, xs => match xs with
    | [] => false
    | ⟨_, x, _⟩ :: xs => chE c sc fnb x && chKs cs sc fnb xs
def chO : Eo → Scope → (Str → Bool) → Option Expr → Bool
  | .none, _, _, o => o.isNone
  | .some c, sc, fnb, o => match o with
    | some x => chE c sc fnb x
    | none => false
def chC : Eo → Scope → (Str → Bool) → List Expr → Bool
  | .none, _, _, xs => xs.isEmpty
  | .some c, sc, fnb, xs => match xs with
    | [x] => chE c sc fnb x
    | _ => false
def chT : Tg → Scope → (Str → Bool) → Expr → Bool
  | .name i, sc, fnb, e => match e with
    | .Name x _ => decide (N[i]? = some x) && locB sc x && (fnb x || loB sc x)
    | _ => false
  | .tup ts, sc, fnb, e => match e with
    | .Tuple xs _ _ => decide (tgsLen ts = xs.length) && chTs ts sc fnb xs
    | _ => false
  | .sub o i, sc, fnb, e => match e with
    | .Subscript x y _ => plainIx y && chE o sc fnb x && chE i sc fnb y
    | _ => false
def chTs : Tgs → Scope → (Str → Bool) → List Expr → Bool
  | .nil, _, _, xs => xs.isEmpty
  | .cons t ts, sc, fnb, xs => match xs with
    | [] => false
    | x :: xs => notStar x && chT t sc fnb x && chTs ts sc fnb xs
def chI : It → Scope → (Str → Bool) → Expr → Expr → Bool
  | .seq c, sc, fnb, _, e => chE c sc fnb e
  | .rng1 a, sc, fnb, _, e => match e with
    | .Call (.Name x _) [y] [] _ => decide (x = "range") && glB sc x && decide (x ∈ T.bn) && notStar y && chE a sc fnb y
    | _ => false
  | .rng2 a b, sc, fnb, _, e => match e with
    | .Call (.Name x _) [y, z] [] _ => decide (x = "range") && glB sc x && decide (x ∈ T.bn) && notStar y && notStar z && chE a sc fnb y && chE b sc fnb z
    | _ => false
  | .zip a b, sc, fnb, tg, e => match e with
    | .Call (.Name x _) [y, z] [] _ => isTup tg && decide (x = "zip") && glB sc x && decide (x ∈ T.bn) && notStar y && notStar z && chE a sc fnb y && chE b sc fnb z
    | _ => false
  | .enm a, sc, fnb, tg, e => match e with
    | .Call (.Name x _) [y] [] _ => isTup tg && decide (x = "enumerate") && glB sc x && decide (x ∈ T.bn) && notStar y && chE a sc fnb y
    | _ => false
end
end

section
variable {T : Tbl} {n : Nat} {N : List Str}
theorem chEs_star : ∀ {cs : Es} {sc : Scope} {fnb : Str → Bool} {xs : List Expr}, chEs T N cs sc fnb xs = true → xs.all notStar = true
  | .nil, _, _, xs, h => by
    simp only [chEs] at h
    cases xs with
    | nil => rfl
    | cons x xs => cases h
  | .cons c cs, _, _, xs, h => by
    cases xs with
    | nil => rfl
    | cons x xs =>
      simp only [chEs, Bool.and_eq_true] at h
      rw [List.all_cons, h.1.1, chEs_star h.2]; rfl
theorem chEs_len : ∀ {cs : Es} {sc : Scope} {fnb : Str → Bool} {xs : List Expr}, chEs T N cs sc fnb xs = true → esLen cs = xs.length
  | .nil, _, _, xs, h => by
    simp only [chEs] at h
    cases xs with
    | nil => rfl
    | cons x xs => cases h
  | .cons c cs, _, _, xs, h => by
    cases xs with
    | nil => simp [chEs] at h
    | cons x xs =>
      simp only [chEs, Bool.and_eq_true] at h
      simp only [esLen, List.length_cons, chEs_len h.2]
theorem chKs_len : ∀ {cs : Es} {sc : Scope} {fnb : Str → Bool} {xs : List Keyword}, chKs T N cs sc fnb xs = true → esLen cs = xs.length
  | .nil, _, _, xs, h => by
    simp only [chKs] at h
    cases xs with
    | nil => rfl
    | cons x xs => cases h
  | .cons c cs, _, _, xs, h => by
    cases xs with
    | nil => simp [chKs] at h
    | cons x xs =>
      obtain ⟨nm, x, kp⟩ := x
      simp only [chKs, Bool.and_eq_true] at h
      simp only [esLen, List.length_cons, chKs_len h.2]
theorem chTs_star : ∀ {cs : Tgs} {sc : Scope} {fnb : Str → Bool} {xs : List Expr}, chTs T N cs sc fnb xs = true → xs.all notStar = true
  | .nil, _, _, xs, h => by
    simp only [chTs] at h
    cases xs with
    | nil => rfl
    | cons x xs => cases h
  | .cons c cs, _, _, xs, h => by
    cases xs with
    | nil => rfl
    | cons x xs =>
      simp only [chTs, Bool.and_eq_true] at h
      rw [List.all_cons, h.1.1, chTs_star h.2]; rfl
theorem kwList_len {kws : List Keyword} (h : kwNames kws = (kwList kws).map some) : (kwList kws).length = kws.length := by
  have := congrArg List.length h
  simp [kwNames] at this
  omega

theorem plain_of : ∀ {c : E} {sc : Scope} {fnb : Str → Bool} {e : Expr}, chE T N c sc fnb e = true → (match c with | .cmp _ _ _ => false | .chn _ _ _ _ _ => false | .bop _ _ => false | .not _ => false | .ife _ _ _ => false | _ => true) = true → plainTest e = true := fun {c sc fnb e} h hc => by
  cases c <;> first | (exact absurd hc Bool.false_ne_true) | (simp only [chE] at h; split at h <;> first | rfl | (cases h) | skip)
  all_goals simp only [Bool.and_eq_true, decide_eq_true_eq] at h
  all_goals (obtain ⟨rfl, _⟩ := h; rfl)

mutual
theorem okE : ∀ (c : E) {sc : Scope} {fnb : Str → Bool} {X : Cx} {e : Expr}, CG T n N sc fnb X → chE T N c sc fnb e = true → SE (evF T.FT T.gl n) T.gl X e c
  | .var i, sc, fnb, X, e, G, h => by
    simp only [chE] at h
    split at h
    · simp only [Bool.and_eq_true, decide_eq_true_eq] at h
      obtain ⟨⟨h1, h2⟩, h3⟩ := h
      exact c_var (by rw [G.hN]; exact h1) (G.vis (visB_ok h2)) (okN_ok h3).1 (okN_ok h3).2
    · cases h
  | .non, sc, fnb, X, e, G, h => by
    simp only [chE] at h
    split at h
    · exact c_const pe_non (fun _ _ => by simp only [evE]) fun _ _ => .non
    · cases h
  | .bl b, sc, fnb, X, e, G, h => by
    simp only [chE] at h
    split at h
    · simp only [decide_eq_true_eq] at h
      subst h
      exact c_const pe_bl (fun _ _ => by simp only [evE]) fun _ _ => .bl b
    · cases h
  | .int i, sc, fnb, X, e, G, h => by
    simp only [chE] at h
    split at h
    · simp only [decide_eq_true_eq] at h
      subst h
      exact c_const pe_int (fun _ _ => by simp only [evE]) fun _ _ => .int i
    · cases h
  | .str i, sc, fnb, X, e, G, h => by
    simp only [chE] at h
    split at h
    · simp only [decide_eq_true_eq] at h
      subst h
      exact c_const pe_str (fun _ _ => by simp only [evE]) fun _ _ => .str i
    · cases h
  | .ty m, sc, fnb, X, e, G, h => by
    simp only [chE] at h
    split at h
    · simp only [Bool.and_eq_true, decide_eq_true_eq] at h
      obtain ⟨⟨⟨⟨h1, h2⟩, h3⟩, h4⟩, h5⟩ := h
      exact c_const (pe_bltn (G.gl_ (glB_ok h1)) (G.bn _ h4) (isTy_ok h3) (show RelV (.ty m) (Value.type m) from rfl) (by simpa using h5) (okN_ok h2).1) (fun _ _ => by simp only [evE]) fun _ _ => .ty m
    · cases h
  | .glob x, sc, fnb, X, e, G, h => by
    simp only [chE] at h
    split at h
    · simp only [Bool.and_eq_true, decide_eq_true_eq] at h
      obtain ⟨⟨rfl, h1⟩, h2⟩ := h
      intro σ h d h' ev σv H μ Q R RS A
      simp only [evE, Option.map_eq_some_iff, Prod.mk.injEq] at ev
      obtain ⟨d0, e1, rfl, rfl⟩ := ev
      obtain ⟨u, v, hm, r, rp⟩ := G.gl _ _ e1
      exact we_of (pe_glob (G.gl_ (glB_ok h1)) hm r (okN_ok h2).1) (A.now R (rp μ H))
    · cases h
  | .op o a b, sc, fnb, X, e, G, h => by
    simp only [chE] at h
    split at h
    · simp only [Bool.and_eq_true, decide_eq_true_eq] at h
      obtain ⟨⟨rfl, h1⟩, h2⟩ := h
      exact c_op (okE a G h1) (okE b G h2)
    · cases h
  | .neg a, sc, fnb, X, e, G, h => by
    simp only [chE] at h
    split at h
    · simp only [Bool.and_eq_true, decide_eq_true_eq] at h
      obtain ⟨rfl, h1⟩ := h
      exact c_neg (okE a G h1)
    · cases h
  | .cmp o a b, sc, fnb, X, e, G, h => by
    simp only [chE] at h
    split at h
    · simp only [Bool.and_eq_true, decide_eq_true_eq, Bool.not_eq_true'] at h
      obtain ⟨⟨⟨rfl, h0⟩, h1⟩, h2⟩ := h
      exact c_cmp G.hu h0 (okE a G h1) (okE b G h2)
    · cases h
  | .chn o o' a b c, sc, fnb, X, e, G, h => by
    simp only [chE] at h
    split at h
    · simp only [Bool.and_eq_true, decide_eq_true_eq, Bool.not_eq_true'] at h
      obtain ⟨⟨⟨⟨⟨rfl, rfl⟩, h0⟩, h1⟩, h2⟩, h3⟩ := h
      exact c_chn G.hu h0 (okE a G h1) (okE b G h2) (okE c G h3)
    · cases h
  | .bop k es, sc, fnb, X, e, G, h => by
    simp only [chE] at h
    split at h
    · simp only [Bool.and_eq_true, decide_eq_true_eq] at h
      obtain ⟨rfl, h1⟩ := h
      intro σ h d h' ev
      simp only [evE] at ev
      exact okB es k G h1 _ σ h d h' ev
    · cases h
  | .not a, sc, fnb, X, e, G, h => by
    simp only [chE] at h
    split at h
    · simp only [Bool.and_eq_true, decide_eq_true_eq] at h
      obtain ⟨rfl, h1⟩ := h
      exact c_not (okE a G h1)
    · cases h
  | .ife c a b, sc, fnb, X, e, G, h => by
    simp only [chE] at h
    split at h
    · simp only [Bool.and_eq_true] at h
      obtain ⟨⟨h0, h1⟩, h2⟩ := h
      exact c_ife (okT c G h0) (okE a G h1) (okE b G h2)
    · cases h
  | .tup es, sc, fnb, X, e, G, h => by
    simp only [chE] at h
    split at h
    · exact c_tup (okEs es G h)
    · cases h
  | .lst m es, sc, fnb, X, e, G, h => by
    simp only [chE] at h
    split at h
    · exact c_lst (okEs es G h)
    · cases h
  | .ix a i, sc, fnb, X, e, G, h => by
    simp only [chE] at h
    split at h
    · simp only [Bool.and_eq_true] at h
      obtain ⟨⟨h0, h1⟩, h2⟩ := h
      exact c_ix h0 (okE a G h1) (okE i G h2)
    · cases h
  | .sl a lo hi, sc, fnb, X, e, G, h => by
    simp only [chE] at h
    split at h
    · simp only [Bool.and_eq_true] at h
      obtain ⟨⟨h0, h1⟩, h2⟩ := h
      exact c_sl (okE a G h0) (okO lo G h1) (okO hi G h2)
    · cases h
  | .cl f es, sc, fnb, X, e, G, h => by
    simp only [chE] at h
    split at h
    · rename_i x p xs pos
      simp only [Bool.and_eq_true, decide_eq_true_eq, Option.isSome_iff_exists] at h
      obtain ⟨⟨⟨⟨rfl, F, hF⟩, h1⟩, h2⟩, h3⟩ := h
      have hs := chEs_star h3
      have ha := okEs es G h3
      cases xs with
      | nil =>
        cases es with
        | nil => exact c_cl0 G hF (G.gl_ (glB_ok h1)) (okN_ok h2).1
        | cons c cs => simp [chEs] at h3
      | cons y ys => exact c_cl G hF (G.gl_ (glB_ok h1)) (okN_ok h2).1 hs ha
    · cases h
  | .ck f es ks perm, sc, fnb, X, e, G, h => by
    simp only [chE] at h
    split at h
    · simp only [Bool.and_eq_true, decide_eq_true_eq, Option.isSome_iff_exists] at h
      obtain ⟨⟨⟨⟨⟨⟨⟨rfl, F, hF⟩, h1⟩, h2⟩, h3⟩, h4⟩, h5⟩, h6⟩ := h
      exact c_ck G hF (G.gl_ (glB_ok h1)) (okN_ok h2).1 (chEs_star h5) h4 h3 (chEs_len h5) (by rw [chKs_len h6, kwList_len h3]) (okEs es G h5) (okKs ks G h6)
    · cases h
  | .bt b es, sc, fnb, X, e, G, h => by
    simp only [chE] at h
    split at h
    · simp only [Bool.and_eq_true, decide_eq_true_eq] at h
      obtain ⟨⟨⟨rfl, h1⟩, h2⟩, h3⟩ := h
      refine c_bt G (G.gl_ (glB_ok h1)) ?_ (chEs_star h3) (okEs es G h3)
      by_cases hb : b = .gcd
      · rw [if_pos hb] at h2 ⊢; exact h2
      · rw [if_neg hb] at h2 ⊢; exact of_decide_eq_true h2
    · cases h
  | .mt m o es, sc, fnb, X, e, G, h => by
    simp only [chE] at h
    split at h
    · simp only [Bool.and_eq_true, decide_eq_true_eq] at h
      obtain ⟨⟨⟨⟨⟨⟨rfl, h1⟩, h2⟩, h3⟩, h4⟩, h5⟩, h6⟩ := h
      exact c_mt h1 (base_ok h2) h3 (chEs_star h6) h4 (okE o G h5) (okEs es G h6)
    · cases h
  | .cp m ce t it ci own, sc, fnb, X, e, G, h => by
    simp only [chE] at h
    split at h
    · rename_i elt tg iter ifs a scope pos
      simp only [Bool.and_eq_true, decide_eq_true_eq, List.all_eq_true] at h
      obtain ⟨⟨⟨⟨⟨⟨⟨rfl, h1⟩, h2⟩, h3⟩, h4⟩, h5⟩, h6⟩, h7⟩ := h
      have q := c_cp (m := m) (pos := pos) G h1 h2 (by rw [ownOf_snd]; exact h3) (okI it G h4) (fun Y GY => okTg t GY h5) (fun Y GY => okE ce GY h6) (okC ci h7)
      rw [ownOf_snd] at q
      exact q
    · cases h
theorem okT : ∀ (c : E) {sc : Scope} {fnb : Str → Bool} {X : Cx} {e : Expr}, CG T n N sc fnb X → chE T N c sc fnb e = true → ST (evF T.FT T.gl n) T.gl X e c
  | .var i, sc, fnb, X, e, G, h => t_val (plain_of h rfl) (okE (.var i) G h)
  | .non, sc, fnb, X, e, G, h => t_val (plain_of h rfl) (okE .non G h)
  | .bl b, sc, fnb, X, e, G, h => t_val (plain_of h rfl) (okE (.bl b) G h)
  | .int b, sc, fnb, X, e, G, h => t_val (plain_of h rfl) (okE (.int b) G h)
  | .str b, sc, fnb, X, e, G, h => t_val (plain_of h rfl) (okE (.str b) G h)
  | .ty b, sc, fnb, X, e, G, h => t_val (plain_of h rfl) (okE (.ty b) G h)
  | .glob b, sc, fnb, X, e, G, h => t_val (plain_of h rfl) (okE (.glob b) G h)
  | .op o a b, sc, fnb, X, e, G, h => t_val (plain_of h rfl) (okE (.op o a b) G h)
  | .neg a, sc, fnb, X, e, G, h => t_val (plain_of h rfl) (okE (.neg a) G h)
  | .tup a, sc, fnb, X, e, G, h => t_val (plain_of h rfl) (okE (.tup a) G h)
  | .lst m a, sc, fnb, X, e, G, h => t_val (plain_of h rfl) (okE (.lst m a) G h)
  | .ix m a, sc, fnb, X, e, G, h => t_val (plain_of h rfl) (okE (.ix m a) G h)
  | .sl m a b, sc, fnb, X, e, G, h => t_val (plain_of h rfl) (okE (.sl m a b) G h)
  | .cl m a, sc, fnb, X, e, G, h => t_val (plain_of h rfl) (okE (.cl m a) G h)
  | .ck m a b c, sc, fnb, X, e, G, h => t_val (plain_of h rfl) (okE (.ck m a b c) G h)
  | .bt m a, sc, fnb, X, e, G, h => t_val (plain_of h rfl) (okE (.bt m a) G h)
  | .mt m a b, sc, fnb, X, e, G, h => t_val (plain_of h rfl) (okE (.mt m a b) G h)
  | .cp m a b c d f, sc, fnb, X, e, G, h => t_val (plain_of h rfl) (okE (.cp m a b c d f) G h)
  | .cmp o a b, sc, fnb, X, e, G, h => by
    simp only [chE] at h
    split at h
    · simp only [Bool.and_eq_true, decide_eq_true_eq, Bool.not_eq_true'] at h
      obtain ⟨⟨⟨rfl, h0⟩, h1⟩, h2⟩ := h
      exact t_cmp G.hu h0 (okE a G h1) (okE b G h2)
    · cases h
  | .chn o o' a b c, sc, fnb, X, e, G, h => by
    simp only [chE] at h
    split at h
    · simp only [Bool.and_eq_true, decide_eq_true_eq, Bool.not_eq_true'] at h
      obtain ⟨⟨⟨⟨⟨rfl, rfl⟩, h0⟩, h1⟩, h2⟩, h3⟩ := h
      exact t_chn G.hu h0 (okE a G h1) (okE b G h2) (okE c G h3)
    · cases h
  | .bop k es, sc, fnb, X, e, G, h => by
    simp only [chE] at h
    split at h
    · simp only [Bool.and_eq_true, decide_eq_true_eq] at h
      obtain ⟨rfl, h1⟩ := h
      intro σ h d h' ev σv H μ Q R RS A
      simp only [evE] at ev
      exact okBT es k G h1 _ σ h d h' ev σv H μ Q R RS A _
    · cases h
  | .not a, sc, fnb, X, e, G, h => by
    simp only [chE] at h
    split at h
    · simp only [Bool.and_eq_true, decide_eq_true_eq] at h
      obtain ⟨rfl, h1⟩ := h
      exact t_not (okT a G h1)
    · cases h
  | .ife c a b, sc, fnb, X, e, G, h => by
    simp only [chE] at h
    split at h
    · simp only [Bool.and_eq_true] at h
      obtain ⟨⟨h0, h1⟩, h2⟩ := h
      exact t_ife (okT c G h0) (okT a G h1) (okT b G h2)
    · cases h
theorem okB : ∀ (cs : Es) (k : Bool) {sc : Scope} {fnb : Str → Bool} {X : Cx} {xs : List Expr}, CG T n N sc fnb X → chB T N cs sc fnb xs = true → SB (evF T.FT T.gl n) T.gl X k xs cs
  | .nil, k, sc, fnb, X, xs, G, h => by simp [chB] at h
  | .cons c .nil, k, sc, fnb, X, xs, G, h => by
    simp only [chB] at h
    split at h
    · exact b_one (okE c G h)
    · cases h
  | .cons c (.cons c' cs), k, sc, fnb, X, xs, G, h => by
    simp only [chB] at h
    split at h
    · cases h
    · rename_i x xs
      rw [Bool.and_eq_true] at h
      have h2 : chB T N (.cons c' cs) sc fnb xs = true := h.2
      cases xs with
      | nil => cases cs <;> simp [chB] at h2
      | cons y ys => exact b_cons (okE c G h.1) (okB (.cons c' cs) k G h2)
theorem okBT : ∀ (cs : Es) (k : Bool) {sc : Scope} {fnb : Str → Bool} {X : Cx} {xs : List Expr}, CG T n N sc fnb X → chB T N cs sc fnb xs = true → SBT (evF T.FT T.gl n) T.gl X k xs cs
  | .nil, k, sc, fnb, X, xs, G, h => by simp [chB] at h
  | .cons c .nil, k, sc, fnb, X, xs, G, h => by
    simp only [chB] at h
    split at h
    · exact bt_one (okT c G h)
    · cases h
  | .cons c (.cons c' cs), k, sc, fnb, X, xs, G, h => by
    simp only [chB] at h
    split at h
    · cases h
    · rename_i x xs
      rw [Bool.and_eq_true] at h
      have h2 : chB T N (.cons c' cs) sc fnb xs = true := h.2
      cases xs with
      | nil => cases cs <;> simp [chB] at h2
      | cons y ys => exact bt_cons (okT c G h.1) (okBT (.cons c' cs) k G h2)
theorem okEs : ∀ (cs : Es) {sc : Scope} {fnb : Str → Bool} {X : Cx} {xs : List Expr}, CG T n N sc fnb X → chEs T N cs sc fnb xs = true → SA (evF T.FT T.gl n) T.gl X xs cs
  | .nil, sc, fnb, X, xs, G, h => by
    simp only [chEs] at h
    cases xs with
    | nil => exact a_nil
    | cons x xs => cases h
  | .cons c cs, sc, fnb, X, xs, G, h => by
    cases xs with
    | nil => simp [chEs] at h
    | cons x xs =>
      simp only [chEs, Bool.and_eq_true] at h
      exact a_cons h.1.1 (okE c G h.1.2) (okEs cs G h.2)
theorem okKs : ∀ (cs : Es) {sc : Scope} {fnb : Str → Bool} {X : Cx} {xs : List Keyword}, CG T n N sc fnb X → chKs T N cs sc fnb xs = true → SKw (evF T.FT T.gl n) T.gl X xs cs
  | .nil, sc, fnb, X, xs, G, h => by
    simp only [chKs] at h
    cases xs with
    | nil => exact k_nil
    | cons x xs => cases h
  | .cons c cs, sc, fnb, X, xs, G, h => by
    cases xs with
    | nil => simp [chKs] at h
    | cons x xs =>
      obtain ⟨nm, x, kp⟩ := x
      simp only [chKs, Bool.and_eq_true] at h
      exact k_cons (okE c G h.1) (okKs cs G h.2)
theorem okO : ∀ (c : Eo) {sc : Scope} {fnb : Str → Bool} {X : Cx} {o : Option Expr}, CG T n N sc fnb X → chO T N c sc fnb o = true → SOp (evF T.FT T.gl n) T.gl X o c
  | .none, sc, fnb, X, o, G, h => by
    simp only [chO] at h
    cases o with
    | none => exact o_none
    | some x => cases h
  | .some c, sc, fnb, X, o, G, h => by
    cases o with
    | none => simp [chO] at h
    | some x =>
      simp only [chO] at h
      exact o_some (okE c G h)
theorem okC : ∀ (c : Eo) {sc scope : Scope} {ifs : List Expr}, chC T N c (relS scope sc) (fnBlk scope) ifs = true → (ifs = [] ∧ c = .none) ∨ ∃ x cc, ifs = [x] ∧ c = .some cc ∧ ∀ Y, CGB T n N sc scope Y → ST (evF T.FT T.gl n) T.gl Y x cc
  | .none, sc, scope, ifs, h => by
    simp only [chC] at h
    exact .inl ⟨by simpa using h, rfl⟩
  | .some c, sc, scope, ifs, h => by
    simp only [chC] at h
    split at h
    · exact .inr ⟨_, c, rfl, rfl, fun Y GY => okT c GY h⟩
    · cases h
theorem okTg : ∀ (t : Tg) {sc : Scope} {fnb : Str → Bool} {X : Cx} {e : Expr}, CG T n N sc fnb X → chT T N t sc fnb e = true → SG (evF T.FT T.gl n) T.gl X e t
  | .name i, sc, fnb, X, e, G, h => by
    simp only [chT] at h
    split at h
    · simp only [Bool.and_eq_true, decide_eq_true_eq, Bool.or_eq_true] at h
      obtain ⟨⟨h1, h2⟩, h3⟩ := h
      refine g_name (by rw [G.hN]; exact G.nd) (by rw [G.hN]; exact h1) (G.loc (locB_ok h2)) ?_
      rw [G.fn, G.sc]
      rcases h3 with h3 | h3
      · exact .inl h3
      · exact .inr (loB_ok h3)
    · cases h
  | .tup ts, sc, fnb, X, e, G, h => by
    simp only [chT] at h
    split at h
    · simp only [Bool.and_eq_true, decide_eq_true_eq] at h
      exact g_tup G.calm (chTs_star h.2) h.1 (okTgs ts G h.2)
    · cases h
  | .sub o i, sc, fnb, X, e, G, h => by
    simp only [chT] at h
    split at h
    · simp only [Bool.and_eq_true] at h
      exact g_sub h.1.1 (okE o G h.1.2) (okE i G h.2)
    · cases h
theorem okTgs : ∀ (t : Tgs) {sc : Scope} {fnb : Str → Bool} {X : Cx} {xs : List Expr}, CG T n N sc fnb X → chTs T N t sc fnb xs = true → SGs (evF T.FT T.gl n) T.gl X xs t
  | .nil, sc, fnb, X, xs, G, h => by
    simp only [chTs] at h
    cases xs with
    | nil => exact gs_nil
    | cons x xs => cases h
  | .cons c cs, sc, fnb, X, xs, G, h => by
    cases xs with
    | nil => simp [chTs] at h
    | cons x xs =>
      simp only [chTs, Bool.and_eq_true] at h
      exact gs_cons h.1.1 (okTg c G h.1.2) (okTgs cs G h.2)
theorem okI : ∀ (c : It) {sc : Scope} {fnb : Str → Bool} {X : Cx} {tg e : Expr}, CG T n N sc fnb X → chI T N c sc fnb tg e = true → SI (evF T.FT T.gl n) T.gl X tg e c
  | .seq c, sc, fnb, X, tg, e, G, h => by
    simp only [chI] at h
    exact i_seq (okE c G h)
  | .rng1 a, sc, fnb, X, tg, e, G, h => by
    simp only [chI] at h
    split at h
    · simp only [Bool.and_eq_true, decide_eq_true_eq] at h
      obtain ⟨⟨⟨⟨rfl, h1⟩, h2⟩, h3⟩, h4⟩ := h
      exact i_rng1 G (G.gl_ (glB_ok h1)) h2 h3 (a_cons h3 (okE a G h4) a_nil)
    · cases h
  | .rng2 a b, sc, fnb, X, tg, e, G, h => by
    simp only [chI] at h
    split at h
    · simp only [Bool.and_eq_true, decide_eq_true_eq] at h
      obtain ⟨⟨⟨⟨⟨⟨rfl, h1⟩, h2⟩, h3⟩, h4⟩, h5⟩, h6⟩ := h
      exact i_rng2 G (G.gl_ (glB_ok h1)) h2 h3 h4 (a_cons h3 (okE a G h5) (a_cons h4 (okE b G h6) a_nil))
    · cases h
  | .zip a b, sc, fnb, X, tg, e, G, h => by
    simp only [chI] at h
    split at h
    · simp only [Bool.and_eq_true, decide_eq_true_eq] at h
      obtain ⟨⟨⟨⟨⟨⟨⟨h0, rfl⟩, h1⟩, h2⟩, h3⟩, h4⟩, h5⟩, h6⟩ := h
      obtain ⟨es, kk, tp, rfl⟩ := isTup_ok h0
      exact i_zip G (G.gl_ (glB_ok h1)) h2 h3 h4 (a_cons h3 (okE a G h5) (a_cons h4 (okE b G h6) a_nil))
    · cases h
  | .enm a, sc, fnb, X, tg, e, G, h => by
    simp only [chI] at h
    split at h
    · simp only [Bool.and_eq_true, decide_eq_true_eq] at h
      obtain ⟨⟨⟨⟨⟨h0, rfl⟩, h1⟩, h2⟩, h3⟩, h4⟩ := h
      obtain ⟨es, kk, tp, rfl⟩ := isTup_ok h0
      exact i_enm G (G.gl_ (glB_ok h1)) h2 h3 (a_cons h3 (okE a G h4) a_nil)
    · cases h
end
end
end Py

set_option Elab.async false
set_option linter.all false
set_option maxRecDepth 100000
set_option maxHeartbeats 4000000
/-! Statements looked at; defs; the program. -/
namespace Py
open PySem PySem.Spec PyProof.Rows L2

section
variable (T : Tbl) (N : List Str)
/-- y = [..] on one line -/
def chSet (i : Nat) (e : E) (sc : Scope) (fnb : Str → Bool) (tg x : Expr) : Bool := match tg, e with
  | .Name y _, .cp _ _ _ _ _ _ => decide (N[i]? = some y) && loB sc y && chE T N e sc fnb x
  | _, _ => false
mutual
def chS : S → Scope → (Str → Bool) → Stmt → Bool
  | .asg t e, sc, fnb, st => match st with
    | .Assign [tg] x _ => decide (sc.kind = .function) && (if swaps sc x tg then (match t with
        | .name i => chSet T N i e sc fnb tg x
        | _ => false) else okSwap x && storesNone sc tg x && notStar tg && chE T N e sc fnb x && chT T N t sc fnb tg)
    | _ => false
  | .par i j a b, sc, fnb, st => match st with
    | .Assign [.Tuple [.Name x px, .Name y py] _ _] (.Tuple [u, v] _ _) _ => decide (sc.kind = .function) && decide (N[i]? = some x) && decide (N[j]? = some y) && decide (i ≠ j) && loB sc x && loB sc y && (py.line == px.line) && !(x == y) && notStar u && notStar v && !([u, v].all (foldedForSure 8)) && !([u, v].all (constantsAlone 8)) && chE T N a sc fnb u && chE T N b sc fnb v
    | _ => false
  | .aug i o e, sc, fnb, st => match st with
    | .AugAssign (.Name x _) op y _ => decide (o = .add ∨ o = .sub) && decide (opOf o = op) && decide (N[i]? = some x) && locB sc x && (fnb x || loB sc x) && chE T N e sc fnb y
    | _ => false
  | .augS _ _ _ _, _, _, _ => false
  | .ex e, sc, fnb, st => match st with
    | .Expr x _ => noComp x && chE T N e sc fnb x
    | _ => false
  | .ret e, sc, fnb, st => match st with
    | .Return (some x) _ => chE T N e sc fnb x
    | _ => false
  | .retN, _, _, st => match st with
    | .Return none _ => true
    | _ => false
  | .ite c a b, sc, fnb, st => match st with
    | .If x u v _ => chE T N c sc fnb x && chSs a sc fnb u && chSs b sc fnb v
    | _ => false
  | .for_ t it b, sc, fnb, st => match st with
    | .For tg x u [] _ => plainFor x && chI T N it sc fnb tg x && chT T N t sc fnb tg && chSs b sc fnb u
    | _ => false
  | .whl c b, sc, fnb, st => match st with
    | .While x u [] _ => chE T N c sc fnb x && chSs b sc fnb u
    | _ => false
  | .never, _, _, _ => true
  | .pass, _, _, st => match st with
    | .Pass _ => true
    | _ => false
  | .brk, _, _, st => match st with
    | .Break _ => true
    | _ => false
  | .cnt, _, _, st => match st with
    | .Continue _ => true
    | _ => false
def chSs : Ss → Scope → (Str → Bool) → List Stmt → Bool
  | .nil, _, _, xs => xs.isEmpty
  | .cons c cs, sc, fnb, xs => match xs with
    | [] => false
    | x :: xs => chS c sc fnb x && chSs cs sc fnb xs
end
end

section
variable {T : Tbl} {n : Nat} {N : List Str}
mutual
theorem okS : ∀ (c : S) {sc : Scope} {fnb : Str → Bool} {X : Cx} {st : Stmt}, CG T n N sc fnb X → chS T N c sc fnb st = true → SS (evF T.FT T.gl n) T.gl X st c
  | .asg t e, sc, fnb, X, st, G, h => by
    simp only [chS] at h
    split at h
    · rename_i tg x pos'
      simp only [Bool.and_eq_true, decide_eq_true_eq] at h
      obtain ⟨hk, h⟩ := h
      split at h
      · rename_i hsw
        split at h
        · rename_i i
          unfold chSet at h
          split at h
          · rename_i y py m ce t it ci own
            simp only [Bool.and_eq_true, decide_eq_true_eq] at h
            obtain ⟨⟨h1, h2⟩, h⟩ := h
            simp only [chE] at h
            split at h
            · rename_i elt tg iter ifs a scope pos
              simp only [Bool.and_eq_true, decide_eq_true_eq, List.all_eq_true] at h
              obtain ⟨⟨⟨⟨⟨⟨⟨rfl, k1⟩, k2⟩, k3⟩, k4⟩, k5⟩, k6⟩, k7⟩ := h
              have q := s_setcp (m := m) (spos := pos') G hk h1 (loB_ok h2) hsw k1 k2 (by rw [ownOf_snd]; exact k3) (okI it G k4) (fun Y GY => okTg t GY k5) (fun Y GY => okE ce GY k6) (okC ci k7)
              rw [ownOf_snd] at q
              exact q
            · cases h
          · cases h
        · cases h
      · rename_i hsw
        simp only [Bool.and_eq_true] at h
        obtain ⟨⟨⟨⟨h1, h2⟩, h3⟩, h4⟩, h5⟩ := h
        exact s_asg hk G.sc h1 (by simpa using hsw) h2 h3 (okE e G h4) (okTg t G h5)
    · cases h
  | .par i j a b, sc, fnb, X, st, G, h => by
    simp only [chS] at h
    split at h
    · simp only [Bool.and_eq_true, decide_eq_true_eq, Bool.not_eq_true'] at h
      obtain ⟨⟨⟨⟨⟨⟨⟨⟨⟨⟨⟨⟨⟨h0, h1⟩, h2⟩, h3⟩, h4⟩, h5⟩, h6⟩, h7⟩, h8⟩, h9⟩, h10⟩, h11⟩, h12⟩, h13⟩ := h
      exact s_par G h0 h1 h2 h3 (loB_ok h4) (loB_ok h5) h6 h7 h8 h9 h10 h11 (okE a G h12) (okE b G h13)
    · cases h
  | .aug i o e, sc, fnb, X, st, G, h => by
    simp only [chS] at h
    split at h
    · simp only [Bool.and_eq_true, decide_eq_true_eq, Bool.or_eq_true] at h
      obtain ⟨⟨⟨⟨⟨h0, rfl⟩, h1⟩, h2⟩, h3⟩, h4⟩ := h
      refine s_aug G h0 h1 (locB_ok h2) ?_ (okE e G h4)
      rcases h3 with h3 | h3
      · exact .inl h3
      · exact .inr (loB_ok h3)
    · cases h
  | .augS _ _ _ _, sc, fnb, X, st, G, h => by simp [chS] at h
  | .ex e, sc, fnb, X, st, G, h => by
    simp only [chS] at h
    split at h
    · simp only [Bool.and_eq_true] at h
      exact s_ex h.1 (okE e G h.2)
    · cases h
  | .ret e, sc, fnb, X, st, G, h => by
    simp only [chS] at h
    split at h
    · exact s_ret (okE e G h)
    · cases h
  | .retN, sc, fnb, X, st, G, h => by
    simp only [chS] at h
    split at h
    · exact s_retN
    · cases h
  | .ite c a b, sc, fnb, X, st, G, h => by
    simp only [chS] at h
    split at h
    · simp only [Bool.and_eq_true] at h
      exact s_ite (okT c G h.1.1) (okSs a G h.1.2) (okSs b G h.2)
    · cases h
  | .for_ t it b, sc, fnb, X, st, G, h => by
    simp only [chS] at h
    split at h
    · simp only [Bool.and_eq_true] at h
      obtain ⟨⟨⟨h0, h1⟩, h2⟩, h3⟩ := h
      exact s_for G h0 (okI it G h1) (okTg t G h2) (okSs b G h3)
    · cases h
  | .whl c b, sc, fnb, X, st, G, h => by
    simp only [chS] at h
    split at h
    · simp only [Bool.and_eq_true] at h
      exact s_whl G (okT c G h.1) (okSs b G h.2)
    · cases h
  | .never, sc, fnb, X, st, G, h => s_never
  | .pass, sc, fnb, X, st, G, h => by
    simp only [chS] at h
    split at h
    · exact s_pass
    · cases h
  | .brk, sc, fnb, X, st, G, h => by
    simp only [chS] at h
    split at h
    · exact s_brk
    · cases h
  | .cnt, sc, fnb, X, st, G, h => by
    simp only [chS] at h
    split at h
    · exact s_cnt
    · cases h
theorem okSs : ∀ (cs : Ss) {sc : Scope} {fnb : Str → Bool} {X : Cx} {xs : List Stmt}, CG T n N sc fnb X → chSs T N cs sc fnb xs = true → SSs (evF T.FT T.gl n) T.gl X xs cs
  | .nil, sc, fnb, X, xs, G, h => by
    simp only [chSs] at h
    cases xs with
    | nil => exact ss_nil
    | cons x xs => cases h
  | .cons c cs, sc, fnb, X, xs, G, h => by
    cases xs with
    | nil => simp [chSs] at h
    | cons x xs =>
      simp only [chSs, Bool.and_eq_true] at h
      exact ss_cons (okS c G h.1) (okSs cs G h.2)
end

/-! ### defs -/
mutual
theorem clean_rep {K : PySem.W.Frag} {μ μ' : Mu} {H' : Hp} {m : Nat} (hmem : ∀ a, Off μ' a → H' a ≠ none → Off μ a) (hix : ∀ (i : Nat) (a : Addr), i < m → μ'.cs[i]? = some a → μ.cs[i]? = some a) : ∀ {d : D} {v : V}, clean m d = true → Rep K μ' H' d v → Rep K μ H' d v
  | .non, _, _, .non => .non
  | .bl b, _, _, .bl _ => .bl b
  | .int i, _, _, .int _ => .int i
  | .str x, _, _, .str _ => .str x
  | .ty n, _, _, .ty _ => .ty n
  | .tup ds, _, c, .tup t r => by
    simp only [clean] at c
    refine .tup ?_ (cleans_rep hmem hix c r)
    rcases t with ⟨h1, h2⟩ | h
    · exact .inl ⟨hmem _ h1 (by rw [h2]; simp), h2⟩
    · exact .inr h
  | .lst ds, _, c, .lst h1 h2 r => by
    simp only [clean] at c
    exact .lst (hmem _ h1 (by rw [h2]; simp)) h2 (cleans_rep hmem hix c r)
  | .frz ds, _, c, .frz t r => by
    simp only [clean] at c
    refine .frz ?_ (cleans_rep hmem hix c r)
    rcases t with ⟨h1, o, h2⟩ | h
    · exact .inl ⟨hmem _ h1 (by rw [h2]; simp), o, h2⟩
    · exact .inr h
  | .cel i, _, c, .cel e => by
    simp only [clean, decide_eq_true_eq] at c
    exact .cel (hix _ _ c e)
theorem cleans_rep {K : PySem.W.Frag} {μ μ' : Mu} {H' : Hp} {m : Nat} (hmem : ∀ a, Off μ' a → H' a ≠ none → Off μ a) (hix : ∀ (i : Nat) (a : Addr), i < m → μ'.cs[i]? = some a → μ.cs[i]? = some a) : ∀ {ds : List D} {vs : List V}, cleans m ds = true → Reps K μ' H' ds vs → Reps K μ H' ds vs
  | [], _, _, .nil => .nil
  | d :: ds, _, c, .cons r rs => by
    simp only [cleans, Bool.and_eq_true] at c
    exact .cons (clean_rep hmem hix c.1 r) (cleans_rep hmem hix c.2 rs)
end
mutual
theorem rep_clean {K : PySem.W.Frag} {μ : Mu} {H : Hp} : ∀ {d : D} {v : V}, Rep K μ H d v → clean μ.cs.length d = true
  | .non, _, .non => by simp only [clean]
  | .bl b, _, .bl _ => by simp only [clean]
  | .int i, _, .int _ => by simp only [clean]
  | .str x, _, .str _ => by simp only [clean]
  | .ty n, _, .ty _ => by simp only [clean]
  | .tup ds, _, .tup t r => by simp only [clean]; exact reps_clean r
  | .lst ds, _, .lst h1 h2 r => by simp only [clean]; exact reps_clean r
  | .frz ds, _, .frz t r => by simp only [clean]; exact reps_clean r
  | .cel i, _, .cel e => by simp only [clean, decide_eq_true_eq]; exact (List.getElem?_eq_some_iff.mp e).1
theorem reps_clean {K : PySem.W.Frag} {μ : Mu} {H : Hp} : ∀ {ds : List D} {vs : List V}, Reps K μ H ds vs → cleans μ.cs.length ds = true
  | [], _, .nil => by simp only [cleans]
  | d :: ds, _, .cons r rs => by simp only [cleans, rep_clean r, reps_clean rs, Bool.and_self]
end
/-- behind a def that drops its own cells -/
theorem leave_ok {K : PySem.W.Frag} {μ μ' : Mu} {H H' : Hp} {h0 h h1 : Hs} {d d1 : D} {v : V} {Q : VK} (R : HRel K μ h0 H) (S : Stp μ H μ' H') (R' : HRel K μ' h H') (r : Rep K μ' H' d v) (e : leave h0 d h = some (d1, h1)) (A : AnsE K μ H d1 h1 Q) : Q v H' := by
  obtain ⟨ν, ec, fr⟩ := S.pre
  have hm : h0.length = μ.cs.length := R.len.symm
  have hle : h0.length ≤ h.length := by rw [← R'.len, ec, List.length_append, R.len]; omega
  have hmem : ∀ a, Off μ' a → H' a ≠ none → Off μ a := fun a q _ => ⟨fun z => q.1 (by rw [ec]; exact List.mem_append_left _ z), fun z => q.2 (by rw [S.ms]; exact z)⟩
  have hix : ∀ (i : Nat) (a : Addr), i < h0.length → μ'.cs[i]? = some a → μ.cs[i]? = some a := fun i a hi q => by
    rw [ec, List.getElem?_append_left (by rw [R.len]; exact hi)] at q
    exact q
  have S2 : Stp μ H μ H' := ⟨⟨[], by simp, fun _ z => by cases z⟩, rfl, S.keep, S.dom⟩
  unfold leave at e
  split at e
  · rename_i hcond
    have R2 : HRel K μ (h.take h0.length) H' := by
      refine ⟨by rw [List.length_take, Nat.min_eq_left hle]; exact R.len, R.nd, fun i ds q => ?_, fun a ha => ?_⟩
      · have hi : i < h0.length := by
          have := (List.getElem?_eq_some_iff.mp q).1
          rw [List.length_take] at this
          omega
        rw [List.getElem?_take_of_lt hi] at q
        obtain ⟨a, vs, k1, k2, k3⟩ := R'.cel i ds q
        refine ⟨a, vs, hix i a hi k1, k2, ?_⟩
        rcases hcond i hi with w | ⟨ds', w1, w2⟩
        · rw [q] at w
          obtain ⟨a', vs', g1, g2, g3⟩ := R.cel i ds w.symm
          exact cleans_rep hmem hix (by rw [hm]; exact reps_clean g3) k3
        · rw [q] at w1
          cases w1
          exact cleans_rep hmem hix w2 k3
      · have := R'.ms a (by rw [S.ms]; exact ha)
        exact ⟨this.1, fun z => this.2 (by rw [ec]; exact List.mem_append_left _ z)⟩
    have done : ∀ {d' : D}, Rep K μ H' d' v → d1 = d' → h1 = h.take h0.length → Q v H' := fun r' e1 e2 => by
      subst e1 e2
      exact A v H' μ S2 R2 r'
    cases d with
    | cel c =>
      simp only at e
      cases r with
      | @cel _ a ha =>
        split at e
        · rename_i hc
          cases e
          exact done (.cel (hix c a hc ha)) rfl rfl
        · rename_i hc
          split at e
          · rename_i ds hds
            split at e
            · rename_i hcl
              cases e
              obtain ⟨vs, k1, k2⟩ := R'.at ha hds
              refine done (.lst ⟨fun z => ?_, fun z => ?_⟩ k1 (cleans_rep hmem hix hcl k2)) rfl rfl
              · obtain ⟨j, hj, ej⟩ := List.getElem_of_mem z
                have hj' : μ'.cs[j]? = some a := by rw [ec, List.getElem?_append_left hj, List.getElem?_eq_getElem hj, ej]
                obtain ⟨b1, g1⟩ := List.getElem?_eq_some_iff.mp ha
                obtain ⟨b2, g2⟩ := List.getElem?_eq_some_iff.mp hj'
                have := (List.getElem_inj R'.nd).mp (g1.trans g2.symm)
                omega
              · exact (R'.ms a (by rw [S.ms]; exact z)).2 (List.mem_of_getElem? ha)
            · cases e
          · cases e
    | non => cases r; simp [clean] at e; exact done .non e.1.symm e.2.symm
    | bl b => cases r; simp [clean] at e; exact done (.bl b) e.1.symm e.2.symm
    | int b => cases r; simp [clean] at e; exact done (.int b) e.1.symm e.2.symm
    | str b => cases r; simp [clean] at e; exact done (.str b) e.1.symm e.2.symm
    | ty b => cases r; simp [clean] at e; exact done (.ty b) e.1.symm e.2.symm
    | tup ds =>
      simp only at e
      split at e
      · rename_i hcl
        cases e
        exact done (clean_rep hmem hix hcl r) rfl rfl
      · cases e
    | lst ds =>
      simp only at e
      split at e
      · rename_i hcl
        cases e
        exact done (clean_rep hmem hix hcl r) rfl rfl
      · cases e
    | frz ds =>
      simp only at e
      split at e
      · rename_i hcl
        cases e
        exact done (clean_rep hmem hix hcl r) rfl rfl
      · cases e
  · cases e
end
end Py

set_option Elab.async false
set_option linter.all false
set_option maxRecDepth 100000
set_option maxHeartbeats 4000000
/-! The program's defs keep what PyCore says, at each depth. -/
namespace Py
open PySem PySem.Spec PyProof.Rows L2

structure DefAt (T : Tbl) (K : PySem.W.Frag) (mg : Str → Option Value) (f : Nat) (F : FDef) : Prop where
  ex : ∃ (fa : Addr) (fd : FuncData) (ps N : List Str) (st : Stmt), mg (T.nm f) = some (.ref fa) ∧ Fun K (T.nm f) (T.nm f) st fa fd ∧ Binds K fd ps [] ∧ FnScope N ps (defScope st) ∧ F.np = ps.length ∧ F.ns = N.length ∧
    chSs T N F.body (defScope st) (fun _ => true) (defBody st) = true ∧ ∀ np ks perm, (f, np, ks, perm) ∈ T.kw → KwOk K fd ps np ks perm
structure Top (T : Tbl) (K : PySem.W.Frag) (mg : Str → Option Value) : Prop where
  bn : ∀ x ∈ T.bn, mg x = none
  gcd : T.gcd = true → mg "gcd" = some (.builtin "math.gcd")
  gl : ∀ x d, T.gl x = some d → ∃ u v, mg x = some u ∧ RelV v u ∧ ∀ μ H, Rep K μ H d v
  fns : ∀ f F, T.FT f = some F → DefAt T K mg f F

section
variable {T : Tbl} {P : Program} {w : World} {K : PySem.W.Frag} {mg : Str → Option Value} {base : Heap}
theorem rel_start {μ : Mu} {H : Hp} {ds : List D} {vs : List V} {N : List Str} (r : Reps K μ H ds vs) : RelS K μ H (ds.map some ++ List.replicate (N.length - ds.length) none) (L2.start N vs) := by
  unfold L2.start
  refine ⟨by simp [r.length], fun i d e => ?_⟩
  by_cases hi : i < ds.length
  · rw [List.getElem?_append_left (by simpa using hi), List.getElem?_map] at e
    cases q : ds[i]? with
    | none => rw [q] at e; cases e
    | some d' =>
      rw [q] at e
      have e : d' = d := by simpa using e
      subst e
      obtain ⟨v, hv, rv⟩ := r.get q
      refine ⟨v, ?_, rv⟩
      rw [List.getElem?_append_left (by simp [← r.length]; exact hi), List.getElem?_map, hv]; rfl
  · rw [List.getElem?_append_right (by simpa using hi), List.getElem?_replicate] at e
    split at e <;> cases e
theorem fn_zero {f : Nat} {fa : Addr} {fd : FuncData} {ps : List Str} : FnOk P w K mg base CX0 0 fa fd ps (spI T K 0 f) := by
  refine ⟨fun vs H Q E h => ?_, fun A outer s H args us vs Q E hr he hb hv hs => ?_⟩
  · obtain ⟨μ, h, ds, d, h', _, _, e, _⟩ := h
    simp [evF] at e
  · obtain ⟨μ, h, ds, d, h', _, _, e, _⟩ := hs
    simp [evF] at e
theorem fn_succ {n f : Nat} {F : FDef} {fa : Addr} {fd : FuncData} {ps N : List Str} {st : Stmt} {x : Str} (t : Top T K mg) (ih : ∀ f F, T.FT f = some F → FnAt T P w K mg base n f) (hF : T.FT f = some F) (Fn : Fun K x x st fa fd) (S : FnScope N ps (defScope st))
    (hp : F.np = ps.length) (hn : F.ns = N.length) (hc : chSs T N F.body (defScope st) (fun _ => true) (defBody st) = true) : FnOk P w K mg base CX0 (n + 1) fa fd ps (spI T K (n + 1) f) := by
  refine Fn.ok S (fun vs H Q E h => ?_) (fun cdv A outer s H vs Q E hr h => ?_)
  · obtain ⟨μ, h, ds, d, h', _, r, e, _⟩ := h
    simp only [evF, hF, Option.bind_some] at e
    split at e
    · rename_i hl
      rw [← r.length, hl, hp]
    · cases e
  · obtain ⟨μ, h, ds, d, h', R, r, e, Ans⟩ := h
    simp only [evF, hF, Option.bind_some] at e
    split at e
    · rename_i hl
      simp only [Option.bind_eq_some_iff] at e
      obtain ⟨o, e1, e2⟩ := e
      have G : CG T n N (defScope st) (fun _ => true) (cxOf CX0 P w K mg base N x (defScope st) fa cdv A outer s H E).nox :=
        ⟨rfl, rfl, S.nd, rfl, hr, rfl, rfl, t.bn, t.gcd, t.gl, ih⟩
      have ok := okSs F.body G hc
      rw [hn] at e1
      refine ⟨_, pss_wss, ok _ _ _ e1 _ _ μ _ R (rel_start r) ?_⟩
      cases o with
      | rt d' hh =>
        intro v H' μ' S' R' r'
        simp only at e2
        split at e2
        · exact leave_ok R S' R' r' e2 Ans
        · cases e2
          exact Ans v H' μ' S' R' r'
      | nx σ' hh =>
        intro σv' H' μ' S' R' RS'
        simp only at e2
        split at e2
        · exact leave_ok R S' R' .non e2 Ans
        · cases e2
          exact Ans .non H' μ' S' R' .non
      | bk σ' hh => cases e2
      | ct σ' hh => cases e2
    · cases e
/-- every def, at every depth -/
theorem all_fns (t : Top T K mg) : ∀ (n f : Nat) (F : FDef), T.FT f = some F → FnAt T P w K mg base n f
  | 0, f, F, hF => by
    obtain ⟨fa, fd, ps, N, st, h1, h2, h3, h4, h5, h6, h7, h8⟩ := (t.fns f F hF).ex
    exact ⟨fa, fd, ps, h1, h2.kp, h3, fn_zero, h8⟩
  | n + 1, f, F, hF => by
    obtain ⟨fa, fd, ps, N, st, h1, h2, h3, h4, h5, h6, h7, h8⟩ := (t.fns f F hF).ex
    exact ⟨fa, fd, ps, h1, h2.kp, h3, fn_succ t (all_fns t n) hF h2 h4 h5 h6 h7, h8⟩

/-- what a law promises -/
def spLaw (K : PySem.W.Frag) : Sp := fun vs H Q _ => ∃ (a : Addr) (ns : List Int), vs = [.ref a] ∧ SqL K H a (ns.map V.int) ∧ ns.length ≤ 63 ∧ ∀ H', Q (.bl true) H'
theorem reps_ints {μ : Mu} {H : Hp} : ∀ ns : List Int, Reps K μ H (ns.map D.int) (ns.map V.int)
  | [] => .nil
  | n :: ns => .cons (.int n) (reps_ints ns)
end
end Py
namespace Py
open PySem PySem.Spec PyProof.Rows L2
section
variable {T : Tbl} {K : PySem.W.Frag} {mg : Str → Option Value} {h : Heap}
theorem kw_of {x qual : Str} {st : Stmt} {f : Addr} {fd : FuncData} {ps : List Str} {np : Nat} {ks : List Str} {perm : List Nat} (F : Fun K x qual st f fd)
    (hb : ∀ (kV doc pm : Value) (an : Option Addr) (cdv ct : Value) (us ws zs : List Value), us.length = np → ws.length = ks.length → (perm.mapM fun i => (us ++ ws)[i]?) = some zs →
      bindArgs (PySem.W.fnOf x qual (defArgs st) (defBody st) (defScope st) .none kV doc pm an cdv ct) ⟨us, ks.zip ws⟩ = pure (ps.zip zs)) : KwOk K fd ps np ks perm := by
  obtain ⟨oc, od, kV, doc, pm, an, cdv, ct, osl, rfl, lk, hcd⟩ := F.ex
  exact fun s us ws zs _ hu hw hz => .of_eq (hb kV doc pm an cdv ct us ws zs hu hw hz)
theorem kw_no {f np : Nat} {ks : List Str} {perm : List Nat} (h : (T.kw.all fun u => u.1 != f) = true) (hk : (f, np, ks, perm) ∈ T.kw) : False := by
  have := List.all_eq_true.mp h _ hk
  simp at this
theorem kw_in {f np : Nat} {ks : List Str} {perm : List Nat} {l : List (Nat × List Str × List Nat)} (h : (T.kw.filter fun u => u.1 == f).map (·.2) = l) (hk : (f, np, ks, perm) ∈ T.kw) : (np, ks, perm) ∈ l := by
  rw [← h]
  exact List.mem_map.mpr ⟨_, List.mem_filter.mpr ⟨hk, by simp⟩, rfl⟩
/-- a def of the program, by what the head tells -/
theorem def_at {f : Nat} {F : FDef} {x : Str} {st : Stmt} {N ps : List Str} {fa : Addr} {oc kV dc pm cd ct : Value} {od an : Option Addr} {osl : Array (Option Value)} (X : K.In h) (G : h.Ns mainGlobals mg)
    (a : PySem.W.nsIn K mainGlobals x = some (some (.ref fa))) (l : K.lookup fa = some ⟨oc, od, .func (PySem.W.fnOf x x (defArgs st) (defBody st) (defScope st) .none kV dc pm an cd ct), osl⟩)
    (c : PySem.W.codeIn K cd x = true) (k : PySem.W.keepIn K (.ref fa) = true) (hx : T.nm f = x) (S : FnScope N ps (defScope st)) (hp : F.np = ps.length) (hn : F.ns = N.length)
    (ch : chSs T N F.body (defScope st) (fun _ => true) (defBody st) = true)
    (hb : ∀ (kV doc pm : Value) (an : Option Addr) (cdv ct : Value) (us : List Value), us.length = ps.length → bindArgs (PySem.W.fnOf x x (defArgs st) (defBody st) (defScope st) .none kV doc pm an cdv ct) ⟨us, []⟩ = pure (ps.zip us))
    (hk : ∀ fd, Fun K x x st fa fd → ∀ np ks perm, (f, np, ks, perm) ∈ T.kw → KwOk K fd ps np ks perm) : DefAt T K mg f F := by
  have Fn := fun_mk (st := st) l c k
  subst hx
  exact ⟨fa, _, ps, N, st, PySem.W.mg_of X G a, Fn, Fn.binds hb, S, hp, hn, ch, hk _ Fn⟩
/-- a constant of the program: a pair of ints -/
theorem gl_pair {x : Str} {z : Addr} {i j : Int} {t u : Tok} {od : Option Addr} {m : Nat} {sl : Array (Option Value)} (X : K.In h) (G : h.Ns mainGlobals mg) (a : PySem.W.nsIn K mainGlobals x = some (some (.ref z)))
    (l : K.lookup z = some ⟨.type "tuple", od, .seq #[.int i t, .int j u] m, sl⟩) : ∃ u v, mg x = some u ∧ RelV v u ∧ ∀ μ H, Rep K μ H (.tup [.int i, .int j]) v :=
  ⟨.ref z, .ref z, PySem.W.mg_of X G a, rfl, fun μ H => .tup (.inr ⟨_, #[.int i t, .int j u], m, l, rfl, rfl, by show 2 ≤ sizeLine; decide, .cons (show RelV (.int i) (.int i t) from ⟨t, rfl⟩) (.cons (show RelV (.int j) (.int j u) from ⟨u, rfl⟩) .nil)⟩) (.cons (.int i) (.cons (.int j) .nil))⟩
/-- what a law promises -/
def spL (K : PySem.W.Frag) : Sp := fun vs H Q _ => ∃ (a : Addr) (ns : List Int), vs = [.ref a] ∧ FrzAt K ⟨[], []⟩ H a (ns.map V.int) ∧ ns.length ≤ 63 ∧ ∀ H', Q (.bl true) H'
/-- the law's promise, by what PyCore says of its def -/
theorem law_fin {P : Program} {w : World} {base : Heap} {n f : Nat} {F : FDef} {fa : Addr} {fd : FuncData} {N : List Str} {st : Stmt} {x : Str} (t : Top T K mg) (hF : T.FT f = some F) (Fn : Fun K x x st fa fd) (S : FnScope N ["script"] (defScope st)) (hp : F.np = 1) (hn : F.ns = N.length)
    (hc : chSs T N F.body (defScope st) (fun _ => true) (defBody st) = true) (hlaw : ∀ ns : List Int, ns.length ≤ 63 → ∃ h', evF T.FT T.gl (n + 1) f [.frz (ns.map D.int)] [] = some (.bl true, h')) :
    FnOk P w K mg base CX0 (n + 1) fa fd ["script"] (spL K) := by
  refine (fn_succ t (all_fns (P := P) (w := w) (base := base) t n) hF Fn S hp hn hc).imp fun vs H Q E q => ?_
  obtain ⟨a, ns, rfl, hz, hl, q⟩ := q
  obtain ⟨h', e⟩ := hlaw ns hl
  refine ⟨⟨[], []⟩, [], [.frz (ns.map D.int)], .bl true, h', ⟨rfl, List.nodup_nil, fun i ds e => by simp at e, fun a ha => by cases ha⟩, .cons (.frz hz (reps_ints ns)) .nil, e, fun v H' μ' S R r => ?_⟩
  cases r
  exact q H'
theorem only_frz {H : Hp} {a : Addr} {ns : List Int} (hO : Only H) (hS : SqL K H a (ns.map V.int)) : FrzAt K ⟨[], []⟩ H a (ns.map V.int) := by
  rcases hS with (hS | ⟨o, hS⟩) | hS
  · rcases hO a with z | ⟨o, xs, z⟩
    · rw [hS] at z; cases z
    · rw [hS] at z; cases z
  · exact .inl ⟨⟨by simp, by simp⟩, o, hS⟩
  · exact .inr hS
end
end Py

set_option Elab.async false
set_option linter.all false
set_option maxRecDepth 100000
set_option maxHeartbeats 1000000
/-! How the small language computes, row by row, for plain proofs about it. -/
namespace Py
open PySem L2
section
variable {cl : Nat → List D → Hs → Option (D × Hs)} {gl : Str → Option D} {σ : Sg} {h : Hs}
theorem e_var {i : Nat} : evE cl gl (.var i) σ h = match σ[i]? with
    | some (some d) => some (d, h)
    | _ => none := by simp only [evE] <;> rfl
theorem e_non : evE cl gl .non σ h = some (.non, h) := by simp only [evE]
theorem e_bl {b : Bool} : evE cl gl (.bl b) σ h = some (.bl b, h) := by simp only [evE]
theorem e_int {b : Int} : evE cl gl (.int b) σ h = some (.int b, h) := by simp only [evE]
theorem e_str {b : Str} : evE cl gl (.str b) σ h = some (.str b, h) := by simp only [evE]
theorem e_ty {b : String} : evE cl gl (.ty b) σ h = some (.ty b, h) := by simp only [evE]
theorem e_glob {b : Str} : evE cl gl (.glob b) σ h = (gl b).map fun d => (d, h) := by simp only [evE]
theorem e_op {o : Bop} {a b : E} : evE cl gl (.op o a b) σ h = (evE cl gl a σ h).bind fun p => (evE cl gl b σ p.2).bind fun q => (binop o p.1 q.1).map fun d => (d, q.2) := by simp only [evE]
theorem e_neg {a : E} : evE cl gl (.neg a) σ h = (evE cl gl a σ h).bind fun p => match p.1 with
    | .int i => some (.int (-i), p.2)
    | _ => none := by simp only [evE] <;> rfl
theorem e_cmp {o : Cop} {a b : E} : evE cl gl (.cmp o a b) σ h = (evE cl gl a σ h).bind fun p => (evE cl gl b σ p.2).bind fun q => (cmpop q.2 o p.1 q.1).map fun k => (.bl k, q.2) := by simp only [evE]
theorem e_chn {o o' : Cop} {a b c : E} : evE cl gl (.chn o o' a b c) σ h = (evE cl gl a σ h).bind fun p => (evE cl gl b σ p.2).bind fun q => (cmpop q.2 o p.1 q.1).bind fun k =>
      if k then (evE cl gl c σ q.2).bind fun r => (cmpop r.2 o' q.1 r.1).map fun k' => (.bl k', r.2) else some (.bl false, q.2) := by simp only [evE]
theorem e_bop {k : Bool} {es : Es} : evE cl gl (.bop k es) σ h = evB cl gl k es σ h := by simp only [evE]
theorem e_not {a : E} : evE cl gl (.not a) σ h = (evE cl gl a σ h).bind fun p => match p.1 with
    | .bl b => some (.bl (!b), p.2)
    | _ => none := by simp only [evE] <;> rfl
theorem e_ife {c a b : E} : evE cl gl (.ife c a b) σ h = (evE cl gl c σ h).bind fun p => match p.1 with
    | .bl k => if k then evE cl gl a σ p.2 else evE cl gl b σ p.2
    | _ => none := by simp only [evE] <;> rfl
theorem e_tup {es : Es} : evE cl gl (.tup es) σ h = (evEs cl gl es σ h).bind fun p => if p.1.length ≤ lim then some (.tup p.1, p.2) else none := by simp only [evE]
theorem e_lst {m : Bool} {es : Es} : evE cl gl (.lst m es) σ h = (evEs cl gl es σ h).bind fun p => if p.1.length ≤ lim then (if m then some (.cel p.2.length, p.2 ++ [p.1]) else some (.lst p.1, p.2)) else none := by simp only [evE]
theorem e_ix {a i : E} : evE cl gl (.ix a i) σ h = (evE cl gl a σ h).bind fun p => (evE cl gl i σ p.2).bind fun q => (getI q.2 p.1 q.1).map fun d => (d, q.2) := by simp only [evE]
theorem e_sl {a : E} {lo hi : Eo} : evE cl gl (.sl a lo hi) σ h = (evE cl gl a σ h).bind fun p => (evEo cl gl lo σ p.2).bind fun q => (evEo cl gl hi σ q.2).bind fun r => (slI r.2 p.1 q.1 r.1).map fun d => (d, r.2) := by simp only [evE]
theorem e_cl {f : Nat} {es : Es} : evE cl gl (.cl f es) σ h = (evEs cl gl es σ h).bind fun p => cl f p.1 p.2 := by simp only [evE]
theorem e_ck {f : Nat} {es ks : Es} {perm : List Nat} : evE cl gl (.ck f es ks perm) σ h = (evEs cl gl es σ h).bind fun p => (evEs cl gl ks σ p.2).bind fun q => (perm.mapM fun i => (p.1 ++ q.1)[i]?).bind fun ds => cl f ds q.2 := by simp only [evE]
theorem e_bt {b : Blt} {es : Es} : evE cl gl (.bt b es) σ h = (evEs cl gl es σ h).bind fun p => blt b p.1 p.2 := by simp only [evE]
theorem e_mt {m : Mth} {o : E} {es : Es} : evE cl gl (.mt m o es) σ h = (evE cl gl o σ h).bind fun p => (evEs cl gl es σ p.2).bind fun q => meth m p.1 q.1 q.2 := by simp only [evE]
theorem eb_one {k : Bool} {e : E} : evB cl gl k (.cons e .nil) σ h = evE cl gl e σ h := by simp only [evB]
theorem eb_cons {k : Bool} {e e' : E} {es : Es} : evB cl gl k (.cons e (.cons e' es)) σ h = (evE cl gl e σ h).bind fun p => match p.1 with
    | .bl b => if b = k then evB cl gl k (.cons e' es) σ p.2 else some (.bl b, p.2)
    | _ => none := by simp only [evB] <;> rfl
theorem es_nil : evEs cl gl .nil σ h = some ([], h) := by simp only [evEs]
theorem es_cons {e : E} {es : Es} : evEs cl gl (.cons e es) σ h = (evE cl gl e σ h).bind fun p => (evEs cl gl es σ p.2).map fun q => (p.1 :: q.1, q.2) := by simp only [evEs]
theorem eo_none : evEo cl gl .none σ h = some (none, h) := by simp only [evEo]
theorem eo_some {e : E} : evEo cl gl (.some e) σ h = (evE cl gl e σ h).bind fun p => match p.1 with
    | .int i => some (some i, p.2)
    | _ => none := by simp only [evEo] <;> rfl
theorem ec_none : evC cl gl .none σ h = some (true, h) := by simp only [evC]
theorem ec_some {e : E} : evC cl gl (.some e) σ h = (evE cl gl e σ h).bind fun p => match p.1 with
    | .bl b => some (b, p.2)
    | _ => none := by simp only [evC] <;> rfl
theorem et_name {i : Nat} {d : D} : evTg cl gl (.name i) d σ h = some (σ.set i (some d), h) := by simp only [evTg]
theorem et_tup {ts : Tgs} {ds : List D} : evTg cl gl (.tup ts) (.tup ds) σ h = evTgs cl gl ts ds σ h := by simp only [evTg]
theorem et_tupl {ts : Tgs} {ds : List D} : evTg cl gl (.tup ts) (.lst ds) σ h = evTgs cl gl ts ds σ h := by simp only [evTg]
theorem et_sub {o i : E} {d : D} : evTg cl gl (.sub o i) d σ h = (evE cl gl o σ h).bind fun p => (evE cl gl i σ p.2).bind fun q => match p.1, q.1 with
    | .cel c, .int k => (q.2[c]?).bind fun ds => (L2.ixN ds.length k).map fun j => (σ, q.2.set c (ds.set j d))
    | _, _ => none := by simp only [evTg] <;> rfl
theorem ets_nil : evTgs cl gl .nil [] σ h = some (σ, h) := by simp only [evTgs]
theorem ets_cons {t : Tg} {ts : Tgs} {d : D} {ds : List D} : evTgs cl gl (.cons t ts) (d :: ds) σ h = (evTg cl gl t d σ h).bind fun p => evTgs cl gl ts ds p.1 p.2 := by simp only [evTgs]
theorem ei_seq {e : E} : evIt cl gl (.seq e) σ h = (evE cl gl e σ h).bind fun p => (seqI p.2 p.1).map fun q => ⟨q.1, q.2, p.2⟩ := by simp only [evIt]
theorem ei_rng1 {a : E} : evIt cl gl (.rng1 a) σ h = (evE cl gl a σ h).bind fun p => match p.1 with
    | .int n => if -(2 ^ 62) ≤ n ∧ n < 2 ^ 62 then some ⟨rngL 0 n.toNat, none, p.2⟩ else none
    | _ => none := by simp only [evIt] <;> rfl
theorem ei_rng2 {a b : E} : evIt cl gl (.rng2 a b) σ h = (evE cl gl a σ h).bind fun p => (evE cl gl b σ p.2).bind fun q => match p.1, q.1 with
    | .int l, .int n => if (-(2 ^ 62) ≤ l ∧ l < 2 ^ 62) ∧ -(2 ^ 62) ≤ n ∧ n < 2 ^ 62 then some ⟨rngL l (n - l).toNat, none, q.2⟩ else none
    | _, _ => none := by simp only [evIt] <;> rfl
theorem ei_zip {a b : E} : evIt cl gl (.zip a b) σ h = (evE cl gl a σ h).bind fun p => (evE cl gl b σ p.2).bind fun q => (zipI p.1 q.1).map fun xs => ⟨xs, none, q.2⟩ := by simp only [evIt]
/-! statements: each as a step -/
theorem ss_nil_ : evSs cl gl .nil σ h = some (.nx σ h) := by simp only [evSs]
theorem ss_nx {s : S} {ss : Ss} {σ' : Sg} {h' : Hs} (e : evS cl gl s σ h = some (.nx σ' h')) : evSs cl gl (.cons s ss) σ h = evSs cl gl ss σ' h' := by simp only [evSs, e, Option.bind_some]
theorem ss_rt {s : S} {ss : Ss} {d : D} {h' : Hs} (e : evS cl gl s σ h = some (.rt d h')) : evSs cl gl (.cons s ss) σ h = some (.rt d h') := by simp only [evSs, e, Option.bind_some]
theorem s_asg_ {t : Tg} {e : E} : evS cl gl (.asg t e) σ h = (evE cl gl e σ h).bind fun p => (evTg cl gl t p.1 σ p.2).map fun q => .nx q.1 q.2 := by simp only [evS]
theorem s_par_ {i j : Nat} {a b : E} : evS cl gl (.par i j a b) σ h = (evE cl gl a σ h).bind fun p => (evE cl gl b σ p.2).map fun q => .nx ((σ.set i (some p.1)).set j (some q.1)) q.2 := by simp only [evS]
theorem s_ex_ {e : E} : evS cl gl (.ex e) σ h = (evE cl gl e σ h).map fun p => .nx σ p.2 := by simp only [evS]
theorem s_ret_ {e : E} : evS cl gl (.ret e) σ h = (evE cl gl e σ h).map fun p => .rt p.1 p.2 := by simp only [evS]
theorem s_retN_ : evS cl gl .retN σ h = some (.rt .non h) := by simp only [evS]
theorem s_ite_ {c : E} {a b : Ss} : evS cl gl (.ite c a b) σ h = (evE cl gl c σ h).bind fun p => match p.1 with
    | .bl k => if k then evSs cl gl a σ p.2 else evSs cl gl b σ p.2
    | _ => none := by simp only [evS] <;> rfl
theorem s_for_ {t : Tg} {it : It} {b : Ss} : evS cl gl (.for_ t it b) σ h = (evIt cl gl it σ h).bind fun w => loopF (fun d σ h => evTg cl gl t d σ h) (fun σ h => evSs cl gl b σ h) w.src w.xs w.xs σ w.h := by simp only [evS]
theorem s_whl_ {c : E} {b : Ss} : evS cl gl (.whl c b) σ h = loopW (fun σ h => evC cl gl (.some c) σ h) (fun σ h => evSs cl gl b σ h) WF σ h := by simp only [evS]
theorem ss_cons_ {s : S} {ss : Ss} : evSs cl gl (.cons s ss) σ h = (evS cl gl s σ h).bind fun o => match o with
    | .nx σ' h' => evSs cl gl ss σ' h'
    | o => some o := by simp only [evSs] <;> rfl

/-! loops and comprehensions -/
section
variable {bind : D → Sg → Hs → Option (Sg × Hs)} {run : Sg → Hs → Option O} {all : List D}
theorem lf_nil : loopF bind run none all [] σ h = some (.nx σ h) := by simp [loopF]
theorem lf_cons {x : D} {xs : List D} {σ1 σ2 : Sg} {h1 h2 : Hs} (hb : bind x σ h = some (σ1, h1)) (hr : run σ1 h1 = some (.nx σ2 h2)) : loopF bind run none all (x :: xs) σ h = loopF bind run none all xs σ2 h2 := by
  simp [loopF, hb, hr]
theorem lf_ret {x : D} {xs : List D} {σ1 : Sg} {h1 h2 : Hs} {d : D} (hb : bind x σ h = some (σ1, h1)) (hr : run σ1 h1 = some (.rt d h2)) : loopF bind run none all (x :: xs) σ h = some (.rt d h2) := by
  simp [loopF, hb, hr]
end
section
variable {bind : D → Sg → Hs → Option (Sg × Hs)} {cond : Sg → Hs → Option (Bool × Hs)} {elt : Sg → Hs → Option (D × Hs)} {all : List D}
theorem lc_nil : loopC σ bind cond elt none all [] h = some ([], h) := by simp [loopC]
theorem lc_yes {x d : D} {xs ds : List D} {σ1 : Sg} {h1 h2 h3 h4 : Hs} (hb : bind x σ h = some (σ1, h1)) (hc : cond σ1 h1 = some (true, h2)) (he : elt σ1 h2 = some (d, h3)) (hr : loopC σ bind cond elt none all xs h3 = some (ds, h4)) (hl : ds.length < lim) :
    loopC σ bind cond elt none all (x :: xs) h = some (d :: ds, h4) := by
  simp [loopC, hb, hc, he, hr, hl]
theorem lc_no {x : D} {xs ds : List D} {σ1 : Sg} {h1 h2 h4 : Hs} (hb : bind x σ h = some (σ1, h1)) (hc : cond σ1 h1 = some (false, h2)) (hr : loopC σ bind cond elt none all xs h2 = some (ds, h4)) :
    loopC σ bind cond elt none all (x :: xs) h = some (ds, h4) := by
  simp [loopC, hb, hc, hr]
end
/-- a comprehension without a test, that changes nothing -/
theorem cp_map {ce : E} {t : Tg} {it : It} {own : List Nat} {xs : List D} {h1 : Hs} {g : D → D} (hi : evIt cl gl it σ h = some ⟨xs, none, h1⟩) (hl : xs.length ≤ lim)
    (hx : ∀ x ∈ xs, ∃ σ', evTg cl gl t x (wipeD σ own) h1 = some (σ', h1) ∧ evE cl gl ce σ' h1 = some (g x, h1)) : evE cl gl (.cp false ce t it .none own) σ h = some (.lst (xs.map g), h1) := by
  have core : ∀ (ys all : List D), (∀ x ∈ ys, ∃ σ', evTg cl gl t x (wipeD σ own) h1 = some (σ', h1) ∧ evE cl gl ce σ' h1 = some (g x, h1)) → ys.length ≤ lim →
      loopC (wipeD σ own) (fun d σ h => evTg cl gl t d σ h) (fun σ h => evC cl gl .none σ h) (fun σ h => evE cl gl ce σ h) none all ys h1 = some (ys.map g, h1) := by
    intro ys all
    induction ys with
    | nil => intro _ _; exact lc_nil
    | cons y ys ih =>
      intro hy hl
      obtain ⟨σ', e1, e2⟩ := hy y List.mem_cons_self
      have ih := ih (fun z hz => hy z (List.mem_cons_of_mem _ hz)) (by simp at hl; omega)
      exact lc_yes e1 ec_none e2 ih (by simp at hl; simp; omega)
  simp only [evE, hi, Option.bind_some, core xs xs hx hl, Bool.false_eq_true, if_false]
/-- .. with a test -/
theorem cp_filter {ce : E} {ci : E} {t : Tg} {it : It} {own : List Nat} {xs : List D} {h1 : Hs} {g : D → D} {k : D → Bool} (hi : evIt cl gl it σ h = some ⟨xs, none, h1⟩) (hl : xs.length ≤ lim)
    (hx : ∀ x ∈ xs, ∃ σ', evTg cl gl t x (wipeD σ own) h1 = some (σ', h1) ∧ evE cl gl ci σ' h1 = some (.bl (k x), h1) ∧ (k x = true → evE cl gl ce σ' h1 = some (g x, h1))) : evE cl gl (.cp false ce t it (.some ci) own) σ h = some (.lst ((xs.filter k).map g), h1) := by
  have core : ∀ (ys all : List D), (∀ x ∈ ys, ∃ σ', evTg cl gl t x (wipeD σ own) h1 = some (σ', h1) ∧ evE cl gl ci σ' h1 = some (.bl (k x), h1) ∧ (k x = true → evE cl gl ce σ' h1 = some (g x, h1))) → ys.length ≤ lim →
      loopC (wipeD σ own) (fun d σ h => evTg cl gl t d σ h) (fun σ h => evC cl gl (.some ci) σ h) (fun σ h => evE cl gl ce σ h) none all ys h1 = some ((ys.filter k).map g, h1) := by
    intro ys all
    induction ys with
    | nil => intro _ _; exact lc_nil
    | cons y ys ih =>
      intro hy hl
      obtain ⟨σ', e1, e2, e3⟩ := hy y List.mem_cons_self
      have ih := ih (fun z hz => hy z (List.mem_cons_of_mem _ hz)) (by simp at hl; omega)
      have ec : evC cl gl (.some ci) σ' h1 = some (k y, h1) := by rw [ec_some, e2]; rfl
      cases hk : k y with
      | true =>
        rw [List.filter_cons, hk, if_pos rfl, List.map_cons]
        rw [hk] at ec
        refine lc_yes e1 ec (e3 hk) ih ?_
        have : (ys.filter k).length ≤ ys.length := List.length_filter_le _ _
        simp at hl; simp; omega
      | false =>
        rw [List.filter_cons, hk, if_neg (by decide)]
        rw [hk] at ec
        exact lc_no e1 ec ih
  simp only [evE, hi, Option.bind_some, core xs xs hx hl, Bool.false_eq_true, if_false]
end

/-! a def, run -/
def fin : O → Option (D × Hs)
  | .rt d h => some (d, h)
  | .nx _ h => some (.non, h)
  | _ => none
noncomputable def finL (h0 : Hs) : O → Option (D × Hs)
  | .rt d h => leave h0 d h
  | .nx _ h => leave h0 .non h
  | _ => none
theorem fin_rt {d : D} {h : Hs} : fin (.rt d h) = some (d, h) := rfl
theorem fin_nx {σ : Sg} {h : Hs} : fin (.nx σ h) = some (.non, h) := rfl
section
variable {FT : Nat → Option FDef} {gl : Str → Option D}
theorem run_f {n f : Nat} {F : FDef} {ds : List D} {h : Hs} (hF : FT f = some F) (ht : F.tr = false) (hl : ds.length = F.np) :
    evF FT gl (n + 1) f ds h = (evSs (evF FT gl n) gl F.body (ds.map some ++ List.replicate (F.ns - ds.length) none) h).bind fin := by
  simp only [evF, hF, Option.bind_some, hl, if_true, ht]
  congr 1
theorem run_l {n f : Nat} {F : FDef} {ds : List D} {h : Hs} (hF : FT f = some F) (ht : F.tr = true) (hl : ds.length = F.np) :
    evF FT gl (n + 1) f ds h = (evSs (evF FT gl n) gl F.body (ds.map some ++ List.replicate (F.ns - ds.length) none) h).bind (finL h) := by
  simp only [evF, hF, Option.bind_some, hl, if_true, ht]
  congr 1
end
end Py
namespace Py
open PySem L2
/-! lists of ints, cut and read -/
theorem cut_last (xs : List D) (x : D) : cutD (xs ++ [x]) none (some (-1)) = xs := by
  unfold cutD
  have h1 : HT.sIx (xs ++ [x]).length 0 none = 0 := rfl
  have h2 : HT.sIx (xs ++ [x]).length (xs ++ [x]).length (some (-1)) = xs.length := by
    unfold HT.sIx
    simp only [List.length_append, List.length_cons, List.length_nil]
    simp
    omega
  rw [h1, h2]
  simp
theorem at_last {α : Type} (xs : List α) (v : α) : L2.atI (xs ++ [v]) (-1) = some v := atI_last xs v
theorem at_nat {α : Type} {xs : List α} {j : Nat} {v : α} (h : xs[j]? = some v) : L2.atI xs (j : Int) = some v := atI_nat h
theorem at_0 {α : Type} (x : α) (xs : List α) : L2.atI (x :: xs) 0 = some x := atI_nat (j := 0) rfl
theorem at_1 {α : Type} (x y : α) (xs : List α) : L2.atI (x :: y :: xs) 1 = some y := atI_nat (j := 1) rfl
theorem at_2 {α : Type} (x y z : α) (xs : List α) : L2.atI (x :: y :: z :: xs) 2 = some z := atI_nat (j := 2) rfl
theorem at_3 {α : Type} (x y z u : α) (xs : List α) : L2.atI (x :: y :: z :: u :: xs) 3 = some u := atI_nat (j := 3) rfl
theorem ints_map : ∀ xs : List Int, intsD (xs.map D.int) = some xs
  | [] => rfl
  | x :: xs => by simp [intsD, ints_map xs]
theorem bools_map : ∀ xs : List Bool, boolsD (xs.map D.bl) = some xs
  | [] => rfl
  | x :: xs => by simp [boolsD, bools_map xs]
/-! sizes -/
def Sz (x : Int) (k : Nat) : Prop := x.natAbs < 2 ^ k
theorem Sz.mono {x : Int} {i j : Nat} (h : Sz x i) (hij : i ≤ j) : Sz x j := Nat.lt_of_lt_of_le h (Nat.pow_le_pow_right (by decide) hij)
theorem Sz.mul {x y : Int} {i j : Nat} (h : Sz x i) (h' : Sz y j) : Sz (x * y) (i + j) := by
  unfold Sz at *
  rw [Int.natAbs_mul, Nat.pow_add]
  exact Nat.mul_lt_mul'' h h'
theorem Sz.add {x y : Int} {i : Nat} (h : Sz x i) (h' : Sz y i) : Sz (x + y) (i + 1) := by
  unfold Sz at *
  have := Int.natAbs_add_le x y
  rw [Nat.pow_succ]
  omega
theorem Sz.neg {x : Int} {i : Nat} (h : Sz x i) : Sz (-x) i := by
  unfold Sz at *
  rw [Int.natAbs_neg]; exact h
theorem Sz.sub {x y : Int} {i : Nat} (h : Sz x i) (h' : Sz y i) : Sz (x - y) (i + 1) := by
  rw [Int.sub_eq_add_neg]
  exact h.add h'.neg
theorem Sz.ok {x y : Int} {i j : Nat} (h : Sz x i) (h' : Sz y j) (hi : 0 < i) (hj : 0 < j) (hs : i + j ≤ 1000000) : mulOk x y = true := by
  unfold mulOk
  exact decide_eq_true (wide_mul h h' hi hj hs)
theorem Sz.div_ok {y : Int} {j : Nat} (h : Sz y j) (h0 : 0 < y) (hj : 0 < j) (hs : j ≤ 9000) : 0 < y ∧ y.natAbs.log2 < 9000 := wide_div (i := 0) h0 h hj hs
theorem Sz.ediv {x y : Int} {i : Nat} (h : Sz x i) (hy : 0 < y) : Sz (x / y) i := by
  unfold Sz at *
  refine Nat.lt_of_le_of_lt ?_ h
  exact Int.natAbs_ediv_le_natAbs x y
theorem Sz.of_nat {n k : Nat} (h : n < 2 ^ k) : Sz (n : Int) k := by unfold Sz; simpa using h
end Py
namespace Py
open PySem L2
/-! operations on known kinds -/
section
variable {h : Hs} {i j : Int} {a b : Bool} {xs ys : List D} {c : Nat} {m : Bool} {x : D}
theorem o_add : binop .add (.int i) (.int j) = some (.int (i + j)) := rfl
theorem o_sub : binop .sub (.int i) (.int j) = some (.int (i - j)) := rfl
theorem o_mul : binop .mul (.int i) (.int j) = if mulOk i j then some (.int (i * j)) else none := rfl
theorem o_fdiv : binop .fdiv (.int i) (.int j) = if 0 < j ∧ j.natAbs.log2 < 9000 then some (.int (i / j)) else none := rfl
theorem o_mod : binop .mod (.int i) (.int j) = if 0 < j then some (.int (i % j)) else none := rfl
theorem o_pow : binop .pow (.int i) (.int j) = if 0 ≤ j ∧ j ≤ 1000 ∧ i.natAbs < 2 ^ 64 then some (.int (i ^ j.toNat)) else none := rfl
theorem o_addt : binop .add (.tup xs) (.tup ys) = if xs.length + ys.length ≤ lim then some (.tup (xs ++ ys)) else none := rfl
theorem o_addl : binop .add (.lst xs) (.lst ys) = if xs.length + ys.length ≤ lim then some (.lst (xs ++ ys)) else none := rfl
theorem o_mult : binop .mul (.tup xs) (.int i) = if xs ≠ [] ∧ 2 ≤ i ∧ i ≤ 1000 ∧ xs.length ≤ 1000 then some (.tup (List.replicate i.toNat xs).flatten) else none := rfl
theorem k_eq : cmpop h .eq (.int i) (.int j) = some (decide (i = j)) := rfl
theorem k_ne : cmpop h .ne (.int i) (.int j) = some (!decide (i = j)) := rfl
theorem k_lt : cmpop h .lt (.int i) (.int j) = some (decide (i < j)) := rfl
theorem k_le : cmpop h .le (.int i) (.int j) = some (decide (i ≤ j)) := rfl
theorem k_gt : cmpop h .gt (.int i) (.int j) = some (decide (j < i)) := rfl
theorem k_ge : cmpop h .ge (.int i) (.int j) = some (decide (j ≤ i)) := rfl
theorem k_isb : cmpop h .is_ (.bl a) (.bl b) = some (decide (a = b)) := rfl
theorem k_isn : cmpop h .is_ x .non = some (isNon x) := by cases x <;> rfl
theorem k_isnn : cmpop h .isn x .non = some (!isNon x) := by cases x <;> rfl
theorem k_eqb : cmpop h .eq (.bl a) (.bl b) = some (a == b) := by
  simp [cmpop, eqD, rd, toP, SeqAt.shaped, PyData.canLay0, PyData.depth, PyData.eqv]
theorem k_eql : cmpop h .eq (.lst xs) (.lst ys) = eqD h (.lst xs) (.lst ys) := rfl
theorem k_nel : cmpop h .ne (.lst xs) (.lst ys) = (eqD h (.lst xs) (.lst ys)).map (!·) := rfl
theorem k_in : cmpop h .in_ (.int i) (.tup xs) = (intsD xs).map fun ns => ns.any fun j => decide (j = i) := rfl
theorem k_nin : cmpop h .nin (.int i) (.tup xs) = (intsD xs).map fun ns => !(ns.any fun j => decide (j = i)) := rfl
theorem g_tup_ : getI h (.tup xs) (.int i) = L2.atI xs i := rfl
theorem g_lst_ : getI h (.lst xs) (.int i) = L2.atI xs i := rfl
theorem g_frz_ : getI h (.frz xs) (.int i) = L2.atI xs i := rfl
theorem g_cel_ : getI h (.cel c) (.int i) = (h[c]?).bind fun ds => L2.atI ds i := rfl
theorem sl_tup_ {lo hi : Option Int} : slI h (.tup xs) lo hi = some (.tup (cutD xs lo hi)) := rfl
theorem sl_lst_ {lo hi : Option Int} : slI h (.lst xs) lo hi = some (.lst (cutD xs lo hi)) := rfl
theorem sl_frz_ {lo hi : Option Int} : slI h (.frz xs) lo hi = some (.lst (cutD xs lo hi)) := rfl
theorem sq_tup : seqI h (.tup xs) = some (xs, none) := rfl
theorem sq_lst : seqI h (.lst xs) = some (xs, none) := rfl
theorem zp_tup : zipI (.tup xs) (.tup ys) = if xs.length = ys.length then some (xs.zipWith (fun x y => .tup [x, y]) ys) else none := rfl
theorem n_lent : blt .len [.tup xs] h = some (.int xs.length, h) := rfl
theorem n_lenl : blt .len [.lst xs] h = some (.int xs.length, h) := rfl
theorem n_lenf : blt .len [.frz xs] h = some (.int xs.length, h) := rfl
theorem n_abs : blt .abs [.int i] h = some (.int (if i < 0 then -i else i), h) := rfl
theorem n_int : blt .int [.int i] h = some (.int i, h) := rfl
theorem n_intb : blt .int [.bl a] h = some (.int (if a then 1 else 0), h) := rfl
theorem n_max : blt .max [.int i, .int j] h = some (.int (if j > i then j else i), h) := rfl
theorem n_min : blt .min [.int i, .int j] h = some (.int (if j < i then j else i), h) := rfl
theorem n_sum : blt .sum [.lst xs] h = (intsD xs).map fun ns => (.int ns.sum, h) := rfl
theorem n_tupl : blt .tuple [.lst xs] h = some (.tup xs, h) := rfl
theorem n_tupt : blt .tuple [.tup xs] h = some (.tup xs, h) := rfl
theorem n_tupc : blt .tuple [.cel c] h = (h[c]?).map fun ds => (.tup ds, h) := rfl
theorem n_all : blt .all [.lst xs] h = (boolsD xs).map fun bs => (.bl (bs.all id), h) := rfl
theorem n_any : blt .any [.lst xs] h = (boolsD xs).map fun bs => (.bl (bs.any id), h) := rfl
theorem n_gcd : blt .gcd [.int i, .int j] h = some (.int (Nat.gcd i.natAbs j.natAbs : Nat), h) := rfl
theorem n_isi {t : String} : blt .isi [x, .ty t] h = (tyOf x).bind fun k => (isK k t).map fun b => (.bl b, h) := rfl
theorem n_isit : blt .isi [x, .tup xs] h = (tyOf x).bind fun k => (isAny k xs).map fun b => (.bl b, h) := rfl
theorem y_int : tyOf (.int i) = some "int" := rfl
theorem y_bl : tyOf (.bl a) = some "bool" := rfl
theorem y_tup : tyOf (.tup xs) = some "tuple" := rfl
theorem y_lst : tyOf (.lst xs) = some "list" := rfl
theorem y_non : tyOf .non = some "NoneType" := rfl
theorem q_app : meth .append (.cel c) [x] h = (h[c]?).bind fun ds => if ds.length < lim then some (.non, h.set c (ds ++ [x])) else none := rfl
end
end Py
namespace Py
open PySem L2
section
variable {cl : Nat → List D → Hs → Option (D × Hs)} {gl : Str → Option D} {σ : Sg} {h : Hs} {ce : E} {it : It} {i j : Nat}
/-- over ints -/
theorem cp_ints {ns : List Int} (f : Int → D) (hi : evIt cl gl it σ h = some ⟨ns.map D.int, none, h⟩) (hl : ns.length ≤ lim) (hx : ∀ x ∈ ns, evE cl gl ce ((σ.set i none).set i (some (.int x))) h = some (f x, h)) :
    evE cl gl (.cp false ce (.name i) it .none [i]) σ h = some (.lst (ns.map f), h) := by
  have := cp_map (cl := cl) (gl := gl) (σ := σ) (h := h) (ce := ce) (t := .name i) (it := it) (own := [i]) (xs := ns.map D.int) (h1 := h) (g := fun d => match d with | .int x => f x | d => d) hi (by simpa using hl) (by
    intro d hd
    obtain ⟨x, hx', rfl⟩ := List.mem_map.mp hd
    exact ⟨_, et_name, hx x hx'⟩)
  rw [this, List.map_map]; rfl
/-- over a range -/
theorem cp_rng {n : Nat} (f : Nat → D) (hi : evIt cl gl it σ h = some ⟨rngL 0 n, none, h⟩) (hl : n ≤ lim) (hx : ∀ x, x < n → evE cl gl ce ((σ.set i none).set i (some (.int (x : Nat)))) h = some (f x, h)) :
    evE cl gl (.cp false ce (.name i) it .none [i]) σ h = some (.lst ((List.range n).map f), h) := by
  have := cp_map (cl := cl) (gl := gl) (σ := σ) (h := h) (ce := ce) (t := .name i) (it := it) (own := [i]) (xs := rngL 0 n) (h1 := h) (g := fun d => match d with | .int x => f x.toNat | d => d) hi (by simpa [rngL] using hl) (by
    intro d hd
    obtain ⟨x, hx', rfl⟩ := List.mem_map.mp hd
    refine ⟨_, et_name, ?_⟩
    have := hx x (List.mem_range.mp hx')
    simpa [wipeD] using this)
  rw [this]
  congr 3
  simp [rngL]
/-- over things of one kind -/
theorem cp_of {α : Type} {t : Tg} {own : List Nat} {xs : List α} {mk f : α → D} (hi : evIt cl gl it σ h = some ⟨xs.map mk, none, h⟩) (hl : xs.length ≤ lim)
    (hx : ∀ x ∈ xs, ∃ σ', evTg cl gl t (mk x) (wipeD σ own) h = some (σ', h) ∧ evE cl gl ce σ' h = some (f x, h)) : evE cl gl (.cp false ce t it .none own) σ h = some (.lst (xs.map f), h) := by
  have core : ∀ (ys : List α) (all : List D), (∀ x ∈ ys, ∃ σ', evTg cl gl t (mk x) (wipeD σ own) h = some (σ', h) ∧ evE cl gl ce σ' h = some (f x, h)) → ys.length ≤ lim →
      loopC (wipeD σ own) (fun d σ h => evTg cl gl t d σ h) (fun σ h => evC cl gl .none σ h) (fun σ h => evE cl gl ce σ h) none all (ys.map mk) h = some (ys.map f, h) := by
    intro ys all
    induction ys with
    | nil => intro _ _; exact lc_nil
    | cons y ys ih =>
      intro hy hl
      obtain ⟨σ', e1, e2⟩ := hy y List.mem_cons_self
      have ih := ih (fun z hz => hy z (List.mem_cons_of_mem _ hz)) (by simp at hl; omega)
      exact lc_yes e1 ec_none e2 ih (by simp at hl; simp; omega)
  simp only [evE, hi, Option.bind_some, core xs _ hx hl, Bool.false_eq_true, if_false]
/-- over pairs of two lists of one length -/
theorem cp_zip {α β : Type} {as : List α} {bs : List β} {ma : α → D} {mb : β → D} (f : α → β → D) (hi : evIt cl gl it σ h = some ⟨(as.map ma).zipWith (fun x y => .tup [x, y]) (bs.map mb), none, h⟩) (hl : as.length ≤ lim)
    (hx : ∀ x ∈ as, ∀ y ∈ bs, evE cl gl ce ((((σ.set j none).set i none).set i (some (ma x))).set j (some (mb y))) h = some (f x y, h)) :
    evE cl gl (.cp false ce (.tup (.cons (.name i) (.cons (.name j) .nil))) it .none [i, j]) σ h = some (.lst (List.zipWith f as bs), h) := by
  have e : (as.map ma).zipWith (fun x y => D.tup [x, y]) (bs.map mb) = (as.zip bs).map fun p => .tup [ma p.1, mb p.2] := by
    rw [List.zipWith_map, List.zip, List.map_zipWith]
  rw [e] at hi
  have := cp_of (ce := ce) (t := .tup (.cons (.name i) (.cons (.name j) .nil))) (own := [i, j]) (f := fun p : α × β => f p.1 p.2) hi (by simp; omega) (by
    intro p hp
    refine ⟨(((σ.set j none).set i none).set i (some (ma p.1))).set j (some (mb p.2)), by simp [et_tup, ets_cons, et_name, ets_nil, wipeD], ?_⟩
    exact hx _ (List.of_mem_zip hp).1 _ (List.of_mem_zip hp).2)
  rw [this, List.zip, List.map_zipWith]
end
end Py
namespace Py
open PySem L2
section
variable {FT : Nat → Option FDef} {gl : Str → Option D}
/-- `run_f`, its first state given -/
theorem run_g {n f : Nat} {F : FDef} {ds : List D} {h : Hs} (σ : Sg) (hF : FT f = some F) (ht : F.tr = false) (hl : ds.length = F.np) (hσ : ds.map some ++ List.replicate (F.ns - ds.length) none = σ) :
    evF FT gl (n + 1) f ds h = (evSs (evF FT gl n) gl F.body σ h).bind fin := by
  rw [run_f hF ht hl, hσ]
theorem run_gl {n f : Nat} {F : FDef} {ds : List D} {h : Hs} (σ : Sg) (hF : FT f = some F) (ht : F.tr = true) (hl : ds.length = F.np) (hσ : ds.map some ++ List.replicate (F.ns - ds.length) none = σ) :
    evF FT gl (n + 1) f ds h = (evSs (evF FT gl n) gl F.body σ h).bind (finL h) := by
  rw [run_l hF ht hl, hσ]
end
end Py

set_option Elab.async false
set_option linter.all false
set_option maxRecDepth 100000
set_option maxHeartbeats 1000000
/-! Loops over things that may lie in a cell; turns that change one cell, the rest kept. -/
namespace Py
open PySem L2
section
variable {bind : D → Sg → Hs → Option (Sg × Hs)} {run : Sg → Hs → Option O} {all : List D} {src : Option Nat} {σ : Sg} {h : Hs}
theorem ls_nil (hs : ∀ c, src = some c → h[c]? = some all) : loopF bind run src all [] σ h = some (.nx σ h) := by simp only [loopF, if_pos hs]
theorem ls_cons {x : D} {xs : List D} {σ1 σ2 : Sg} {h1 h2 : Hs} (hs : ∀ c, src = some c → h[c]? = some all) (hb : bind x σ h = some (σ1, h1)) (hr : run σ1 h1 = some (.nx σ2 h2)) : loopF bind run src all (x :: xs) σ h = loopF bind run src all xs σ2 h2 := by
  simp only [loopF, if_pos hs, hb, hr, Option.bind_some]
end
section
variable {cond : Sg → Hs → Option (Bool × Hs)} {run : Sg → Hs → Option O} {σ : Sg} {h : Hs} {n : Nat}
theorem lw_end {h1 : Hs} (hc : cond σ h = some (false, h1)) : loopW cond run (n + 1) σ h = some (.nx σ h1) := by
  simp [loopW, hc]
theorem lw_go {h1 h2 : Hs} {σ' : Sg} (hc : cond σ h = some (true, h1)) (hr : run σ h1 = some (.nx σ' h2)) : loopW cond run (n + 1) σ h = loopW cond run n σ' h2 := by
  simp [loopW, hc, hr]
end
section
variable {cl : Nat → List D → Hs → Option (D × Hs)} {gl : Str → Option D} {σ : Sg} {h : Hs} {ce : E} {it : It}
section
variable {bind : D → Sg → Hs → Option (Sg × Hs)} {cond : Sg → Hs → Option (Bool × Hs)} {elt : Sg → Hs → Option (D × Hs)} {all : List D} {src : Option Nat}
theorem lcs_nil (hs : ∀ c, src = some c → h[c]? = some all) : loopC σ bind cond elt src all [] h = some ([], h) := by simp only [loopC, if_pos hs]
theorem lcs_yes {x d : D} {xs ds : List D} {σ1 : Sg} {h1 h2 h3 h4 : Hs} (hs : ∀ c, src = some c → h[c]? = some all) (hb : bind x σ h = some (σ1, h1)) (hc : cond σ1 h1 = some (true, h2)) (he : elt σ1 h2 = some (d, h3)) (hr : loopC σ bind cond elt src all xs h3 = some (ds, h4)) (hl : ds.length < lim) :
    loopC σ bind cond elt src all (x :: xs) h = some (d :: ds, h4) := by
  simp [loopC, if_pos hs, hb, hc, he, hr, hl]
theorem lcs_no {x : D} {xs ds : List D} {σ1 : Sg} {h1 h2 h4 : Hs} (hs : ∀ c, src = some c → h[c]? = some all) (hb : bind x σ h = some (σ1, h1)) (hc : cond σ1 h1 = some (false, h2)) (hr : loopC σ bind cond elt src all xs h2 = some (ds, h4)) :
    loopC σ bind cond elt src all (x :: xs) h = some (ds, h4) := by
  simp [loopC, if_pos hs, hb, hc, hr]
end
theorem e_cp {m : Bool} {t : Tg} {ifs : Eo} {own : List Nat} : evE cl gl (.cp m ce t it ifs own) σ h = (evIt cl gl it σ h).bind fun w =>
      (loopC (wipeD σ own) (fun d σ h => evTg cl gl t d σ h) (fun σ h => evC cl gl ifs σ h) (fun σ h => evE cl gl ce σ h) w.src w.xs w.xs w.h).bind fun p =>
        if m then some (.cel p.2.length, p.2 ++ [p.1]) else some (.lst p.1, p.2) := by simp only [evE]
theorem rng_ok {n : Int} (h0 : 0 ≤ n) (h1 : n ≤ lim) : -(2 ^ 62) ≤ n ∧ n < 2 ^ 62 := by unfold lim at h1; omega
theorem ei_rng1n {a : E} {n : Nat} {h' : Hs} (e : evE cl gl a σ h = some (.int n, h')) (hn : n ≤ lim) : evIt cl gl (.rng1 a) σ h = some ⟨rngL 0 n, none, h'⟩ := by
  have h1 := rng_ok (n := n) (by omega) (by omega)
  rw [ei_rng1, e, Option.bind_some]
  dsimp only
  rw [if_pos h1, Int.toNat_natCast]
theorem rngL_map (n : Nat) : rngL 0 n = (List.range n).map fun i => D.int (i : Nat) := by
  unfold rngL
  apply List.map_congr_left
  intro i _
  rw [Int.zero_add]
/-- over things of one kind, that may lie in a cell -/
theorem cp_ofs {α : Type} {t : Tg} {own : List Nat} {src : Option Nat} {xs : List α} {mk f : α → D} (hi : evIt cl gl it σ h = some ⟨xs.map mk, src, h⟩) (hs : ∀ c, src = some c → h[c]? = some (xs.map mk)) (hl : xs.length ≤ lim)
    (hx : ∀ x ∈ xs, ∃ σ', evTg cl gl t (mk x) (wipeD σ own) h = some (σ', h) ∧ evE cl gl ce σ' h = some (f x, h)) : evE cl gl (.cp false ce t it .none own) σ h = some (.lst (xs.map f), h) := by
  have core : ∀ (ys : List α) (all : List D), (∀ c, src = some c → h[c]? = some all) → (∀ x ∈ ys, ∃ σ', evTg cl gl t (mk x) (wipeD σ own) h = some (σ', h) ∧ evE cl gl ce σ' h = some (f x, h)) → ys.length ≤ lim →
      loopC (wipeD σ own) (fun d σ h => evTg cl gl t d σ h) (fun σ h => evC cl gl .none σ h) (fun σ h => evE cl gl ce σ h) src all (ys.map mk) h = some (ys.map f, h) := by
    intro ys all ha
    induction ys with
    | nil => intro _ _; exact lcs_nil ha
    | cons y ys ih =>
      intro hy hl
      obtain ⟨σ', e1, e2⟩ := hy y List.mem_cons_self
      have ih := ih (fun z hz => hy z (List.mem_cons_of_mem _ hz)) (by simp at hl; omega)
      have hl' : (ys.map f).length < lim := by simp at hl ⊢; omega
      exact lcs_yes ha e1 ec_none e2 ih hl'
  simp only [evE, hi, Option.bind_some, core xs _ hs hx hl, Bool.false_eq_true, if_false]
/-- .. filtered, nothing kept -/
theorem cp_nothing {α : Type} {ci : E} {t : Tg} {own : List Nat} {src : Option Nat} {xs : List α} {mk : α → D} (hi : evIt cl gl it σ h = some ⟨xs.map mk, src, h⟩) (hs : ∀ c, src = some c → h[c]? = some (xs.map mk))
    (hx : ∀ x ∈ xs, ∃ σ', evTg cl gl t (mk x) (wipeD σ own) h = some (σ', h) ∧ evE cl gl ci σ' h = some (.bl false, h)) : evE cl gl (.cp false ce t it (.some ci) own) σ h = some (.lst [], h) := by
  have core : ∀ (ys : List α) (all : List D), (∀ c, src = some c → h[c]? = some all) → (∀ x ∈ ys, ∃ σ', evTg cl gl t (mk x) (wipeD σ own) h = some (σ', h) ∧ evE cl gl ci σ' h = some (.bl false, h)) →
      loopC (wipeD σ own) (fun d σ h => evTg cl gl t d σ h) (fun σ h => evC cl gl (.some ci) σ h) (fun σ h => evE cl gl ce σ h) src all (ys.map mk) h = some ([], h) := by
    intro ys all ha
    induction ys with
    | nil => intro _; exact lcs_nil ha
    | cons y ys ih =>
      intro hy
      obtain ⟨σ', e1, e2⟩ := hy y List.mem_cons_self
      have ih := ih (fun z hz => hy z (List.mem_cons_of_mem _ hz))
      have ec : evC cl gl (.some ci) σ' h = some (false, h) := by rw [ec_some, e2]; rfl
      exact lcs_no ha e1 ec ih
  simp only [evE, hi, Option.bind_some, core xs _ hs hx, Bool.false_eq_true, if_false]
/-- .. filtered by a test on ints -/
theorem cp_keep {α : Type} {ci : E} {t : Tg} {own : List Nat} {src : Option Nat} {xs : List α} {mk f : α → D} {k : α → Bool} (hi : evIt cl gl it σ h = some ⟨xs.map mk, src, h⟩) (hs : ∀ c, src = some c → h[c]? = some (xs.map mk)) (hl : xs.length ≤ lim)
    (hx : ∀ x ∈ xs, ∃ σ', evTg cl gl t (mk x) (wipeD σ own) h = some (σ', h) ∧ evE cl gl ci σ' h = some (.bl (k x), h) ∧ (k x = true → evE cl gl ce σ' h = some (f x, h))) : evE cl gl (.cp false ce t it (.some ci) own) σ h = some (.lst ((xs.filter k).map f), h) := by
  have core : ∀ (ys : List α) (all : List D), (∀ c, src = some c → h[c]? = some all) → (∀ x ∈ ys, ∃ σ', evTg cl gl t (mk x) (wipeD σ own) h = some (σ', h) ∧ evE cl gl ci σ' h = some (.bl (k x), h) ∧ (k x = true → evE cl gl ce σ' h = some (f x, h))) → ys.length ≤ lim →
      loopC (wipeD σ own) (fun d σ h => evTg cl gl t d σ h) (fun σ h => evC cl gl (.some ci) σ h) (fun σ h => evE cl gl ce σ h) src all (ys.map mk) h = some ((ys.filter k).map f, h) := by
    intro ys all ha
    induction ys with
    | nil => intro _ _; exact lcs_nil ha
    | cons y ys ih =>
      intro hy hl
      obtain ⟨σ', e1, e2, e3⟩ := hy y List.mem_cons_self
      have ih := ih (fun z hz => hy z (List.mem_cons_of_mem _ hz)) (by simp at hl; omega)
      have ec : evC cl gl (.some ci) σ' h = some (k y, h) := by rw [ec_some, e2]; rfl
      have hl' : ((ys.filter k).map f).length < lim := by
        have : (ys.filter k).length ≤ ys.length := List.length_filter_le _ _
        simp at hl ⊢; omega
      cases hk : k y with
      | true =>
        rw [hk] at ec
        rw [List.filter_cons, hk, if_pos rfl, List.map_cons]
        exact lcs_yes ha e1 ec (e3 hk) ih hl'
      | false =>
        rw [hk] at ec
        rw [List.filter_cons, hk, if_neg (by decide)]
        exact lcs_no ha e1 ec ih
  simp only [evE, hi, Option.bind_some, core xs _ hs hx hl, Bool.false_eq_true, if_false]
/-- turns that change one cell, whose contents keep `Bx _ t`, `t` growing -/
theorem cp_cell {Bx : List D → Nat → Prop} {Q : D → Prop} {T c i : Nat} {t : Tg} {own : List Nat} {xs : List D} {mu : Bool} {B : List D} {t0 : Nat} (hi : evIt cl gl it σ (h.set i B) = some ⟨xs, none, h.set i B⟩) (hl : xs.length ≤ lim)
    (hx : ∀ x ∈ xs, ∀ B t1, Bx B t1 → t1 + c ≤ T → ∃ σ' d B', evTg cl gl t x (wipeD σ own) (h.set i B) = some (σ', h.set i B) ∧ evE cl gl ce σ' (h.set i B) = some (d, h.set i B') ∧ Q d ∧ Bx B' (t1 + c)) (hB : Bx B t0) (ht : t0 + c * xs.length ≤ T) :
    ∃ ds B', evE cl gl (.cp mu ce t it .none own) σ (h.set i B) = some (if mu then .cel h.length else .lst ds, if mu then h.set i B' ++ [ds] else h.set i B') ∧ ds.length = xs.length ∧ (∀ d ∈ ds, Q d) ∧ Bx B' (t0 + c * xs.length) := by
  have core : ∀ (ys all : List D) (B : List D) (t0 : Nat), (∀ x ∈ ys, x ∈ xs) → ys.length ≤ lim → Bx B t0 → t0 + c * ys.length ≤ T → ∃ ds B',
      loopC (wipeD σ own) (fun d σ h => evTg cl gl t d σ h) (fun σ h => evC cl gl .none σ h) (fun σ h => evE cl gl ce σ h) none all ys (h.set i B) = some (ds, h.set i B') ∧ ds.length = ys.length ∧ (∀ d ∈ ds, Q d) ∧ Bx B' (t0 + c * ys.length) := by
    intro ys all
    induction ys with
    | nil => intro B t0 _ _ hB _; exact ⟨[], B, lc_nil, rfl, by simp, by simpa using hB⟩
    | cons y ys ih =>
      intro B t0 hy hl hB ht
      have hm : t0 + c + c * ys.length = t0 + c * (y :: ys).length := by simp [Nat.mul_add]; omega
      obtain ⟨σ', d, B1, e1, e2, q1, b1⟩ := hx y (hy y List.mem_cons_self) B t0 hB (by have := Nat.le_add_right (t0 + c) (c * ys.length); omega)
      obtain ⟨ds, B2, e3, l3, q3, b3⟩ := ih B1 (t0 + c) (fun z hz => hy z (List.mem_cons_of_mem _ hz)) (by simp at hl; omega) b1 (by omega)
      refine ⟨d :: ds, B2, lc_yes e1 ec_none e2 e3 (by simp at hl; omega), by simp [l3], ?_, by rw [← hm]; exact b3⟩
      intro z hz
      rcases List.mem_cons.mp hz with rfl | hz
      · exact q1
      · exact q3 z hz
  obtain ⟨ds, B', e, l, q, b⟩ := core xs xs B t0 (fun _ h => h) hl hB ht
  refine ⟨ds, B', ?_, l, q, b⟩
  rw [e_cp, hi, Option.bind_some]
  show ((loopC _ _ _ _ none xs xs (h.set i B)).bind _) = _
  rw [e, Option.bind_some]
  cases mu <;> simp
end
/-! cells -/
theorem set_get {h : Hs} {i : Nat} (hi : i < h.length) (B : List D) : (h.set i B)[i]? = some B := by simp [hi]
theorem set_set {h : Hs} {i : Nat} (B B' : List D) : (h.set i B).set i B' = h.set i B' := by simp
theorem get_set {h : Hs} {i : Nat} {B : List D} (hb : h[i]? = some B) : h.set i B = h := by
  obtain ⟨hi, rfl⟩ := List.getElem?_eq_some_iff.mp hb
  exact List.set_getElem_self hi
/-- behind a def that changed the cell i, and has cells of its own -/
theorem leave_ok' {h0 own : Hs} {i : Nat} {B : List D} {d : D} (hB : cleans h0.length B = true) (hd : clean h0.length d = true) (hn : ∀ c, d ≠ .cel c) : leave h0 d (h0.set i B ++ own) = some (d, h0.set i B) := by
  have h1 : ∀ j, j < h0.length → (h0.set i B ++ own)[j]? = h0[j]? ∨ ∃ ds, (h0.set i B ++ own)[j]? = some ds ∧ cleans h0.length ds = true := by
    intro j hj
    rw [List.getElem?_append_left (by simpa using hj)]
    by_cases e : i = j
    · subst e
      exact .inr ⟨B, by simp [hj], hB⟩
    · exact .inl (by rw [List.getElem?_set_ne e])
  have h2 : (h0.set i B ++ own).take h0.length = h0.set i B := by
    rw [List.take_append_of_le_length (by simp)]
    exact List.take_of_length_le (by simp)
  unfold leave
  rw [if_pos h1]
  cases d with
  | cel c => exact absurd rfl (hn c)
  | _ => simp only [hd, h2, if_true]
end Py

set_option Elab.async false
set_option linter.all false
set_option maxRecDepth 100000
set_option maxHeartbeats 4000000
/-! The program of the law, in the small language (printed by wip/gen.py). -/
namespace K03
open PySem PySem.Spec PyProof.Rows L2 Py
abbrev f__law_box : Nat := 0
abbrev f__law_cell : Nat := 1
abbrev f__law_take : Nat := 2
abbrev f__law_factor : Nat := 3
abbrev f__law_side : Nat := 4
abbrev f__law_drawn_side : Nat := 5
abbrev f__law_point : Nat := 6
abbrev f__law_any_point : Nat := 7
abbrev f__law_same : Nat := 8
abbrev f__law_low : Nat := 9
abbrev f__law_plus : Nat := 10
abbrev f__law_less : Nat := 11
abbrev f__law_times : Nat := 12
abbrev f_is_tuple : Nat := 13
abbrev f_is_integer : Nat := 14
abbrev f_are_integers : Nat := 15
abbrev f_shared_factor : Nat := 16
abbrev f_is_side_of : Nat := 17
abbrev f_is_side : Nat := 18
abbrev f_check_side : Nat := 19
abbrev f_is_of_size : Nat := 20
abbrev f_check_like : Nat := 21
abbrev f_size_of : Nat := 22
abbrev f_check_both : Nat := 23
abbrev f_lowest : Nat := 24
abbrev f_excess_of : Nat := 25
abbrev f_excess : Nat := 26
abbrev f__law_share : Nat := 27
abbrev f_sign_of : Nat := 28
abbrev f_standing : Nat := 29
abbrev f_is_point : Nat := 30
abbrev f_check_point : Nat := 31
abbrev f_check_two : Nat := 32
abbrev f_point_from : Nat := 33
abbrev f_mixed : Nat := 34
abbrev f_is_fraction : Nat := 35
abbrev f_compared : Nat := 36
abbrev f_between : Nat := 37
abbrev f__law_sign : Nat := 38
abbrev f__law_over : Nat := 39
abbrev f_turned_side : Nat := 40
abbrev f_opposite : Nat := 41
abbrev f__law_at : Nat := 42
abbrev f__law_places : Nat := 43
abbrev f__law_mix : Nat := 44
abbrev f__law_way_right : Nat := 45
abbrev f_push_from : Nat := 46
abbrev f_push_between : Nat := 47
abbrev f_added : Nat := 48
abbrev f_moved : Nat := 49
abbrev f_check_fraction : Nat := 50
abbrev f_stretched : Nat := 51
abbrev f_scaled : Nat := 52
abbrev f_places_in : Nat := 53
abbrev f_places_of : Nat := 54
abbrev f_from_places : Nat := 55
abbrev f_point_at : Nat := 56
abbrev f_middle : Nat := 57
abbrev f__law_pushed_right : Nat := 58
abbrev f__law_parts_right : Nat := 59
abbrev f_side_from : Nat := 60
abbrev f_side_of : Nat := 61
abbrev f_law : Nat := 62
def b__law_box : Ss := (.cons (.ret (.lst true (.cons (.bt .abs (.cons (.var 0) .nil)) (.cons (.cmp .ge (.bt .abs (.cons (.var 0) .nil)) (.op .pow (.int 10) (.int 18))) (.cons (.op .mod (.bt .int (.cons (.bt .abs (.cons (.var 0) .nil)) .nil)) (.int 2147483629)) (.cons (.int 0) .nil)))))) .nil)
def b__law_cell : Ss := (.cons (.ret (.ife (.cmp .lt (.var 1) (.bt .len (.cons (.var 0) .nil))) (.ix (.var 0) (.var 1)) (.op .add (.op .mul (.int 6229) (.var 1)) (.op .mod (.bt .int (.cons (.bt .sum (.cons (.sl (.var 0) .none (.some (.int 1))) .nil)) .nil)) (.int 1000037))))) .nil)
def b__law_take : Ss := (.cons (.ite (.bop true (.cons (.ix (.var 0) (.int 1)) (.cons (.cmp .gt (.ix (.var 0) (.int 0)) (.int 0)) .nil))) (.cons (.asg (.name 2) (.op .mod (.bt .int (.cons (.ix (.var 0) (.int 0)) .nil)) (.var 1))) (.cons (.asg (.sub (.var 0) (.int 0)) (.op .fdiv (.ix (.var 0) (.int 0)) (.var 1))) (.cons (.ret (.var 2)) .nil))) .nil) (.cons (.asg (.sub (.var 0) (.int 3)) (.op .add (.ix (.var 0) (.int 3)) (.int 1))) (.cons (.asg (.name 3) (.op .mod (.bt .int (.cons (.op .pow (.op .add (.op .add (.ix (.var 0) (.int 2)) (.op .mul (.int 15486209) (.ix (.var 0) (.int 3)))) (.int 179425049)) (.int 5)) .nil)) (.int 2147483647))) (.cons (.ret (.op .mod (.bt .int (.cons (.op .fdiv (.op .mod (.bt .int (.cons (.op .pow (.op .add (.op .mul (.var 3) (.int 48271)) (.op .mul (.int 104833) (.ix (.var 0) (.int 3)))) (.int 3)) .nil)) (.int 2147483587)) (.int 64)) .nil)) (.var 1))) .nil))))
def b__law_factor : Ss := (.cons (.asg (.name 1) (.int 0)) (.cons (.for_ (.name 2) (.seq (.var 0)) (.cons (.par 3 4 (.var 1) (.bt .abs (.cons (.var 2) .nil))) (.cons (.whl (.cmp .gt (.var 4) (.int 0)) (.cons (.par 3 4 (.var 4) (.op .mod (.bt .int (.cons (.var 3) .nil)) (.var 4))) .nil)) (.cons (.asg (.name 1) (.var 3)) .nil)))) (.cons (.ret (.var 1)) .nil)))
def b__law_side : Ss := (.cons (.asg (.name 1) (.cl f__law_factor (.cons (.var 0) .nil))) (.cons (.ret (.bt .tuple (.cons (.cp false (.op .fdiv (.var 2) (.var 1)) (.name 2) (.seq (.var 0)) .none [2]) .nil))) .nil))
def b__law_drawn_side : Ss := (.cons (.asg (.name 2) (.cp true (.op .sub (.cl f__law_take (.cons (.var 0) (.cons (.int 11) .nil))) (.int 5)) (.name 5) (.rng1 (.op .add (.var 1) (.int 1))) .none [5])) (.cons (.asg (.name 3) (.cl f__law_take (.cons (.var 0) (.cons (.var 1) .nil)))) (.cons (.asg (.sub (.var 2) (.var 3)) (.ife (.cmp .ne (.cp false (.var 6) (.name 6) (.seq (.sl (.var 2) .none (.some (.neg (.int 1))))) (.some (.cmp .ne (.var 6) (.int 0))) [6]) (.lst false .nil)) (.ix (.var 2) (.var 3)) (.op .add (.int 1) (.cl f__law_take (.cons (.var 0) (.cons (.int 4) .nil)))))) (.cons (.asg (.name 4) (.ix (.lst false (.cons (.int 1) (.cons (.int 1) (.cons (.int 2) (.cons (.int 3) (.cons (.int 6) .nil)))))) (.cl f__law_take (.cons (.var 0) (.cons (.int 5) .nil))))) (.cons (.ret (.lst false (.cons (.bt .tuple (.cons (.cp false (.op .mul (.var 4) (.var 6)) (.name 6) (.seq (.var 2)) .none [6]) .nil)) (.cons (.cl f__law_side (.cons (.var 2) .nil)) .nil)))) .nil)))))
def b__law_point : Ss := (.cons (.asg (.name 1) (.op .mul (.cl f__law_factor (.cons (.var 0) .nil)) (.ife (.cmp .gt (.ix (.var 0) (.neg (.int 1))) (.int 0)) (.int 1) (.neg (.int 1))))) (.cons (.ret (.bt .tuple (.cons (.cp false (.op .fdiv (.var 2) (.var 1)) (.name 2) (.seq (.var 0)) .none [2]) .nil))) .nil))
def b__law_any_point : Ss := (.cons (.asg (.name 4) (.ife (.var 3) (.int 1) (.ix (.lst false (.cons (.int 1) (.cons (.int 1) (.cons (.int 2) (.cons (.int 3) .nil))))) (.cl f__law_take (.cons (.var 0) (.cons (.int 4) .nil)))))) (.cons (.ret (.cl f__law_point (.cons (.op .add (.cp false (.op .sub (.cl f__law_take (.cons (.var 0) (.cons (.op .add (.op .mul (.op .mul (.int 2) (.var 2)) (.var 4)) (.int 1)) .nil))) (.op .mul (.var 2) (.var 4))) (.name 5) (.rng1 (.var 1)) .none [5]) (.lst false (.cons (.var 4) .nil))) .nil))) .nil))
def b__law_same : Ss := (.cons (.ite (.bop false (.cons (.cmp .is_ (.var 1) .non) (.cons (.bt .isi (.cons (.var 1) (.cons (.ty "bool") .nil))) .nil))) (.cons (.ret (.ife (.cmp .is_ (.var 1) .non) (.cmp .is_ (.var 0) .non) (.bop true (.cons (.bt .isi (.cons (.var 0) (.cons (.ty "bool") .nil))) (.cons (.cmp .eq (.cmp .is_ (.var 0) (.bl true)) (.cmp .is_ (.var 1) (.bl true))) .nil))))) .nil) .nil) (.cons (.ite (.bt .isi (.cons (.var 1) (.cons (.ty "int") .nil))) (.cons (.ret (.bop true (.cons (.bt .isi (.cons (.var 0) (.cons (.ty "int") .nil))) (.cons (.not (.bt .isi (.cons (.var 0) (.cons (.ty "bool") .nil)))) (.cons (.cmp .eq (.op .sub (.bt .int (.cons (.var 0) .nil)) (.var 1)) (.int 0)) .nil))))) .nil) .nil) (.cons (.ite (.bt .isi (.cons (.var 1) (.cons (.ty "str") .nil))) (.cons (.ret (.bop true (.cons (.bt .isi (.cons (.var 0) (.cons (.ty "str") .nil))) (.cons (.cmp .eq (.var 0) (.var 1)) .nil)))) .nil) .nil) (.cons (.ite (.bt .isi (.cons (.var 1) (.cons (.ty "dict") .nil))) (.cons (.ite (.bop false (.cons (.not (.bt .isi (.cons (.var 0) (.cons (.ty "dict") .nil)))) (.cons (.cmp .ne (.bt .len (.cons (.var 0) .nil)) (.bt .len (.cons (.var 1) .nil))) .nil))) (.cons (.ret (.bl false)) .nil) .nil) (.cons (.ret (.cmp .eq (.cp false (.var 3) (.name 3) (.seq (.var 1)) (.some (.bop false (.cons (.cmp .nin (.var 3) (.var 0)) (.cons (.not (.cl f__law_same (.cons (.ix (.var 0) (.var 3)) (.cons (.ix (.var 1) (.var 3)) .nil)))) .nil)))) [3]) (.lst false .nil))) .nil)) .nil) (.cons (.ite (.bop false (.cons (.not (.bt .isi (.cons (.var 1) (.cons (.tup (.cons (.ty "list") (.cons (.ty "tuple") .nil))) .nil)))) (.cons (.not (.bt .isi (.cons (.var 0) (.cons (.tup (.cons (.ty "list") (.cons (.ty "tuple") .nil))) .nil)))) .nil))) (.cons (.ret (.bl false)) .nil) .nil) (.cons (.ite (.bop false (.cons (.cmp .ne (.bt .isi (.cons (.var 0) (.cons (.ty "list") .nil))) (.bt .isi (.cons (.var 1) (.cons (.ty "list") .nil)))) (.cons (.cmp .ne (.bt .len (.cons (.var 0) .nil)) (.bt .len (.cons (.var 1) .nil))) .nil))) (.cons (.ret (.bl false)) .nil) .nil) (.cons (.ret (.cmp .eq (.cp false (.var 2) (.name 2) (.rng1 (.bt .len (.cons (.var 1) .nil))) (.some (.not (.cl f__law_same (.cons (.ix (.var 0) (.var 2)) (.cons (.ix (.var 1) (.var 2)) .nil))))) [2]) (.lst false .nil))) .nil)))))))
def b__law_low : Ss := (.cons (.asg (.name 2) (.op .mul (.cl f__law_factor (.cons (.lst false (.cons (.var 0) (.cons (.var 1) .nil))) .nil)) (.ife (.cmp .gt (.var 1) (.int 0)) (.int 1) (.neg (.int 1))))) (.cons (.ret (.tup (.cons (.op .fdiv (.var 0) (.var 2)) (.cons (.op .fdiv (.var 1) (.var 2)) .nil)))) .nil))
def b__law_plus : Ss := (.cons (.ret (.cl f__law_low (.cons (.op .add (.op .mul (.ix (.var 0) (.int 0)) (.ix (.var 1) (.int 1))) (.op .mul (.ix (.var 1) (.int 0)) (.ix (.var 0) (.int 1)))) (.cons (.op .mul (.ix (.var 0) (.int 1)) (.ix (.var 1) (.int 1))) .nil)))) .nil)
def b__law_less : Ss := (.cons (.ret (.cl f__law_plus (.cons (.var 0) (.cons (.tup (.cons (.op .sub (.int 0) (.ix (.var 1) (.int 0))) (.cons (.ix (.var 1) (.int 1)) .nil))) .nil)))) .nil)
def b__law_times : Ss := (.cons (.ret (.cl f__law_low (.cons (.op .mul (.ix (.var 0) (.int 0)) (.ix (.var 1) (.int 0))) (.cons (.op .mul (.ix (.var 0) (.int 1)) (.ix (.var 1) (.int 1))) .nil)))) .nil)
def b_is_tuple : Ss := (.cons (.ret (.bop true (.cons (.bt .isi (.cons (.var 0) (.cons (.ty "tuple") .nil))) (.cons (.cmp .eq (.bt .len (.cons (.var 0) .nil)) (.var 1)) .nil)))) .nil)
def b_is_integer : Ss := (.cons (.ret (.bop true (.cons (.bt .isi (.cons (.var 0) (.cons (.ty "int") .nil))) (.cons (.not (.bt .isi (.cons (.var 0) (.cons (.ty "bool") .nil)))) .nil)))) .nil)
def b_are_integers : Ss := (.cons (.ret (.bop true (.cons (.cl f_is_tuple (.cons (.var 0) (.cons (.var 1) .nil))) (.cons (.bt .all (.cons (.cp false (.cl f_is_integer (.cons (.var 2) .nil)) (.name 2) (.seq (.var 0)) .none [2]) .nil)) .nil)))) .nil)
def b_shared_factor : Ss := (.cons (.asg (.name 1) (.int 0)) (.cons (.for_ (.name 2) (.seq (.var 0)) (.cons (.asg (.name 1) (.bt .gcd (.cons (.var 1) (.cons (.var 2) .nil)))) .nil)) (.cons (.ret (.var 1)) .nil)))
def b_is_side_of : Ss := (.cons (.ite (.bop false (.cons (.not (.cl f_are_integers (.cons (.var 0) (.cons (.op .add (.var 1) (.int 1)) .nil)))) (.cons (.cmp .ne (.cl f_shared_factor (.cons (.var 0) .nil)) (.int 1)) .nil))) (.cons (.ret (.bl false)) .nil) .nil) (.cons (.ret (.bt .any (.cons (.cp false (.cmp .ne (.var 2) (.int 0)) (.name 2) (.seq (.sl (.var 0) .none (.some (.neg (.int 1))))) .none [2]) .nil))) .nil))
def b_is_side : Ss := (.cons (.ret (.bop false (.cons (.cl f_is_side_of (.cons (.var 0) (.cons (.int 2) .nil))) (.cons (.cl f_is_side_of (.cons (.var 0) (.cons (.int 3) .nil))) .nil)))) .nil)
def b_check_side : Ss := (.cons (.ite (.not (.cl f_is_side (.cons (.var 0) .nil))) (.cons .never .nil) .nil) .nil)
def b_is_of_size : Ss := (.cons (.ret (.bop true (.cons (.cl f_are_integers (.cons (.var 0) (.cons (.op .add (.var 1) (.int 1)) .nil))) (.cons (.cmp .gt (.ix (.var 0) (.neg (.int 1))) (.int 0)) (.cons (.cmp .eq (.cl f_shared_factor (.cons (.var 0) .nil)) (.int 1)) .nil))))) .nil)
def b_check_like : Ss := (.cons (.ite (.not (.cl f_is_of_size (.cons (.var 0) (.cons (.var 1) .nil)))) (.cons .never .nil) .nil) .nil)
def b_size_of : Ss := (.cons (.ret (.op .sub (.bt .len (.cons (.var 0) .nil)) (.int 1))) .nil)
def b_check_both : Ss := (.cons (.ex (.cl f_check_side (.cons (.var 0) .nil))) (.cons (.ex (.cl f_check_like (.cons (.var 1) (.cons (.cl f_size_of (.cons (.var 0) .nil)) .nil)))) .nil))
def b_lowest : Ss := (.cons (.asg (.name 2) (.bt .gcd (.cons (.var 0) (.cons (.var 1) .nil)))) (.cons (.ite (.cmp .lt (.var 1) (.int 0)) (.cons (.asg (.name 2) (.op .sub (.int 0) (.var 2))) .nil) .nil) (.cons (.ret (.tup (.cons (.op .fdiv (.var 0) (.var 2)) (.cons (.op .fdiv (.var 1) (.var 2)) .nil)))) .nil)))
def b_excess_of : Ss := (.cons (.ret (.op .sub (.bt .sum (.cons (.cp false (.op .mul (.var 2) (.var 3)) (.tup (.cons (.name 2) (.cons (.name 3) .nil))) (.zip (.sl (.var 0) .none (.some (.neg (.int 1)))) (.sl (.var 1) .none (.some (.neg (.int 1))))) .none [2, 3]) .nil)) (.op .mul (.ix (.var 0) (.neg (.int 1))) (.ix (.var 1) (.neg (.int 1)))))) .nil)
def b_excess : Ss := (.cons (.ex (.cl f_check_both (.cons (.var 0) (.cons (.var 1) .nil)))) (.cons (.ret (.cl f_lowest (.cons (.cl f_excess_of (.cons (.var 0) (.cons (.var 1) .nil))) (.cons (.ix (.var 1) (.neg (.int 1))) .nil)))) .nil))
def b__law_share : Ss := (.cons (.asg (.name 1) (.op .add (.int 1) (.cl f__law_take (.cons (.var 0) (.cons (.int 9) .nil))))) (.cons (.ret (.cl f__law_low (.cons (.cl f__law_take (.cons (.var 0) (.cons (.op .add (.var 1) (.int 1)) .nil))) (.cons (.var 1) .nil)))) .nil))
def b_sign_of : Ss := (.cons (.ret (.op .sub (.bt .int (.cons (.cmp .gt (.var 0) (.int 0)) .nil)) (.bt .int (.cons (.cmp .lt (.var 0) (.int 0)) .nil)))) .nil)
def b_standing : Ss := (.cons (.ex (.cl f_check_both (.cons (.var 0) (.cons (.var 1) .nil)))) (.cons (.ret (.cl f_sign_of (.cons (.cl f_excess_of (.cons (.var 0) (.cons (.var 1) .nil))) .nil))) .nil))
def b_is_point : Ss := (.cons (.ret (.bop false (.cons (.cl f_is_of_size (.cons (.var 0) (.cons (.int 2) .nil))) (.cons (.cl f_is_of_size (.cons (.var 0) (.cons (.int 3) .nil))) .nil)))) .nil)
def b_check_point : Ss := (.cons (.ite (.not (.cl f_is_point (.cons (.var 0) .nil))) (.cons .never .nil) .nil) .nil)
def b_check_two : Ss := (.cons (.ex (.cl f_check_point (.cons (.var 0) .nil))) (.cons (.ex (.cl f_check_like (.cons (.var 1) (.cons (.cl f_size_of (.cons (.var 0) .nil)) .nil)))) .nil))
def b_point_from : Ss := (.cons (.asg (.name 1) (.cl f_shared_factor (.cons (.var 0) .nil))) (.cons (.ite (.cmp .lt (.ix (.var 0) (.neg (.int 1))) (.int 0)) (.cons (.asg (.name 1) (.op .sub (.int 0) (.var 1))) .nil) .nil) (.cons (.ret (.bt .tuple (.cons (.cp false (.op .fdiv (.var 2) (.var 1)) (.name 2) (.seq (.var 0)) .none [2]) .nil))) .nil)))
def b_mixed : Ss := (.cons (.asg (.tup (.cons (.name 3) (.cons (.name 4) .nil))) (.var 2)) (.cons (.asg (.tup (.cons (.name 5) (.cons (.name 6) .nil))) (.tup (.cons (.op .mul (.ix (.var 1) (.neg (.int 1))) (.op .sub (.var 4) (.var 3))) (.cons (.op .mul (.ix (.var 0) (.neg (.int 1))) (.var 3)) .nil)))) (.cons (.asg (.name 7) (.cp false (.op .add (.op .mul (.var 5) (.var 8)) (.op .mul (.var 6) (.var 9))) (.tup (.cons (.name 8) (.cons (.name 9) .nil))) (.zip (.sl (.var 0) .none (.some (.neg (.int 1)))) (.sl (.var 1) .none (.some (.neg (.int 1))))) .none [8, 9])) (.cons (.ret (.cl f_point_from (.cons (.op .add (.var 7) (.lst false (.cons (.op .mul (.op .mul (.ix (.var 0) (.neg (.int 1))) (.ix (.var 1) (.neg (.int 1)))) (.var 4)) .nil))) .nil))) .nil))))
def b_is_fraction : Ss := (.cons (.ret (.bop true (.cons (.cl f_are_integers (.cons (.var 0) (.cons (.int 2) .nil))) (.cons (.cmp .gt (.ix (.var 0) (.int 1)) (.int 0)) (.cons (.cmp .eq (.bt .gcd (.cons (.ix (.var 0) (.int 0)) (.cons (.ix (.var 0) (.int 1)) .nil))) (.int 1)) .nil))))) .nil)
def b_compared : Ss := (.cons (.ret (.cl f_sign_of (.cons (.op .sub (.op .mul (.ix (.var 0) (.int 0)) (.ix (.var 1) (.int 1))) (.op .mul (.ix (.var 1) (.int 0)) (.ix (.var 0) (.int 1)))) .nil))) .nil)
def b_between : Ss := (.cons (.ex (.cl f_check_two (.cons (.var 0) (.cons (.var 1) .nil)))) (.cons (.ite (.bop false (.cons (.not (.cl f_is_fraction (.cons (.var 2) .nil))) (.cons (.cmp .lt (.cl f_compared (.cons (.var 2) (.cons (.glob "ZERO") .nil))) (.int 0)) (.cons (.cmp .gt (.cl f_compared (.cons (.var 2) (.cons (.glob "ONE") .nil))) (.int 0)) .nil)))) (.cons .never .nil) .nil) (.cons (.ret (.cl f_mixed (.cons (.var 0) (.cons (.var 1) (.cons (.var 2) .nil))))) .nil)))
def b__law_sign : Ss := (.cons (.ret (.ife (.cmp .gt (.ix (.var 0) (.int 0)) (.int 0)) (.int 1) (.ife (.cmp .lt (.ix (.var 0) (.int 0)) (.int 0)) (.neg (.int 1)) (.int 0)))) .nil)
def b__law_over : Ss := (.cons (.ret (.cl f__law_low (.cons (.op .sub (.bt .sum (.cons (.cp false (.op .mul (.ix (.var 0) (.var 2)) (.ix (.var 1) (.var 2))) (.name 2) (.rng1 (.op .sub (.bt .len (.cons (.var 1) .nil)) (.int 1))) .none [2]) .nil)) (.op .mul (.ix (.var 0) (.neg (.int 1))) (.ix (.var 1) (.neg (.int 1))))) (.cons (.ix (.var 1) (.neg (.int 1))) .nil)))) .nil)
def b_turned_side : Ss := (.cons (.ret (.bt .tuple (.cons (.cp false (.op .sub (.int 0) (.var 1)) (.name 1) (.seq (.var 0)) .none [1]) .nil))) .nil)
def b_opposite : Ss := (.cons (.ex (.cl f_check_side (.cons (.var 0) .nil))) (.cons (.ret (.cl f_turned_side (.cons (.var 0) .nil))) .nil))
def b__law_at : Ss := (.cons (.asg (.name 1) (.int 1)) (.cons (.for_ (.tup (.cons (.name 2) (.cons (.name 3) .nil))) (.seq (.var 0)) (.cons (.asg (.name 1) (.op .mul (.op .fdiv (.var 1) (.cl f__law_factor (.cons (.lst false (.cons (.var 1) (.cons (.var 3) .nil))) .nil))) (.var 3))) .nil)) (.cons (.ret (.cl f__law_point (.cons (.op .add (.cp false (.op .mul (.var 2) (.op .fdiv (.var 1) (.var 3))) (.tup (.cons (.name 2) (.cons (.name 3) .nil))) (.seq (.var 0)) .none [2, 3]) (.lst false (.cons (.var 1) .nil))) .nil))) .nil)))
def b__law_places : Ss := (.cons (.ret (.bt .tuple (.cons (.cp false (.cl f__law_low (.cons (.var 1) (.cons (.ix (.var 0) (.neg (.int 1))) .nil))) (.name 1) (.seq (.sl (.var 0) .none (.some (.neg (.int 1))))) .none [1]) .nil))) .nil)
def b__law_mix : Ss := (.cons (.asg (.name 3) (.lst true .nil)) (.cons (.for_ (.tup (.cons (.name 4) (.cons (.name 5) .nil))) (.zip (.cl f__law_places (.cons (.var 0) .nil)) (.cl f__law_places (.cons (.var 1) .nil))) (.cons (.ex (.mt .append (.var 3) (.cons (.cl f__law_plus (.cons (.var 4) (.cons (.cl f__law_times (.cons (.var 2) (.cons (.cl f__law_less (.cons (.var 5) (.cons (.var 4) .nil))) .nil))) .nil))) .nil))) .nil)) (.cons (.ret (.cl f__law_at (.cons (.var 3) .nil))) .nil)))
def b__law_way_right : Ss := (.cons (.asg (.name 6) (.lst false (.cons (.cl f_excess (.cons (.var 2) (.cons (.var 3) .nil))) (.cons (.ck f_excess .nil (.cons (.var 4) (.cons (.var 2) .nil)) [1, 0]) .nil)))) (.cons (.ite (.not (.cl f__law_same (.cons (.var 6) (.cons (.lst false (.cons (.cl f__law_over (.cons (.var 2) (.cons (.var 3) .nil))) (.cons (.cl f__law_over (.cons (.var 2) (.cons (.var 4) .nil))) .nil))) .nil)))) (.cons (.ret (.bl false)) .nil) .nil) (.cons (.for_ (.name 7) (.seq (.lst false (.cons (.cl f__law_share (.cons (.var 0) .nil)) (.cons (.cl f__law_share (.cons (.var 0) .nil)) (.cons (.tup (.cons (.int 0) (.cons (.int 1) .nil))) (.cons (.tup (.cons (.int 1) (.cons (.int 1) .nil))) .nil)))))) (.cons (.asg (.name 8) (.ife (.var 5) (.ck f_between .nil (.cons (.var 7) (.cons (.var 4) (.cons (.var 3) .nil))) [2, 1, 0]) (.cl f_between (.cons (.var 3) (.cons (.var 4) (.cons (.var 7) .nil)))))) (.cons (.asg (.name 9) (.cl f__law_plus (.cons (.ix (.var 6) (.int 0)) (.cons (.cl f__law_times (.cons (.var 7) (.cons (.cl f__law_less (.cons (.ix (.var 6) (.int 1)) (.cons (.ix (.var 6) (.int 0)) .nil))) .nil))) .nil)))) (.cons (.asg (.name 10) (.lst false (.cons (.ck f_excess .nil (.cons (.var 8) (.cons (.var 2) .nil)) [1, 0]) (.cons (.cl f_standing (.cons (.var 2) (.cons (.var 8) .nil))) (.cons (.cl f_excess (.cons (.cl f_opposite (.cons (.var 2) .nil)) (.cons (.var 8) .nil))) .nil))))) (.cons (.ite (.bop false (.cons (.not (.cl f__law_same (.cons (.var 10) (.cons (.lst false (.cons (.var 9) (.cons (.cl f__law_sign (.cons (.var 9) .nil)) (.cons (.tup (.cons (.op .sub (.int 0) (.ix (.var 9) (.int 0))) (.cons (.ix (.var 9) (.int 1)) .nil))) .nil)))) .nil)))) (.cons (.not (.cl f__law_same (.cons (.var 8) (.cons (.cl f__law_mix (.cons (.var 3) (.cons (.var 4) (.cons (.var 7) .nil)))) .nil)))) .nil))) (.cons (.ret (.bl false)) .nil) .nil) (.cons (.ite (.not (.cl f__law_same (.cons (.cl f_between (.cons (.var 4) (.cons (.var 3) (.cons (.cl f__law_less (.cons (.tup (.cons (.int 1) (.cons (.int 1) .nil))) (.cons (.var 7) .nil))) .nil)))) (.cons (.var 8) .nil)))) (.cons (.ret (.bl false)) .nil) .nil) (.cons (.asg (.name 5) (.not (.var 5))) .nil))))))) (.cons (.ite (.cmp .ge (.op .mul (.cl f__law_sign (.cons (.ix (.var 6) (.int 0)) .nil)) (.cl f__law_sign (.cons (.ix (.var 6) (.int 1)) .nil))) (.int 0)) (.cons (.ret (.bl true)) .nil) .nil) (.cons (.asg (.name 11) (.cl f__law_less (.cons (.ix (.var 6) (.int 0)) (.cons (.ix (.var 6) (.int 1)) .nil)))) (.cons (.asg (.name 12) (.cl f__law_times (.cons (.ix (.var 6) (.int 0)) (.cons (.ife (.cmp .gt (.ix (.var 11) (.int 0)) (.int 0)) (.tup (.cons (.ix (.var 11) (.int 1)) (.cons (.ix (.var 11) (.int 0)) .nil))) (.tup (.cons (.op .sub (.int 0) (.ix (.var 11) (.int 1))) (.cons (.op .sub (.int 0) (.ix (.var 11) (.int 0))) .nil)))) .nil)))) (.cons (.par 13 14 (.cl f__law_times (.cons (.var 12) (.cons (.tup (.cons (.int 2) (.cons (.int 3) .nil))) .nil))) (.cl f__law_plus (.cons (.var 12) (.cons (.cl f__law_times (.cons (.tup (.cons (.int 1) (.cons (.int 3) .nil))) (.cons (.cl f__law_less (.cons (.tup (.cons (.int 1) (.cons (.int 1) .nil))) (.cons (.var 12) .nil))) .nil))) .nil)))) (.cons (.asg (.name 10) (.cp false (.cl f_standing (.cons (.var 2) (.cons (.cl f_between (.cons (.var 3) (.cons (.var 4) (.cons (.var 7) .nil)))) .nil))) (.name 7) (.seq (.tup (.cons (.var 13) (.cons (.var 12) (.cons (.var 14) .nil))))) .none [7])) (.cons (.ret (.cl f__law_same (.cons (.var 10) (.cons (.lst false (.cons (.cl f__law_sign (.cons (.ix (.var 6) (.int 0)) .nil)) (.cons (.int 0) (.cons (.cl f__law_sign (.cons (.ix (.var 6) (.int 1)) .nil)) .nil)))) .nil)))) .nil)))))))))
def b_push_from : Ss := (.cons (.asg (.name 2) (.cp false (.op .sub (.op .mul (.var 4) (.ix (.var 0) (.neg (.int 1)))) (.op .mul (.var 3) (.ix (.var 1) (.neg (.int 1))))) (.tup (.cons (.name 3) (.cons (.name 4) .nil))) (.zip (.sl (.var 0) .none (.some (.neg (.int 1)))) (.sl (.var 1) .none (.some (.neg (.int 1))))) .none [3, 4])) (.cons (.ret (.cl f_point_from (.cons (.op .add (.var 2) (.lst false (.cons (.op .mul (.ix (.var 0) (.neg (.int 1))) (.ix (.var 1) (.neg (.int 1)))) .nil))) .nil))) .nil))
def b_push_between : Ss := (.cons (.ex (.cl f_check_two (.cons (.var 0) (.cons (.var 1) .nil)))) (.cons (.ret (.cl f_push_from (.cons (.var 0) (.cons (.var 1) .nil)))) .nil))
def b_added : Ss := (.cons (.asg (.name 2) (.cp false (.op .add (.op .mul (.var 3) (.ix (.var 1) (.neg (.int 1)))) (.op .mul (.var 4) (.ix (.var 0) (.neg (.int 1))))) (.tup (.cons (.name 3) (.cons (.name 4) .nil))) (.zip (.sl (.var 0) .none (.some (.neg (.int 1)))) (.sl (.var 1) .none (.some (.neg (.int 1))))) .none [3, 4])) (.cons (.ret (.cl f_point_from (.cons (.op .add (.var 2) (.lst false (.cons (.op .mul (.ix (.var 0) (.neg (.int 1))) (.ix (.var 1) (.neg (.int 1)))) .nil))) .nil))) .nil))
def b_moved : Ss := (.cons (.ex (.cl f_check_two (.cons (.var 0) (.cons (.var 1) .nil)))) (.cons (.ret (.cl f_added (.cons (.var 0) (.cons (.var 1) .nil)))) .nil))
def b_check_fraction : Ss := (.cons (.ite (.not (.cl f_is_fraction (.cons (.var 0) .nil))) (.cons .never .nil) .nil) .nil)
def b_stretched : Ss := (.cons (.ret (.cl f_point_from (.cons (.op .add (.cp false (.op .mul (.var 2) (.ix (.var 1) (.int 0))) (.name 2) (.seq (.sl (.var 0) .none (.some (.neg (.int 1))))) .none [2]) (.lst false (.cons (.op .mul (.ix (.var 0) (.neg (.int 1))) (.ix (.var 1) (.int 1))) .nil))) .nil))) .nil)
def b_scaled : Ss := (.cons (.ex (.cl f_check_point (.cons (.var 0) .nil))) (.cons (.ex (.cl f_check_fraction (.cons (.var 1) .nil))) (.cons (.ret (.cl f_stretched (.cons (.var 0) (.cons (.var 1) .nil)))) .nil)))
def b_places_in : Ss := (.cons (.ret (.bt .tuple (.cons (.cp false (.cl f_lowest (.cons (.var 1) (.cons (.ix (.var 0) (.neg (.int 1))) .nil))) (.name 1) (.seq (.sl (.var 0) .none (.some (.neg (.int 1))))) .none [1]) .nil))) .nil)
def b_places_of : Ss := (.cons (.ex (.cl f_check_point (.cons (.var 0) .nil))) (.cons (.ret (.cl f_places_in (.cons (.var 0) .nil))) .nil))
def b_from_places : Ss := (.cons (.asg (.name 1) (.int 1)) (.cons (.for_ (.tup (.cons (.name 2) (.cons (.name 3) .nil))) (.seq (.var 0)) (.cons (.asg (.name 1) (.op .fdiv (.op .mul (.var 1) (.var 3)) (.bt .gcd (.cons (.var 1) (.cons (.var 3) .nil))))) .nil)) (.cons (.ret (.cl f_point_from (.cons (.op .add (.cp false (.op .mul (.var 2) (.op .fdiv (.var 1) (.var 3))) (.tup (.cons (.name 2) (.cons (.name 3) .nil))) (.seq (.var 0)) .none [2, 3]) (.lst false (.cons (.var 1) .nil))) .nil))) .nil)))
def b_point_at : Ss := (.cons (.ite (.bop false (.cons (.not (.bt .isi (.cons (.var 0) (.cons (.ty "tuple") .nil)))) (.cons (.cmp .nin (.bt .len (.cons (.var 0) .nil)) (.tup (.cons (.int 2) (.cons (.int 3) .nil)))) (.cons (.not (.bt .all (.cons (.cp false (.cl f_is_fraction (.cons (.var 1) .nil)) (.name 1) (.seq (.var 0)) .none [1]) .nil))) .nil)))) (.cons .never .nil) .nil) (.cons (.ret (.cl f_from_places (.cons (.var 0) .nil))) .nil))
def b_middle : Ss := (.cons (.ex (.cl f_check_two (.cons (.var 0) (.cons (.var 1) .nil)))) (.cons (.ret (.cl f_mixed (.cons (.var 0) (.cons (.var 1) (.cons (.tup (.cons (.int 1) (.cons (.int 2) .nil))) .nil))))) .nil))
def b__law_pushed_right : Ss := (.cons (.asg (.name 6) (.cl f__law_low (.cons (.op .sub (.cl f__law_take (.cons (.var 0) (.cons (.int 15) .nil))) (.int 7)) (.cons (.op .add (.int 1) (.cl f__law_take (.cons (.var 0) (.cons (.int 5) .nil)))) .nil)))) (.cons (.asg (.name 7) (.cl f__law_plus (.cons (.cl f__law_over (.cons (.var 2) (.cons (.var 4) .nil))) (.cons (.tup (.cons (.ix (.var 2) (.neg (.int 1))) (.cons (.int 1) .nil))) .nil)))) (.cons (.par 8 9 (.ife (.var 5) (.ck f_moved .nil (.cons (.var 4) (.cons (.var 3) .nil)) [1, 0]) (.cl f_moved (.cons (.var 3) (.cons (.var 4) .nil)))) (.ife (.var 5) (.cl f_scaled (.cons (.var 3) (.cons (.var 6) .nil))) (.ck f_scaled .nil (.cons (.var 6) (.cons (.var 3) .nil)) [1, 0]))) (.cons (.asg (.name 10) (.lst false (.cons (.cl f__law_plus (.cons (.cl f__law_over (.cons (.var 2) (.cons (.var 3) .nil))) (.cons (.var 7) .nil))) (.cons (.cl f__law_less (.cons (.cl f__law_times (.cons (.var 6) (.cons (.cl f__law_plus (.cons (.cl f__law_over (.cons (.var 2) (.cons (.var 3) .nil))) (.cons (.tup (.cons (.ix (.var 2) (.neg (.int 1))) (.cons (.int 1) .nil))) .nil))) .nil))) (.cons (.tup (.cons (.ix (.var 2) (.neg (.int 1))) (.cons (.int 1) .nil))) .nil))) .nil)))) (.cons (.ite (.bop false (.cons (.not (.cl f__law_same (.cons (.lst false (.cons (.cl f_excess (.cons (.var 2) (.cons (.var 8) .nil))) (.cons (.cl f_excess (.cons (.var 2) (.cons (.var 9) .nil))) .nil))) (.cons (.var 10) .nil)))) (.cons (.not (.cl f__law_same (.cons (.lst false (.cons (.cl f_standing (.cons (.var 2) (.cons (.var 8) .nil))) (.cons (.cl f_standing (.cons (.var 2) (.cons (.var 9) .nil))) .nil))) (.cons (.cp false (.cl f__law_sign (.cons (.var 16) .nil)) (.name 16) (.seq (.var 10)) .none [16]) .nil)))) .nil))) (.cons (.ret (.bl false)) .nil) .nil) (.cons (.asg (.name 11) (.ife (.var 5) (.ck f_push_between .nil (.cons (.var 4) (.cons (.var 3) .nil)) [1, 0]) (.cl f_push_between (.cons (.var 3) (.cons (.var 4) .nil))))) (.cons (.asg (.name 12) (.lst false (.cons (.cl f_moved (.cons (.var 3) (.cons (.var 11) .nil))) (.cons (.cl f_moved (.cons (.var 4) (.cons (.cl f_scaled (.cons (.var 11) (.cons (.tup (.cons (.neg (.int 1)) (.cons (.int 1) .nil))) .nil))) .nil))) (.cons (.cl f_moved (.cons (.var 8) (.cons (.cl f_scaled (.cons (.var 4) (.cons (.tup (.cons (.neg (.int 1)) (.cons (.int 1) .nil))) .nil))) .nil))) (.cons (.cl f_push_between (.cons (.var 3) (.cons (.var 8) .nil))) (.cons (.cl f_push_between (.cons (.var 3) (.cons (.var 3) .nil))) .nil))))))) (.cons (.ite (.not (.cl f__law_same (.cons (.var 12) (.cons (.lst false (.cons (.var 4) (.cons (.var 3) (.cons (.var 3) (.cons (.var 4) (.cons (.op .add (.op .mul (.tup (.cons (.int 0) .nil)) (.var 1)) (.tup (.cons (.int 1) .nil))) .nil)))))) .nil)))) (.cons (.ret (.bl false)) .nil) .nil) (.cons (.ite (.bop true (.cons (.cmp .ne (.ix (.var 6) (.int 0)) (.int 0)) (.cons (.not (.cl f__law_same (.cons (.cl f_scaled (.cons (.var 9) (.cons (.ife (.cmp .gt (.ix (.var 6) (.int 0)) (.int 0)) (.tup (.cons (.ix (.var 6) (.int 1)) (.cons (.ix (.var 6) (.int 0)) .nil))) (.tup (.cons (.op .sub (.int 0) (.ix (.var 6) (.int 1))) (.cons (.op .sub (.int 0) (.ix (.var 6) (.int 0))) .nil)))) .nil))) (.cons (.var 3) .nil)))) .nil))) (.cons (.ret (.bl false)) .nil) .nil) (.cons (.ite (.not (.cl f__law_same (.cons (.lst false (.cons (.cl f_moved (.cons (.var 3) (.cons (.cl f_scaled (.cons (.var 11) (.cons (.tup (.cons (.int 1) (.cons (.int 2) .nil))) .nil))) .nil))) (.cons (.cl f_middle (.cons (.var 4) (.cons (.var 3) .nil))) .nil))) (.cons (.lst false (.cons (.cl f_middle (.cons (.var 3) (.cons (.var 4) .nil))) (.cons (.cl f_middle (.cons (.var 3) (.cons (.var 4) .nil))) .nil))) .nil)))) (.cons (.ret (.bl false)) .nil) .nil) (.cons (.asg (.name 13) (.bt .tuple (.cons (.cp false (.cl f__law_plus (.cons (.var 14) (.cons (.var 15) .nil))) (.tup (.cons (.name 14) (.cons (.name 15) .nil))) (.zip (.cl f_places_of (.cons (.var 3) .nil)) (.cl f_places_of (.cons (.var 4) .nil))) .none [14, 15]) .nil))) (.cons (.ret (.cl f__law_same (.cons (.lst false (.cons (.cl f_places_of (.cons (.var 8) .nil)) (.cons (.cl f_point_at (.cons (.var 13) .nil)) .nil))) (.cons (.lst false (.cons (.var 13) (.cons (.var 8) .nil))) .nil)))) .nil))))))))))))
def b__law_parts_right : Ss := (.cons (.par 5 6 (.cl f__law_share (.cons (.var 0) .nil)) (.cl f__law_share (.cons (.var 0) .nil))) (.cons (.asg (.name 7) (.lst false (.cons (.cl f_between (.cons (.var 1) (.cons (.cl f_between (.cons (.var 1) (.cons (.var 2) (.cons (.var 5) .nil)))) (.cons (.var 6) .nil)))) (.cons (.cl f_between (.cons (.cl f_between (.cons (.var 1) (.cons (.var 2) (.cons (.var 5) .nil)))) (.cons (.var 2) (.cons (.var 6) .nil)))) .nil)))) (.cons (.ite (.not (.cl f__law_same (.cons (.var 7) (.cons (.lst false (.cons (.cl f_between (.cons (.var 1) (.cons (.var 2) (.cons (.cl f__law_times (.cons (.var 5) (.cons (.var 6) .nil))) .nil)))) (.cons (.cl f_between (.cons (.var 1) (.cons (.var 2) (.cons (.cl f__law_less (.cons (.tup (.cons (.int 1) (.cons (.int 1) .nil))) (.cons (.cl f__law_times (.cons (.cl f__law_less (.cons (.tup (.cons (.int 1) (.cons (.int 1) .nil))) (.cons (.var 5) .nil))) (.cons (.cl f__law_less (.cons (.tup (.cons (.int 1) (.cons (.int 1) .nil))) (.cons (.var 6) .nil))) .nil))) .nil))) .nil)))) .nil))) .nil)))) (.cons (.ret (.bl false)) .nil) .nil) (.cons (.asg (.name 8) (.lst false (.cons (.cl f_between (.cons (.cl f_between (.cons (.var 1) (.cons (.var 2) (.cons (.var 5) .nil)))) (.cons (.cl f_between (.cons (.var 3) (.cons (.var 2) (.cons (.var 5) .nil)))) (.cons (.var 6) .nil)))) (.cons (.cl f_between (.cons (.cl f_between (.cons (.var 1) (.cons (.var 3) (.cons (.var 6) .nil)))) (.cons (.var 2) (.cons (.var 5) .nil)))) .nil)))) (.cons (.ite (.not (.cl f__law_same (.cons (.ix (.var 8) (.int 0)) (.cons (.ix (.var 8) (.int 1)) .nil)))) (.cons (.ret (.bl false)) .nil) .nil) (.cons (.asg (.name 9) (.lst false (.cons (.cl f_middle (.cons (.cl f_middle (.cons (.var 1) (.cons (.var 2) .nil))) (.cons (.cl f_middle (.cons (.var 2) (.cons (.var 3) .nil))) .nil))) (.cons (.cl f_between (.cons (.cl f_middle (.cons (.var 1) (.cons (.var 3) .nil))) (.cons (.var 2) (.cons (.tup (.cons (.int 1) (.cons (.int 2) .nil))) .nil)))) .nil)))) (.cons (.ret (.bop true (.cons (.cl f__law_same (.cons (.ix (.var 9) (.int 0)) (.cons (.ix (.var 9) (.int 1)) .nil))) (.cons (.cl f__law_same (.cons (.lst false (.cons (.cl f_between (.cons (.var 1) (.cons (.var 1) (.cons (.var 5) .nil)))) (.cons (.cl f_middle (.cons (.var 3) (.cons (.var 3) .nil))) .nil))) (.cons (.lst false (.cons (.var 1) (.cons (.var 3) .nil))) .nil))) .nil)))) .nil)))))))
def b_side_from : Ss := (.cons (.asg (.name 1) (.cl f_shared_factor (.cons (.var 0) .nil))) (.cons (.ret (.bt .tuple (.cons (.cp false (.op .fdiv (.var 2) (.var 1)) (.name 2) (.seq (.var 0)) .none [2]) .nil))) .nil))
def b_side_of : Ss := (.cons (.ite (.bop true (.cons (.not (.cl f_are_integers (.cons (.var 0) (.cons (.int 3) .nil)))) (.cons (.not (.cl f_are_integers (.cons (.var 0) (.cons (.int 4) .nil)))) .nil))) (.cons .never .nil) .nil) (.cons (.ite (.not (.bt .any (.cons (.cp false (.cmp .ne (.var 1) (.int 0)) (.name 1) (.seq (.sl (.var 0) .none (.some (.neg (.int 1))))) .none [1]) .nil))) (.cons .never .nil) .nil) (.cons (.ret (.cl f_side_from (.cons (.var 0) .nil))) .nil)))
def b_law : Ss := (.cons (.for_ (.name 1) (.rng1 (.bt .max (.cons (.int 2) (.cons (.bt .min (.cons (.int 4) (.cons (.bt .len (.cons (.var 0) .nil)) .nil))) .nil)))) (.cons (.asg (.name 2) (.cl f__law_box (.cons (.cl f__law_cell (.cons (.var 0) (.cons (.var 1) .nil))) .nil))) (.cons (.asg (.name 3) (.cmp .eq (.cl f__law_take (.cons (.var 2) (.cons (.int 2) .nil))) (.int 0))) (.cons (.for_ (.name 4) (.seq (.tup (.cons (.int 2) (.cons (.int 3) .nil)))) (.cons (.asg (.tup (.cons (.name 5) (.cons (.name 6) .nil))) (.cl f__law_drawn_side (.cons (.var 2) (.cons (.var 4) .nil)))) (.cons (.asg (.name 7) (.cp false (.cl f__law_any_point (.cons (.var 2) (.cons (.var 4) (.cons (.int 4) (.cons (.bl false) .nil))))) (.name 8) (.rng1 (.int 3)) .none [8])) (.cons (.ite (.not (.cl f__law_same (.cons (.ife (.var 3) (.ck f_side_of .nil (.cons (.var 5) .nil) [0]) (.cl f_side_of (.cons (.var 5) .nil))) (.cons (.var 6) .nil)))) (.cons (.ret (.bl false)) .nil) .nil) (.cons (.ite (.bop false (.cons (.not (.cl f__law_way_right (.cons (.var 2) (.cons (.var 4) (.cons (.var 6) (.cons (.ix (.var 7) (.int 0)) (.cons (.ix (.var 7) (.int 1)) (.cons (.var 3) .nil)))))))) (.cons (.not (.cl f__law_way_right (.cons (.var 2) (.cons (.var 4) (.cons (.var 6) (.cons (.ix (.var 7) (.int 2)) (.cons (.ix (.var 7) (.int 0)) (.cons (.not (.var 3)) .nil)))))))) .nil))) (.cons (.ret (.bl false)) .nil) .nil) (.cons (.ite (.bop false (.cons (.not (.cl f__law_pushed_right (.cons (.var 2) (.cons (.var 4) (.cons (.var 6) (.cons (.ix (.var 7) (.int 1)) (.cons (.ix (.var 7) (.int 2)) (.cons (.var 3) .nil)))))))) (.cons (.not (.cl f__law_parts_right (.cons (.var 2) (.cons (.ix (.var 7) (.int 0)) (.cons (.ix (.var 7) (.int 1)) (.cons (.ix (.var 7) (.int 2)) (.cons (.var 3) .nil))))))) .nil))) (.cons (.ret (.bl false)) .nil) .nil) (.cons (.asg (.name 3) (.not (.var 3))) .nil))))))) .nil)))) (.cons (.ret (.bl true)) .nil))
def FT : Nat → Option FDef
  | 0 => some ⟨1, 1, b__law_box, false⟩
  | 1 => some ⟨2, 2, b__law_cell, false⟩
  | 2 => some ⟨2, 4, b__law_take, false⟩
  | 3 => some ⟨1, 5, b__law_factor, false⟩
  | 4 => some ⟨1, 3, b__law_side, false⟩
  | 5 => some ⟨2, 7, b__law_drawn_side, true⟩
  | 6 => some ⟨1, 3, b__law_point, false⟩
  | 7 => some ⟨4, 6, b__law_any_point, false⟩
  | 8 => some ⟨2, 4, b__law_same, false⟩
  | 9 => some ⟨2, 3, b__law_low, false⟩
  | 10 => some ⟨2, 2, b__law_plus, false⟩
  | 11 => some ⟨2, 2, b__law_less, false⟩
  | 12 => some ⟨2, 2, b__law_times, false⟩
  | 13 => some ⟨2, 2, b_is_tuple, false⟩
  | 14 => some ⟨1, 1, b_is_integer, false⟩
  | 15 => some ⟨2, 3, b_are_integers, false⟩
  | 16 => some ⟨1, 3, b_shared_factor, false⟩
  | 17 => some ⟨2, 3, b_is_side_of, false⟩
  | 18 => some ⟨1, 1, b_is_side, false⟩
  | 19 => some ⟨1, 1, b_check_side, false⟩
  | 20 => some ⟨2, 2, b_is_of_size, false⟩
  | 21 => some ⟨2, 2, b_check_like, false⟩
  | 22 => some ⟨1, 1, b_size_of, false⟩
  | 23 => some ⟨2, 2, b_check_both, false⟩
  | 24 => some ⟨2, 3, b_lowest, false⟩
  | 25 => some ⟨2, 4, b_excess_of, false⟩
  | 26 => some ⟨2, 2, b_excess, false⟩
  | 27 => some ⟨1, 2, b__law_share, false⟩
  | 28 => some ⟨1, 1, b_sign_of, false⟩
  | 29 => some ⟨2, 2, b_standing, false⟩
  | 30 => some ⟨1, 1, b_is_point, false⟩
  | 31 => some ⟨1, 1, b_check_point, false⟩
  | 32 => some ⟨2, 2, b_check_two, false⟩
  | 33 => some ⟨1, 3, b_point_from, false⟩
  | 34 => some ⟨3, 10, b_mixed, false⟩
  | 35 => some ⟨1, 1, b_is_fraction, false⟩
  | 36 => some ⟨2, 2, b_compared, false⟩
  | 37 => some ⟨3, 3, b_between, false⟩
  | 38 => some ⟨1, 1, b__law_sign, false⟩
  | 39 => some ⟨2, 3, b__law_over, false⟩
  | 40 => some ⟨1, 2, b_turned_side, false⟩
  | 41 => some ⟨1, 1, b_opposite, false⟩
  | 42 => some ⟨1, 4, b__law_at, false⟩
  | 43 => some ⟨1, 2, b__law_places, false⟩
  | 44 => some ⟨3, 6, b__law_mix, true⟩
  | 45 => some ⟨6, 15, b__law_way_right, false⟩
  | 46 => some ⟨2, 5, b_push_from, false⟩
  | 47 => some ⟨2, 2, b_push_between, false⟩
  | 48 => some ⟨2, 5, b_added, false⟩
  | 49 => some ⟨2, 2, b_moved, false⟩
  | 50 => some ⟨1, 1, b_check_fraction, false⟩
  | 51 => some ⟨2, 3, b_stretched, false⟩
  | 52 => some ⟨2, 2, b_scaled, false⟩
  | 53 => some ⟨1, 2, b_places_in, false⟩
  | 54 => some ⟨1, 1, b_places_of, false⟩
  | 55 => some ⟨1, 4, b_from_places, false⟩
  | 56 => some ⟨1, 2, b_point_at, false⟩
  | 57 => some ⟨2, 2, b_middle, false⟩
  | 58 => some ⟨6, 17, b__law_pushed_right, false⟩
  | 59 => some ⟨5, 10, b__law_parts_right, false⟩
  | 60 => some ⟨1, 3, b_side_from, false⟩
  | 61 => some ⟨1, 2, b_side_of, false⟩
  | 62 => some ⟨1, 9, b_law, false⟩
  | _ => none
def nm : Nat → Str
  | 0 => "_law_box"
  | 1 => "_law_cell"
  | 2 => "_law_take"
  | 3 => "_law_factor"
  | 4 => "_law_side"
  | 5 => "_law_drawn_side"
  | 6 => "_law_point"
  | 7 => "_law_any_point"
  | 8 => "_law_same"
  | 9 => "_law_low"
  | 10 => "_law_plus"
  | 11 => "_law_less"
  | 12 => "_law_times"
  | 13 => "is_tuple"
  | 14 => "is_integer"
  | 15 => "are_integers"
  | 16 => "shared_factor"
  | 17 => "is_side_of"
  | 18 => "is_side"
  | 19 => "check_side"
  | 20 => "is_of_size"
  | 21 => "check_like"
  | 22 => "size_of"
  | 23 => "check_both"
  | 24 => "lowest"
  | 25 => "excess_of"
  | 26 => "excess"
  | 27 => "_law_share"
  | 28 => "sign_of"
  | 29 => "standing"
  | 30 => "is_point"
  | 31 => "check_point"
  | 32 => "check_two"
  | 33 => "point_from"
  | 34 => "mixed"
  | 35 => "is_fraction"
  | 36 => "compared"
  | 37 => "between"
  | 38 => "_law_sign"
  | 39 => "_law_over"
  | 40 => "turned_side"
  | 41 => "opposite"
  | 42 => "_law_at"
  | 43 => "_law_places"
  | 44 => "_law_mix"
  | 45 => "_law_way_right"
  | 46 => "push_from"
  | 47 => "push_between"
  | 48 => "added"
  | 49 => "moved"
  | 50 => "check_fraction"
  | 51 => "stretched"
  | 52 => "scaled"
  | 53 => "places_in"
  | 54 => "places_of"
  | 55 => "from_places"
  | 56 => "point_at"
  | 57 => "middle"
  | 58 => "_law_pushed_right"
  | 59 => "_law_parts_right"
  | 60 => "side_from"
  | 61 => "side_of"
  | 62 => "law"
  | _ => ""
def gl (x : Str) : Option D :=
  if x = ("ONE" : Str) then some (.tup [(.int 1), (.int 1)]) else if x = ("ZERO" : Str) then some (.tup [(.int 0), (.int 1)]) else none
def T : Tbl := { FT := FT, gl := gl, nm := nm, bn := ["abs", "all", "any", "bool", "dict", "int", "isinstance", "len", "list", "max", "min", "range", "str", "sum", "tuple", "zip"], gcd := true, kw := [(f_excess, 0, ["point", "side"], [1, 0]), (f_between, 0, ["share", "other", "one"], [2, 1, 0]), (f_push_between, 0, ["other", "one"], [1, 0]), (f_moved, 0, ["push", "point"], [1, 0]), (f_scaled, 0, ["factor", "point"], [1, 0]), (f_side_of, 0, ["numbers"], [0])] }
def topS (i : Nat) : Stmt := PySem.Challenge.pw_polytopebench_k03_whole_excess_along_way.main.body.getD i (.Pass ⟨0, 0, 0, 0⟩)
abbrev s__law_box : Stmt := topS 56
theorem sc__law_box : FnScope ["great"] ["great"] (defScope s__law_box) := ⟨rfl, rfl, rfl, by decide +kernel, rfl, by decide +kernel, by decide +kernel⟩
theorem ch__law_box : chSs T ["great"] b__law_box (defScope s__law_box) (fun _ => true) (defBody s__law_box) = true := by decide +kernel
abbrev s__law_cell : Stmt := topS 55
theorem sc__law_cell : FnScope ["script", "k"] ["script", "k"] (defScope s__law_cell) := ⟨rfl, rfl, rfl, by decide +kernel, rfl, by decide +kernel, by decide +kernel⟩
theorem ch__law_cell : chSs T ["script", "k"] b__law_cell (defScope s__law_cell) (fun _ => true) (defBody s__law_cell) = true := by decide +kernel
abbrev s__law_take : Stmt := topS 57
theorem sc__law_take : FnScope ["box", "many", "digit", "mixed_v"] ["box", "many"] (defScope s__law_take) := ⟨rfl, rfl, rfl, by decide +kernel, rfl, by decide +kernel, by decide +kernel⟩
theorem ch__law_take : chSs T ["box", "many", "digit", "mixed_v"] b__law_take (defScope s__law_take) (fun _ => true) (defBody s__law_take) = true := by decide +kernel
abbrev s__law_factor : Stmt := topS 59
theorem sc__law_factor : FnScope ["items", "found", "item", "one", "other"] ["items"] (defScope s__law_factor) := ⟨rfl, rfl, rfl, by decide +kernel, rfl, by decide +kernel, by decide +kernel⟩
theorem ch__law_factor : chSs T ["items", "found", "item", "one", "other"] b__law_factor (defScope s__law_factor) (fun _ => true) (defBody s__law_factor) = true := by decide +kernel
abbrev s__law_side : Stmt := topS 61
theorem sc__law_side : FnScope ["numbers", "shared", "item"] ["numbers"] (defScope s__law_side) := ⟨rfl, rfl, rfl, by decide +kernel, rfl, by decide +kernel, by decide +kernel⟩
theorem ch__law_side : chSs T ["numbers", "shared", "item"] b__law_side (defScope s__law_side) (fun _ => true) (defBody s__law_side) = true := by decide +kernel
abbrev s__law_drawn_side : Stmt := topS 74
theorem sc__law_drawn_side : FnScope ["box", "size", "numbers", "at", "by", "k", "x"] ["box", "size"] (defScope s__law_drawn_side) := ⟨rfl, rfl, rfl, by decide +kernel, rfl, by decide +kernel, by decide +kernel⟩
theorem ch__law_drawn_side : chSs T ["box", "size", "numbers", "at", "by", "k", "x"] b__law_drawn_side (defScope s__law_drawn_side) (fun _ => true) (defBody s__law_drawn_side) = true := by decide +kernel
abbrev s__law_point : Stmt := topS 60
theorem sc__law_point : FnScope ["numbers", "shared", "item"] ["numbers"] (defScope s__law_point) := ⟨rfl, rfl, rfl, by decide +kernel, rfl, by decide +kernel, by decide +kernel⟩
theorem ch__law_point : chSs T ["numbers", "shared", "item"] b__law_point (defScope s__law_point) (fun _ => true) (defBody s__law_point) = true := by decide +kernel
abbrev s__law_any_point : Stmt := topS 62
theorem sc__law_any_point : FnScope ["box", "size", "wide", "whole", "base", "k"] ["box", "size", "wide", "whole"] (defScope s__law_any_point) := ⟨rfl, rfl, rfl, by decide +kernel, rfl, by decide +kernel, by decide +kernel⟩
theorem ch__law_any_point : chSs T ["box", "size", "wide", "whole", "base", "k"] b__law_any_point (defScope s__law_any_point) (fun _ => true) (defBody s__law_any_point) = true := by decide +kernel
abbrev s__law_same : Stmt := topS 58
theorem sc__law_same : FnScope ["given", "due", "k", "key"] ["given", "due"] (defScope s__law_same) := ⟨rfl, rfl, rfl, by decide +kernel, rfl, by decide +kernel, by decide +kernel⟩
theorem ch__law_same : chSs T ["given", "due", "k", "key"] b__law_same (defScope s__law_same) (fun _ => true) (defBody s__law_same) = true := by decide +kernel
abbrev s__law_low : Stmt := topS 63
theorem sc__law_low : FnScope ["top", "base", "shared"] ["top", "base"] (defScope s__law_low) := ⟨rfl, rfl, rfl, by decide +kernel, rfl, by decide +kernel, by decide +kernel⟩
theorem ch__law_low : chSs T ["top", "base", "shared"] b__law_low (defScope s__law_low) (fun _ => true) (defBody s__law_low) = true := by decide +kernel
abbrev s__law_plus : Stmt := topS 64
theorem sc__law_plus : FnScope ["one", "other"] ["one", "other"] (defScope s__law_plus) := ⟨rfl, rfl, rfl, by decide +kernel, rfl, by decide +kernel, by decide +kernel⟩
theorem ch__law_plus : chSs T ["one", "other"] b__law_plus (defScope s__law_plus) (fun _ => true) (defBody s__law_plus) = true := by decide +kernel
abbrev s__law_less : Stmt := topS 66
theorem sc__law_less : FnScope ["one", "other"] ["one", "other"] (defScope s__law_less) := ⟨rfl, rfl, rfl, by decide +kernel, rfl, by decide +kernel, by decide +kernel⟩
theorem ch__law_less : chSs T ["one", "other"] b__law_less (defScope s__law_less) (fun _ => true) (defBody s__law_less) = true := by decide +kernel
abbrev s__law_times : Stmt := topS 65
theorem sc__law_times : FnScope ["one", "other"] ["one", "other"] (defScope s__law_times) := ⟨rfl, rfl, rfl, by decide +kernel, rfl, by decide +kernel, by decide +kernel⟩
theorem ch__law_times : chSs T ["one", "other"] b__law_times (defScope s__law_times) (fun _ => true) (defBody s__law_times) = true := by decide +kernel
abbrev s_is_tuple : Stmt := topS 11
theorem sc_is_tuple : FnScope ["value", "many"] ["value", "many"] (defScope s_is_tuple) := ⟨rfl, rfl, rfl, by decide +kernel, rfl, by decide +kernel, by decide +kernel⟩
theorem ch_is_tuple : chSs T ["value", "many"] b_is_tuple (defScope s_is_tuple) (fun _ => true) (defBody s_is_tuple) = true := by decide +kernel
abbrev s_is_integer : Stmt := topS 10
theorem sc_is_integer : FnScope ["value"] ["value"] (defScope s_is_integer) := ⟨rfl, rfl, rfl, by decide +kernel, rfl, by decide +kernel, by decide +kernel⟩
theorem ch_is_integer : chSs T ["value"] b_is_integer (defScope s_is_integer) (fun _ => true) (defBody s_is_integer) = true := by decide +kernel
abbrev s_are_integers : Stmt := topS 12
theorem sc_are_integers : FnScope ["value", "many", "item"] ["value", "many"] (defScope s_are_integers) := ⟨rfl, rfl, rfl, by decide +kernel, rfl, by decide +kernel, by decide +kernel⟩
theorem ch_are_integers : chSs T ["value", "many", "item"] b_are_integers (defScope s_are_integers) (fun _ => true) (defBody s_are_integers) = true := by decide +kernel
abbrev s_shared_factor : Stmt := topS 21
theorem sc_shared_factor : FnScope ["numbers", "found", "number"] ["numbers"] (defScope s_shared_factor) := ⟨rfl, rfl, rfl, by decide +kernel, rfl, by decide +kernel, by decide +kernel⟩
theorem ch_shared_factor : chSs T ["numbers", "found", "number"] b_shared_factor (defScope s_shared_factor) (fun _ => true) (defBody s_shared_factor) = true := by decide +kernel
abbrev s_is_side_of : Stmt := topS 24
theorem sc_is_side_of : FnScope ["value", "size", "number"] ["value", "size"] (defScope s_is_side_of) := ⟨rfl, rfl, rfl, by decide +kernel, rfl, by decide +kernel, by decide +kernel⟩
theorem ch_is_side_of : chSs T ["value", "size", "number"] b_is_side_of (defScope s_is_side_of) (fun _ => true) (defBody s_is_side_of) = true := by decide +kernel
abbrev s_is_side : Stmt := topS 25
theorem sc_is_side : FnScope ["value"] ["value"] (defScope s_is_side) := ⟨rfl, rfl, rfl, by decide +kernel, rfl, by decide +kernel, by decide +kernel⟩
theorem ch_is_side : chSs T ["value"] b_is_side (defScope s_is_side) (fun _ => true) (defBody s_is_side) = true := by decide +kernel
abbrev s_check_side : Stmt := topS 32
theorem sc_check_side : FnScope ["side"] ["side"] (defScope s_check_side) := ⟨rfl, rfl, rfl, by decide +kernel, rfl, by decide +kernel, by decide +kernel⟩
theorem ch_check_side : chSs T ["side"] b_check_side (defScope s_check_side) (fun _ => true) (defBody s_check_side) = true := by decide +kernel
abbrev s_is_of_size : Stmt := topS 22
theorem sc_is_of_size : FnScope ["value", "size"] ["value", "size"] (defScope s_is_of_size) := ⟨rfl, rfl, rfl, by decide +kernel, rfl, by decide +kernel, by decide +kernel⟩
theorem ch_is_of_size : chSs T ["value", "size"] b_is_of_size (defScope s_is_of_size) (fun _ => true) (defBody s_is_of_size) = true := by decide +kernel
abbrev s_check_like : Stmt := topS 31
theorem sc_check_like : FnScope ["point", "size"] ["point", "size"] (defScope s_check_like) := ⟨rfl, rfl, rfl, by decide +kernel, rfl, by decide +kernel, by decide +kernel⟩
theorem ch_check_like : chSs T ["point", "size"] b_check_like (defScope s_check_like) (fun _ => true) (defBody s_check_like) = true := by decide +kernel
abbrev s_size_of : Stmt := topS 26
theorem sc_size_of : FnScope ["thing"] ["thing"] (defScope s_size_of) := ⟨rfl, rfl, rfl, by decide +kernel, rfl, by decide +kernel, by decide +kernel⟩
theorem ch_size_of : chSs T ["thing"] b_size_of (defScope s_size_of) (fun _ => true) (defBody s_size_of) = true := by decide +kernel
abbrev s_check_both : Stmt := topS 39
theorem sc_check_both : FnScope ["side", "point"] ["side", "point"] (defScope s_check_both) := ⟨rfl, rfl, rfl, by decide +kernel, rfl, by decide +kernel, by decide +kernel⟩
theorem ch_check_both : chSs T ["side", "point"] b_check_both (defScope s_check_both) (fun _ => true) (defBody s_check_both) = true := by decide +kernel
abbrev s_lowest : Stmt := topS 16
theorem sc_lowest : FnScope ["top", "base", "shared"] ["top", "base"] (defScope s_lowest) := ⟨rfl, rfl, rfl, by decide +kernel, rfl, by decide +kernel, by decide +kernel⟩
theorem ch_lowest : chSs T ["top", "base", "shared"] b_lowest (defScope s_lowest) (fun _ => true) (defBody s_lowest) = true := by decide +kernel
abbrev s_excess_of : Stmt := topS 29
theorem sc_excess_of : FnScope ["side", "point", "a", "x"] ["side", "point"] (defScope s_excess_of) := ⟨rfl, rfl, rfl, by decide +kernel, rfl, by decide +kernel, by decide +kernel⟩
theorem ch_excess_of : chSs T ["side", "point", "a", "x"] b_excess_of (defScope s_excess_of) (fun _ => true) (defBody s_excess_of) = true := by decide +kernel
abbrev s_excess : Stmt := topS 41
theorem sc_excess : FnScope ["side", "point"] ["side", "point"] (defScope s_excess) := ⟨rfl, rfl, rfl, by decide +kernel, rfl, by decide +kernel, by decide +kernel⟩
theorem ch_excess : chSs T ["side", "point"] b_excess (defScope s_excess) (fun _ => true) (defBody s_excess) = true := by decide +kernel
abbrev s__law_share : Stmt := topS 75
theorem sc__law_share : FnScope ["box", "base"] ["box"] (defScope s__law_share) := ⟨rfl, rfl, rfl, by decide +kernel, rfl, by decide +kernel, by decide +kernel⟩
theorem ch__law_share : chSs T ["box", "base"] b__law_share (defScope s__law_share) (fun _ => true) (defBody s__law_share) = true := by decide +kernel
abbrev s_sign_of : Stmt := topS 18
theorem sc_sign_of : FnScope ["top"] ["top"] (defScope s_sign_of) := ⟨rfl, rfl, rfl, by decide +kernel, rfl, by decide +kernel, by decide +kernel⟩
theorem ch_sign_of : chSs T ["top"] b_sign_of (defScope s_sign_of) (fun _ => true) (defBody s_sign_of) = true := by decide +kernel
abbrev s_standing : Stmt := topS 40
theorem sc_standing : FnScope ["side", "point"] ["side", "point"] (defScope s_standing) := ⟨rfl, rfl, rfl, by decide +kernel, rfl, by decide +kernel, by decide +kernel⟩
theorem ch_standing : chSs T ["side", "point"] b_standing (defScope s_standing) (fun _ => true) (defBody s_standing) = true := by decide +kernel
abbrev s_is_point : Stmt := topS 23
theorem sc_is_point : FnScope ["value"] ["value"] (defScope s_is_point) := ⟨rfl, rfl, rfl, by decide +kernel, rfl, by decide +kernel, by decide +kernel⟩
theorem ch_is_point : chSs T ["value"] b_is_point (defScope s_is_point) (fun _ => true) (defBody s_is_point) = true := by decide +kernel
abbrev s_check_point : Stmt := topS 30
theorem sc_check_point : FnScope ["point"] ["point"] (defScope s_check_point) := ⟨rfl, rfl, rfl, by decide +kernel, rfl, by decide +kernel, by decide +kernel⟩
theorem ch_check_point : chSs T ["point"] b_check_point (defScope s_check_point) (fun _ => true) (defBody s_check_point) = true := by decide +kernel
abbrev s_check_two : Stmt := topS 45
theorem sc_check_two : FnScope ["one", "other"] ["one", "other"] (defScope s_check_two) := ⟨rfl, rfl, rfl, by decide +kernel, rfl, by decide +kernel, by decide +kernel⟩
theorem ch_check_two : chSs T ["one", "other"] b_check_two (defScope s_check_two) (fun _ => true) (defBody s_check_two) = true := by decide +kernel
abbrev s_point_from : Stmt := topS 27
theorem sc_point_from : FnScope ["numbers", "shared", "number"] ["numbers"] (defScope s_point_from) := ⟨rfl, rfl, rfl, by decide +kernel, rfl, by decide +kernel, by decide +kernel⟩
theorem ch_point_from : chSs T ["numbers", "shared", "number"] b_point_from (defScope s_point_from) (fun _ => true) (defBody s_point_from) = true := by decide +kernel
abbrev s_mixed : Stmt := topS 44
theorem sc_mixed : FnScope ["one", "other", "share", "top", "base", "first", "second", "numbers", "x", "y"] ["one", "other", "share"] (defScope s_mixed) := ⟨rfl, rfl, rfl, by decide +kernel, rfl, by decide +kernel, by decide +kernel⟩
theorem ch_mixed : chSs T ["one", "other", "share", "top", "base", "first", "second", "numbers", "x", "y"] b_mixed (defScope s_mixed) (fun _ => true) (defBody s_mixed) = true := by decide +kernel
abbrev s_is_fraction : Stmt := topS 17
theorem sc_is_fraction : FnScope ["value"] ["value"] (defScope s_is_fraction) := ⟨rfl, rfl, rfl, by decide +kernel, rfl, by decide +kernel, by decide +kernel⟩
theorem ch_is_fraction : chSs T ["value"] b_is_fraction (defScope s_is_fraction) (fun _ => true) (defBody s_is_fraction) = true := by decide +kernel
abbrev s_compared : Stmt := topS 19
theorem sc_compared : FnScope ["one", "other"] ["one", "other"] (defScope s_compared) := ⟨rfl, rfl, rfl, by decide +kernel, rfl, by decide +kernel, by decide +kernel⟩
theorem ch_compared : chSs T ["one", "other"] b_compared (defScope s_compared) (fun _ => true) (defBody s_compared) = true := by decide +kernel
abbrev s_between : Stmt := topS 47
theorem sc_between : FnScope ["one", "other", "share"] ["one", "other", "share"] (defScope s_between) := ⟨rfl, rfl, rfl, by decide +kernel, rfl, by decide +kernel, by decide +kernel⟩
theorem ch_between : chSs T ["one", "other", "share"] b_between (defScope s_between) (fun _ => true) (defBody s_between) = true := by decide +kernel
abbrev s__law_sign : Stmt := topS 73
theorem sc__law_sign : FnScope ["fraction"] ["fraction"] (defScope s__law_sign) := ⟨rfl, rfl, rfl, by decide +kernel, rfl, by decide +kernel, by decide +kernel⟩
theorem ch__law_sign : chSs T ["fraction"] b__law_sign (defScope s__law_sign) (fun _ => true) (defBody s__law_sign) = true := by decide +kernel
abbrev s__law_over : Stmt := topS 72
theorem sc__law_over : FnScope ["side", "point", "k"] ["side", "point"] (defScope s__law_over) := ⟨rfl, rfl, rfl, by decide +kernel, rfl, by decide +kernel, by decide +kernel⟩
theorem ch__law_over : chSs T ["side", "point", "k"] b__law_over (defScope s__law_over) (fun _ => true) (defBody s__law_over) = true := by decide +kernel
abbrev s_turned_side : Stmt := topS 42
theorem sc_turned_side : FnScope ["side", "number"] ["side"] (defScope s_turned_side) := ⟨rfl, rfl, rfl, by decide +kernel, rfl, by decide +kernel, by decide +kernel⟩
theorem ch_turned_side : chSs T ["side", "number"] b_turned_side (defScope s_turned_side) (fun _ => true) (defBody s_turned_side) = true := by decide +kernel
abbrev s_opposite : Stmt := topS 43
theorem sc_opposite : FnScope ["side"] ["side"] (defScope s_opposite) := ⟨rfl, rfl, rfl, by decide +kernel, rfl, by decide +kernel, by decide +kernel⟩
theorem ch_opposite : chSs T ["side"] b_opposite (defScope s_opposite) (fun _ => true) (defBody s_opposite) = true := by decide +kernel
abbrev s__law_at : Stmt := topS 68
theorem sc__law_at : FnScope ["places", "base", "top", "bottom"] ["places"] (defScope s__law_at) := ⟨rfl, rfl, rfl, by decide +kernel, rfl, by decide +kernel, by decide +kernel⟩
theorem ch__law_at : chSs T ["places", "base", "top", "bottom"] b__law_at (defScope s__law_at) (fun _ => true) (defBody s__law_at) = true := by decide +kernel
abbrev s__law_places : Stmt := topS 67
theorem sc__law_places : FnScope ["point", "x"] ["point"] (defScope s__law_places) := ⟨rfl, rfl, rfl, by decide +kernel, rfl, by decide +kernel, by decide +kernel⟩
theorem ch__law_places : chSs T ["point", "x"] b__law_places (defScope s__law_places) (fun _ => true) (defBody s__law_places) = true := by decide +kernel
abbrev s__law_mix : Stmt := topS 69
theorem sc__law_mix : FnScope ["one", "other", "share", "found", "here", "there"] ["one", "other", "share"] (defScope s__law_mix) := ⟨rfl, rfl, rfl, by decide +kernel, rfl, by decide +kernel, by decide +kernel⟩
theorem ch__law_mix : chSs T ["one", "other", "share", "found", "here", "there"] b__law_mix (defScope s__law_mix) (fun _ => true) (defBody s__law_mix) = true := by decide +kernel
abbrev s__law_way_right : Stmt := topS 76
theorem sc__law_way_right : FnScope ["box", "size", "side", "one", "other", "named", "over", "share", "point", "due", "told", "wide", "met", "lesser", "greater"] ["box", "size", "side", "one", "other", "named"] (defScope s__law_way_right) := ⟨rfl, rfl, rfl, by decide +kernel, rfl, by decide +kernel, by decide +kernel⟩
theorem ch__law_way_right : chSs T ["box", "size", "side", "one", "other", "named", "over", "share", "point", "due", "told", "wide", "met", "lesser", "greater"] b__law_way_right (defScope s__law_way_right) (fun _ => true) (defBody s__law_way_right) = true := by decide +kernel
abbrev s_push_from : Stmt := topS 52
theorem sc_push_from : FnScope ["one", "other", "numbers", "x", "y"] ["one", "other"] (defScope s_push_from) := ⟨rfl, rfl, rfl, by decide +kernel, rfl, by decide +kernel, by decide +kernel⟩
theorem ch_push_from : chSs T ["one", "other", "numbers", "x", "y"] b_push_from (defScope s_push_from) (fun _ => true) (defBody s_push_from) = true := by decide +kernel
abbrev s_push_between : Stmt := topS 53
theorem sc_push_between : FnScope ["one", "other"] ["one", "other"] (defScope s_push_between) := ⟨rfl, rfl, rfl, by decide +kernel, rfl, by decide +kernel, by decide +kernel⟩
theorem ch_push_between : chSs T ["one", "other"] b_push_between (defScope s_push_between) (fun _ => true) (defBody s_push_between) = true := by decide +kernel
abbrev s_added : Stmt := topS 48
theorem sc_added : FnScope ["point", "push", "numbers", "x", "y"] ["point", "push"] (defScope s_added) := ⟨rfl, rfl, rfl, by decide +kernel, rfl, by decide +kernel, by decide +kernel⟩
theorem ch_added : chSs T ["point", "push", "numbers", "x", "y"] b_added (defScope s_added) (fun _ => true) (defBody s_added) = true := by decide +kernel
abbrev s_moved : Stmt := topS 49
theorem sc_moved : FnScope ["point", "push"] ["point", "push"] (defScope s_moved) := ⟨rfl, rfl, rfl, by decide +kernel, rfl, by decide +kernel, by decide +kernel⟩
theorem ch_moved : chSs T ["point", "push"] b_moved (defScope s_moved) (fun _ => true) (defBody s_moved) = true := by decide +kernel
abbrev s_check_fraction : Stmt := topS 33
theorem sc_check_fraction : FnScope ["value"] ["value"] (defScope s_check_fraction) := ⟨rfl, rfl, rfl, by decide +kernel, rfl, by decide +kernel, by decide +kernel⟩
theorem ch_check_fraction : chSs T ["value"] b_check_fraction (defScope s_check_fraction) (fun _ => true) (defBody s_check_fraction) = true := by decide +kernel
abbrev s_stretched : Stmt := topS 50
theorem sc_stretched : FnScope ["point", "factor", "x"] ["point", "factor"] (defScope s_stretched) := ⟨rfl, rfl, rfl, by decide +kernel, rfl, by decide +kernel, by decide +kernel⟩
theorem ch_stretched : chSs T ["point", "factor", "x"] b_stretched (defScope s_stretched) (fun _ => true) (defBody s_stretched) = true := by decide +kernel
abbrev s_scaled : Stmt := topS 51
theorem sc_scaled : FnScope ["point", "factor"] ["point", "factor"] (defScope s_scaled) := ⟨rfl, rfl, rfl, by decide +kernel, rfl, by decide +kernel, by decide +kernel⟩
theorem ch_scaled : chSs T ["point", "factor"] b_scaled (defScope s_scaled) (fun _ => true) (defBody s_scaled) = true := by decide +kernel
abbrev s_places_in : Stmt := topS 36
theorem sc_places_in : FnScope ["point", "number"] ["point"] (defScope s_places_in) := ⟨rfl, rfl, rfl, by decide +kernel, rfl, by decide +kernel, by decide +kernel⟩
theorem ch_places_in : chSs T ["point", "number"] b_places_in (defScope s_places_in) (fun _ => true) (defBody s_places_in) = true := by decide +kernel
abbrev s_places_of : Stmt := topS 37
theorem sc_places_of : FnScope ["point"] ["point"] (defScope s_places_of) := ⟨rfl, rfl, rfl, by decide +kernel, rfl, by decide +kernel, by decide +kernel⟩
theorem ch_places_of : chSs T ["point"] b_places_of (defScope s_places_of) (fun _ => true) (defBody s_places_of) = true := by decide +kernel
abbrev s_from_places : Stmt := topS 34
theorem sc_from_places : FnScope ["places", "base", "top", "bottom"] ["places"] (defScope s_from_places) := ⟨rfl, rfl, rfl, by decide +kernel, rfl, by decide +kernel, by decide +kernel⟩
theorem ch_from_places : chSs T ["places", "base", "top", "bottom"] b_from_places (defScope s_from_places) (fun _ => true) (defBody s_from_places) = true := by decide +kernel
abbrev s_point_at : Stmt := topS 35
theorem sc_point_at : FnScope ["places", "item"] ["places"] (defScope s_point_at) := ⟨rfl, rfl, rfl, by decide +kernel, rfl, by decide +kernel, by decide +kernel⟩
theorem ch_point_at : chSs T ["places", "item"] b_point_at (defScope s_point_at) (fun _ => true) (defBody s_point_at) = true := by decide +kernel
abbrev s_middle : Stmt := topS 46
theorem sc_middle : FnScope ["one", "other"] ["one", "other"] (defScope s_middle) := ⟨rfl, rfl, rfl, by decide +kernel, rfl, by decide +kernel, by decide +kernel⟩
theorem ch_middle : chSs T ["one", "other"] b_middle (defScope s_middle) (fun _ => true) (defBody s_middle) = true := by decide +kernel
abbrev s__law_pushed_right : Stmt := topS 77
theorem sc__law_pushed_right : FnScope ["box", "size", "side", "one", "other", "named", "factor", "own", "pushed", "grown", "dues", "push", "back", "sums", "x", "y", "due"] ["box", "size", "side", "one", "other", "named"] (defScope s__law_pushed_right) := ⟨rfl, rfl, rfl, by decide +kernel, rfl, by decide +kernel, by decide +kernel⟩
theorem ch__law_pushed_right : chSs T ["box", "size", "side", "one", "other", "named", "factor", "own", "pushed", "grown", "dues", "push", "back", "sums", "x", "y", "due"] b__law_pushed_right (defScope s__law_pushed_right) (fun _ => true) (defBody s__law_pushed_right) = true := by decide +kernel
abbrev s__law_parts_right : Stmt := topS 78
theorem sc__law_parts_right : FnScope ["box", "one", "other", "third", "named", "first", "second", "told", "rows", "halves"] ["box", "one", "other", "third", "named"] (defScope s__law_parts_right) := ⟨rfl, rfl, rfl, by decide +kernel, rfl, by decide +kernel, by decide +kernel⟩
theorem ch__law_parts_right : chSs T ["box", "one", "other", "third", "named", "first", "second", "told", "rows", "halves"] b__law_parts_right (defScope s__law_parts_right) (fun _ => true) (defBody s__law_parts_right) = true := by decide +kernel
abbrev s_side_from : Stmt := topS 28
theorem sc_side_from : FnScope ["numbers", "shared", "number"] ["numbers"] (defScope s_side_from) := ⟨rfl, rfl, rfl, by decide +kernel, rfl, by decide +kernel, by decide +kernel⟩
theorem ch_side_from : chSs T ["numbers", "shared", "number"] b_side_from (defScope s_side_from) (fun _ => true) (defBody s_side_from) = true := by decide +kernel
abbrev s_side_of : Stmt := topS 38
theorem sc_side_of : FnScope ["numbers", "number"] ["numbers"] (defScope s_side_of) := ⟨rfl, rfl, rfl, by decide +kernel, rfl, by decide +kernel, by decide +kernel⟩
theorem ch_side_of : chSs T ["numbers", "number"] b_side_of (defScope s_side_of) (fun _ => true) (defBody s_side_of) = true := by decide +kernel
abbrev s_law : Stmt := topS 79
theorem sc_law : FnScope ["script", "k", "box", "named", "size", "numbers", "side", "points", "turn"] ["script"] (defScope s_law) := ⟨rfl, rfl, rfl, by decide +kernel, rfl, by decide +kernel, by decide +kernel⟩
theorem ch_law : chSs T ["script", "k", "box", "named", "size", "numbers", "side", "points", "turn"] b_law (defScope s_law) (fun _ => true) (defBody s_law) = true := by decide +kernel
section
variable {K : PySem.W.Frag} {mg : Str → Option Value} {h : Heap}
theorem at__law_box {fa : Addr} {oc kV dc pm cd ct : Value} {od an : Option Addr} {sl : Array (Option Value)} (X : K.In h) (G : h.Ns mainGlobals mg) (a : PySem.W.nsIn K mainGlobals "_law_box" = some (some (.ref fa))) (l : K.lookup fa = some ⟨oc, od, .func (PySem.W.fnOf "_law_box" "_law_box" (defArgs s__law_box) (defBody s__law_box) (defScope s__law_box) .none kV dc pm an cd ct), sl⟩) (c : PySem.W.codeIn K cd "_law_box" = true) (k : PySem.W.keepIn K (.ref fa) = true) : DefAt T K mg 0 ⟨1, 1, b__law_box, false⟩ := by
  refine def_at (x := "_law_box") (st := s__law_box) X G a l c k rfl sc__law_box rfl rfl ch__law_box (fun _ _ _ _ _ _ us hl => match us, hl with | [_], _ => rfl) fun fd Fn np ks perm hk => ?_
  exact (kw_no (T := T) (by decide) hk).elim
theorem at__law_cell {fa : Addr} {oc kV dc pm cd ct : Value} {od an : Option Addr} {sl : Array (Option Value)} (X : K.In h) (G : h.Ns mainGlobals mg) (a : PySem.W.nsIn K mainGlobals "_law_cell" = some (some (.ref fa))) (l : K.lookup fa = some ⟨oc, od, .func (PySem.W.fnOf "_law_cell" "_law_cell" (defArgs s__law_cell) (defBody s__law_cell) (defScope s__law_cell) .none kV dc pm an cd ct), sl⟩) (c : PySem.W.codeIn K cd "_law_cell" = true) (k : PySem.W.keepIn K (.ref fa) = true) : DefAt T K mg 1 ⟨2, 2, b__law_cell, false⟩ := by
  refine def_at (x := "_law_cell") (st := s__law_cell) X G a l c k rfl sc__law_cell rfl rfl ch__law_cell (fun _ _ _ _ _ _ us hl => match us, hl with | [_, _], _ => rfl) fun fd Fn np ks perm hk => ?_
  exact (kw_no (T := T) (by decide) hk).elim
theorem at__law_take {fa : Addr} {oc kV dc pm cd ct : Value} {od an : Option Addr} {sl : Array (Option Value)} (X : K.In h) (G : h.Ns mainGlobals mg) (a : PySem.W.nsIn K mainGlobals "_law_take" = some (some (.ref fa))) (l : K.lookup fa = some ⟨oc, od, .func (PySem.W.fnOf "_law_take" "_law_take" (defArgs s__law_take) (defBody s__law_take) (defScope s__law_take) .none kV dc pm an cd ct), sl⟩) (c : PySem.W.codeIn K cd "_law_take" = true) (k : PySem.W.keepIn K (.ref fa) = true) : DefAt T K mg 2 ⟨2, 4, b__law_take, false⟩ := by
  refine def_at (x := "_law_take") (st := s__law_take) X G a l c k rfl sc__law_take rfl rfl ch__law_take (fun _ _ _ _ _ _ us hl => match us, hl with | [_, _], _ => rfl) fun fd Fn np ks perm hk => ?_
  exact (kw_no (T := T) (by decide) hk).elim
theorem at__law_factor {fa : Addr} {oc kV dc pm cd ct : Value} {od an : Option Addr} {sl : Array (Option Value)} (X : K.In h) (G : h.Ns mainGlobals mg) (a : PySem.W.nsIn K mainGlobals "_law_factor" = some (some (.ref fa))) (l : K.lookup fa = some ⟨oc, od, .func (PySem.W.fnOf "_law_factor" "_law_factor" (defArgs s__law_factor) (defBody s__law_factor) (defScope s__law_factor) .none kV dc pm an cd ct), sl⟩) (c : PySem.W.codeIn K cd "_law_factor" = true) (k : PySem.W.keepIn K (.ref fa) = true) : DefAt T K mg 3 ⟨1, 5, b__law_factor, false⟩ := by
  refine def_at (x := "_law_factor") (st := s__law_factor) X G a l c k rfl sc__law_factor rfl rfl ch__law_factor (fun _ _ _ _ _ _ us hl => match us, hl with | [_], _ => rfl) fun fd Fn np ks perm hk => ?_
  exact (kw_no (T := T) (by decide) hk).elim
theorem at__law_side {fa : Addr} {oc kV dc pm cd ct : Value} {od an : Option Addr} {sl : Array (Option Value)} (X : K.In h) (G : h.Ns mainGlobals mg) (a : PySem.W.nsIn K mainGlobals "_law_side" = some (some (.ref fa))) (l : K.lookup fa = some ⟨oc, od, .func (PySem.W.fnOf "_law_side" "_law_side" (defArgs s__law_side) (defBody s__law_side) (defScope s__law_side) .none kV dc pm an cd ct), sl⟩) (c : PySem.W.codeIn K cd "_law_side" = true) (k : PySem.W.keepIn K (.ref fa) = true) : DefAt T K mg 4 ⟨1, 3, b__law_side, false⟩ := by
  refine def_at (x := "_law_side") (st := s__law_side) X G a l c k rfl sc__law_side rfl rfl ch__law_side (fun _ _ _ _ _ _ us hl => match us, hl with | [_], _ => rfl) fun fd Fn np ks perm hk => ?_
  exact (kw_no (T := T) (by decide) hk).elim
theorem at__law_drawn_side {fa : Addr} {oc kV dc pm cd ct : Value} {od an : Option Addr} {sl : Array (Option Value)} (X : K.In h) (G : h.Ns mainGlobals mg) (a : PySem.W.nsIn K mainGlobals "_law_drawn_side" = some (some (.ref fa))) (l : K.lookup fa = some ⟨oc, od, .func (PySem.W.fnOf "_law_drawn_side" "_law_drawn_side" (defArgs s__law_drawn_side) (defBody s__law_drawn_side) (defScope s__law_drawn_side) .none kV dc pm an cd ct), sl⟩) (c : PySem.W.codeIn K cd "_law_drawn_side" = true) (k : PySem.W.keepIn K (.ref fa) = true) : DefAt T K mg 5 ⟨2, 7, b__law_drawn_side, true⟩ := by
  refine def_at (x := "_law_drawn_side") (st := s__law_drawn_side) X G a l c k rfl sc__law_drawn_side rfl rfl ch__law_drawn_side (fun _ _ _ _ _ _ us hl => match us, hl with | [_, _], _ => rfl) fun fd Fn np ks perm hk => ?_
  exact (kw_no (T := T) (by decide) hk).elim
theorem at__law_point {fa : Addr} {oc kV dc pm cd ct : Value} {od an : Option Addr} {sl : Array (Option Value)} (X : K.In h) (G : h.Ns mainGlobals mg) (a : PySem.W.nsIn K mainGlobals "_law_point" = some (some (.ref fa))) (l : K.lookup fa = some ⟨oc, od, .func (PySem.W.fnOf "_law_point" "_law_point" (defArgs s__law_point) (defBody s__law_point) (defScope s__law_point) .none kV dc pm an cd ct), sl⟩) (c : PySem.W.codeIn K cd "_law_point" = true) (k : PySem.W.keepIn K (.ref fa) = true) : DefAt T K mg 6 ⟨1, 3, b__law_point, false⟩ := by
  refine def_at (x := "_law_point") (st := s__law_point) X G a l c k rfl sc__law_point rfl rfl ch__law_point (fun _ _ _ _ _ _ us hl => match us, hl with | [_], _ => rfl) fun fd Fn np ks perm hk => ?_
  exact (kw_no (T := T) (by decide) hk).elim
theorem at__law_any_point {fa : Addr} {oc kV dc pm cd ct : Value} {od an : Option Addr} {sl : Array (Option Value)} (X : K.In h) (G : h.Ns mainGlobals mg) (a : PySem.W.nsIn K mainGlobals "_law_any_point" = some (some (.ref fa))) (l : K.lookup fa = some ⟨oc, od, .func (PySem.W.fnOf "_law_any_point" "_law_any_point" (defArgs s__law_any_point) (defBody s__law_any_point) (defScope s__law_any_point) .none kV dc pm an cd ct), sl⟩) (c : PySem.W.codeIn K cd "_law_any_point" = true) (k : PySem.W.keepIn K (.ref fa) = true) : DefAt T K mg 7 ⟨4, 6, b__law_any_point, false⟩ := by
  refine def_at (x := "_law_any_point") (st := s__law_any_point) X G a l c k rfl sc__law_any_point rfl rfl ch__law_any_point (fun _ _ _ _ _ _ us hl => match us, hl with | [_, _, _, _], _ => rfl) fun fd Fn np ks perm hk => ?_
  exact (kw_no (T := T) (by decide) hk).elim
theorem at__law_same {fa : Addr} {oc kV dc pm cd ct : Value} {od an : Option Addr} {sl : Array (Option Value)} (X : K.In h) (G : h.Ns mainGlobals mg) (a : PySem.W.nsIn K mainGlobals "_law_same" = some (some (.ref fa))) (l : K.lookup fa = some ⟨oc, od, .func (PySem.W.fnOf "_law_same" "_law_same" (defArgs s__law_same) (defBody s__law_same) (defScope s__law_same) .none kV dc pm an cd ct), sl⟩) (c : PySem.W.codeIn K cd "_law_same" = true) (k : PySem.W.keepIn K (.ref fa) = true) : DefAt T K mg 8 ⟨2, 4, b__law_same, false⟩ := by
  refine def_at (x := "_law_same") (st := s__law_same) X G a l c k rfl sc__law_same rfl rfl ch__law_same (fun _ _ _ _ _ _ us hl => match us, hl with | [_, _], _ => rfl) fun fd Fn np ks perm hk => ?_
  exact (kw_no (T := T) (by decide) hk).elim
theorem at__law_low {fa : Addr} {oc kV dc pm cd ct : Value} {od an : Option Addr} {sl : Array (Option Value)} (X : K.In h) (G : h.Ns mainGlobals mg) (a : PySem.W.nsIn K mainGlobals "_law_low" = some (some (.ref fa))) (l : K.lookup fa = some ⟨oc, od, .func (PySem.W.fnOf "_law_low" "_law_low" (defArgs s__law_low) (defBody s__law_low) (defScope s__law_low) .none kV dc pm an cd ct), sl⟩) (c : PySem.W.codeIn K cd "_law_low" = true) (k : PySem.W.keepIn K (.ref fa) = true) : DefAt T K mg 9 ⟨2, 3, b__law_low, false⟩ := by
  refine def_at (x := "_law_low") (st := s__law_low) X G a l c k rfl sc__law_low rfl rfl ch__law_low (fun _ _ _ _ _ _ us hl => match us, hl with | [_, _], _ => rfl) fun fd Fn np ks perm hk => ?_
  exact (kw_no (T := T) (by decide) hk).elim
theorem at__law_plus {fa : Addr} {oc kV dc pm cd ct : Value} {od an : Option Addr} {sl : Array (Option Value)} (X : K.In h) (G : h.Ns mainGlobals mg) (a : PySem.W.nsIn K mainGlobals "_law_plus" = some (some (.ref fa))) (l : K.lookup fa = some ⟨oc, od, .func (PySem.W.fnOf "_law_plus" "_law_plus" (defArgs s__law_plus) (defBody s__law_plus) (defScope s__law_plus) .none kV dc pm an cd ct), sl⟩) (c : PySem.W.codeIn K cd "_law_plus" = true) (k : PySem.W.keepIn K (.ref fa) = true) : DefAt T K mg 10 ⟨2, 2, b__law_plus, false⟩ := by
  refine def_at (x := "_law_plus") (st := s__law_plus) X G a l c k rfl sc__law_plus rfl rfl ch__law_plus (fun _ _ _ _ _ _ us hl => match us, hl with | [_, _], _ => rfl) fun fd Fn np ks perm hk => ?_
  exact (kw_no (T := T) (by decide) hk).elim
theorem at__law_less {fa : Addr} {oc kV dc pm cd ct : Value} {od an : Option Addr} {sl : Array (Option Value)} (X : K.In h) (G : h.Ns mainGlobals mg) (a : PySem.W.nsIn K mainGlobals "_law_less" = some (some (.ref fa))) (l : K.lookup fa = some ⟨oc, od, .func (PySem.W.fnOf "_law_less" "_law_less" (defArgs s__law_less) (defBody s__law_less) (defScope s__law_less) .none kV dc pm an cd ct), sl⟩) (c : PySem.W.codeIn K cd "_law_less" = true) (k : PySem.W.keepIn K (.ref fa) = true) : DefAt T K mg 11 ⟨2, 2, b__law_less, false⟩ := by
  refine def_at (x := "_law_less") (st := s__law_less) X G a l c k rfl sc__law_less rfl rfl ch__law_less (fun _ _ _ _ _ _ us hl => match us, hl with | [_, _], _ => rfl) fun fd Fn np ks perm hk => ?_
  exact (kw_no (T := T) (by decide) hk).elim
theorem at__law_times {fa : Addr} {oc kV dc pm cd ct : Value} {od an : Option Addr} {sl : Array (Option Value)} (X : K.In h) (G : h.Ns mainGlobals mg) (a : PySem.W.nsIn K mainGlobals "_law_times" = some (some (.ref fa))) (l : K.lookup fa = some ⟨oc, od, .func (PySem.W.fnOf "_law_times" "_law_times" (defArgs s__law_times) (defBody s__law_times) (defScope s__law_times) .none kV dc pm an cd ct), sl⟩) (c : PySem.W.codeIn K cd "_law_times" = true) (k : PySem.W.keepIn K (.ref fa) = true) : DefAt T K mg 12 ⟨2, 2, b__law_times, false⟩ := by
  refine def_at (x := "_law_times") (st := s__law_times) X G a l c k rfl sc__law_times rfl rfl ch__law_times (fun _ _ _ _ _ _ us hl => match us, hl with | [_, _], _ => rfl) fun fd Fn np ks perm hk => ?_
  exact (kw_no (T := T) (by decide) hk).elim
theorem at_is_tuple {fa : Addr} {oc kV dc pm cd ct : Value} {od an : Option Addr} {sl : Array (Option Value)} (X : K.In h) (G : h.Ns mainGlobals mg) (a : PySem.W.nsIn K mainGlobals "is_tuple" = some (some (.ref fa))) (l : K.lookup fa = some ⟨oc, od, .func (PySem.W.fnOf "is_tuple" "is_tuple" (defArgs s_is_tuple) (defBody s_is_tuple) (defScope s_is_tuple) .none kV dc pm an cd ct), sl⟩) (c : PySem.W.codeIn K cd "is_tuple" = true) (k : PySem.W.keepIn K (.ref fa) = true) : DefAt T K mg 13 ⟨2, 2, b_is_tuple, false⟩ := by
  refine def_at (x := "is_tuple") (st := s_is_tuple) X G a l c k rfl sc_is_tuple rfl rfl ch_is_tuple (fun _ _ _ _ _ _ us hl => match us, hl with | [_, _], _ => rfl) fun fd Fn np ks perm hk => ?_
  exact (kw_no (T := T) (by decide) hk).elim
theorem at_is_integer {fa : Addr} {oc kV dc pm cd ct : Value} {od an : Option Addr} {sl : Array (Option Value)} (X : K.In h) (G : h.Ns mainGlobals mg) (a : PySem.W.nsIn K mainGlobals "is_integer" = some (some (.ref fa))) (l : K.lookup fa = some ⟨oc, od, .func (PySem.W.fnOf "is_integer" "is_integer" (defArgs s_is_integer) (defBody s_is_integer) (defScope s_is_integer) .none kV dc pm an cd ct), sl⟩) (c : PySem.W.codeIn K cd "is_integer" = true) (k : PySem.W.keepIn K (.ref fa) = true) : DefAt T K mg 14 ⟨1, 1, b_is_integer, false⟩ := by
  refine def_at (x := "is_integer") (st := s_is_integer) X G a l c k rfl sc_is_integer rfl rfl ch_is_integer (fun _ _ _ _ _ _ us hl => match us, hl with | [_], _ => rfl) fun fd Fn np ks perm hk => ?_
  exact (kw_no (T := T) (by decide) hk).elim
theorem at_are_integers {fa : Addr} {oc kV dc pm cd ct : Value} {od an : Option Addr} {sl : Array (Option Value)} (X : K.In h) (G : h.Ns mainGlobals mg) (a : PySem.W.nsIn K mainGlobals "are_integers" = some (some (.ref fa))) (l : K.lookup fa = some ⟨oc, od, .func (PySem.W.fnOf "are_integers" "are_integers" (defArgs s_are_integers) (defBody s_are_integers) (defScope s_are_integers) .none kV dc pm an cd ct), sl⟩) (c : PySem.W.codeIn K cd "are_integers" = true) (k : PySem.W.keepIn K (.ref fa) = true) : DefAt T K mg 15 ⟨2, 3, b_are_integers, false⟩ := by
  refine def_at (x := "are_integers") (st := s_are_integers) X G a l c k rfl sc_are_integers rfl rfl ch_are_integers (fun _ _ _ _ _ _ us hl => match us, hl with | [_, _], _ => rfl) fun fd Fn np ks perm hk => ?_
  exact (kw_no (T := T) (by decide) hk).elim
theorem at_shared_factor {fa : Addr} {oc kV dc pm cd ct : Value} {od an : Option Addr} {sl : Array (Option Value)} (X : K.In h) (G : h.Ns mainGlobals mg) (a : PySem.W.nsIn K mainGlobals "shared_factor" = some (some (.ref fa))) (l : K.lookup fa = some ⟨oc, od, .func (PySem.W.fnOf "shared_factor" "shared_factor" (defArgs s_shared_factor) (defBody s_shared_factor) (defScope s_shared_factor) .none kV dc pm an cd ct), sl⟩) (c : PySem.W.codeIn K cd "shared_factor" = true) (k : PySem.W.keepIn K (.ref fa) = true) : DefAt T K mg 16 ⟨1, 3, b_shared_factor, false⟩ := by
  refine def_at (x := "shared_factor") (st := s_shared_factor) X G a l c k rfl sc_shared_factor rfl rfl ch_shared_factor (fun _ _ _ _ _ _ us hl => match us, hl with | [_], _ => rfl) fun fd Fn np ks perm hk => ?_
  exact (kw_no (T := T) (by decide) hk).elim
theorem at_is_side_of {fa : Addr} {oc kV dc pm cd ct : Value} {od an : Option Addr} {sl : Array (Option Value)} (X : K.In h) (G : h.Ns mainGlobals mg) (a : PySem.W.nsIn K mainGlobals "is_side_of" = some (some (.ref fa))) (l : K.lookup fa = some ⟨oc, od, .func (PySem.W.fnOf "is_side_of" "is_side_of" (defArgs s_is_side_of) (defBody s_is_side_of) (defScope s_is_side_of) .none kV dc pm an cd ct), sl⟩) (c : PySem.W.codeIn K cd "is_side_of" = true) (k : PySem.W.keepIn K (.ref fa) = true) : DefAt T K mg 17 ⟨2, 3, b_is_side_of, false⟩ := by
  refine def_at (x := "is_side_of") (st := s_is_side_of) X G a l c k rfl sc_is_side_of rfl rfl ch_is_side_of (fun _ _ _ _ _ _ us hl => match us, hl with | [_, _], _ => rfl) fun fd Fn np ks perm hk => ?_
  exact (kw_no (T := T) (by decide) hk).elim
theorem at_is_side {fa : Addr} {oc kV dc pm cd ct : Value} {od an : Option Addr} {sl : Array (Option Value)} (X : K.In h) (G : h.Ns mainGlobals mg) (a : PySem.W.nsIn K mainGlobals "is_side" = some (some (.ref fa))) (l : K.lookup fa = some ⟨oc, od, .func (PySem.W.fnOf "is_side" "is_side" (defArgs s_is_side) (defBody s_is_side) (defScope s_is_side) .none kV dc pm an cd ct), sl⟩) (c : PySem.W.codeIn K cd "is_side" = true) (k : PySem.W.keepIn K (.ref fa) = true) : DefAt T K mg 18 ⟨1, 1, b_is_side, false⟩ := by
  refine def_at (x := "is_side") (st := s_is_side) X G a l c k rfl sc_is_side rfl rfl ch_is_side (fun _ _ _ _ _ _ us hl => match us, hl with | [_], _ => rfl) fun fd Fn np ks perm hk => ?_
  exact (kw_no (T := T) (by decide) hk).elim
theorem at_check_side {fa : Addr} {oc kV dc pm cd ct : Value} {od an : Option Addr} {sl : Array (Option Value)} (X : K.In h) (G : h.Ns mainGlobals mg) (a : PySem.W.nsIn K mainGlobals "check_side" = some (some (.ref fa))) (l : K.lookup fa = some ⟨oc, od, .func (PySem.W.fnOf "check_side" "check_side" (defArgs s_check_side) (defBody s_check_side) (defScope s_check_side) .none kV dc pm an cd ct), sl⟩) (c : PySem.W.codeIn K cd "check_side" = true) (k : PySem.W.keepIn K (.ref fa) = true) : DefAt T K mg 19 ⟨1, 1, b_check_side, false⟩ := by
  refine def_at (x := "check_side") (st := s_check_side) X G a l c k rfl sc_check_side rfl rfl ch_check_side (fun _ _ _ _ _ _ us hl => match us, hl with | [_], _ => rfl) fun fd Fn np ks perm hk => ?_
  exact (kw_no (T := T) (by decide) hk).elim
theorem at_is_of_size {fa : Addr} {oc kV dc pm cd ct : Value} {od an : Option Addr} {sl : Array (Option Value)} (X : K.In h) (G : h.Ns mainGlobals mg) (a : PySem.W.nsIn K mainGlobals "is_of_size" = some (some (.ref fa))) (l : K.lookup fa = some ⟨oc, od, .func (PySem.W.fnOf "is_of_size" "is_of_size" (defArgs s_is_of_size) (defBody s_is_of_size) (defScope s_is_of_size) .none kV dc pm an cd ct), sl⟩) (c : PySem.W.codeIn K cd "is_of_size" = true) (k : PySem.W.keepIn K (.ref fa) = true) : DefAt T K mg 20 ⟨2, 2, b_is_of_size, false⟩ := by
  refine def_at (x := "is_of_size") (st := s_is_of_size) X G a l c k rfl sc_is_of_size rfl rfl ch_is_of_size (fun _ _ _ _ _ _ us hl => match us, hl with | [_, _], _ => rfl) fun fd Fn np ks perm hk => ?_
  exact (kw_no (T := T) (by decide) hk).elim
theorem at_check_like {fa : Addr} {oc kV dc pm cd ct : Value} {od an : Option Addr} {sl : Array (Option Value)} (X : K.In h) (G : h.Ns mainGlobals mg) (a : PySem.W.nsIn K mainGlobals "check_like" = some (some (.ref fa))) (l : K.lookup fa = some ⟨oc, od, .func (PySem.W.fnOf "check_like" "check_like" (defArgs s_check_like) (defBody s_check_like) (defScope s_check_like) .none kV dc pm an cd ct), sl⟩) (c : PySem.W.codeIn K cd "check_like" = true) (k : PySem.W.keepIn K (.ref fa) = true) : DefAt T K mg 21 ⟨2, 2, b_check_like, false⟩ := by
  refine def_at (x := "check_like") (st := s_check_like) X G a l c k rfl sc_check_like rfl rfl ch_check_like (fun _ _ _ _ _ _ us hl => match us, hl with | [_, _], _ => rfl) fun fd Fn np ks perm hk => ?_
  exact (kw_no (T := T) (by decide) hk).elim
theorem at_size_of {fa : Addr} {oc kV dc pm cd ct : Value} {od an : Option Addr} {sl : Array (Option Value)} (X : K.In h) (G : h.Ns mainGlobals mg) (a : PySem.W.nsIn K mainGlobals "size_of" = some (some (.ref fa))) (l : K.lookup fa = some ⟨oc, od, .func (PySem.W.fnOf "size_of" "size_of" (defArgs s_size_of) (defBody s_size_of) (defScope s_size_of) .none kV dc pm an cd ct), sl⟩) (c : PySem.W.codeIn K cd "size_of" = true) (k : PySem.W.keepIn K (.ref fa) = true) : DefAt T K mg 22 ⟨1, 1, b_size_of, false⟩ := by
  refine def_at (x := "size_of") (st := s_size_of) X G a l c k rfl sc_size_of rfl rfl ch_size_of (fun _ _ _ _ _ _ us hl => match us, hl with | [_], _ => rfl) fun fd Fn np ks perm hk => ?_
  exact (kw_no (T := T) (by decide) hk).elim
theorem at_check_both {fa : Addr} {oc kV dc pm cd ct : Value} {od an : Option Addr} {sl : Array (Option Value)} (X : K.In h) (G : h.Ns mainGlobals mg) (a : PySem.W.nsIn K mainGlobals "check_both" = some (some (.ref fa))) (l : K.lookup fa = some ⟨oc, od, .func (PySem.W.fnOf "check_both" "check_both" (defArgs s_check_both) (defBody s_check_both) (defScope s_check_both) .none kV dc pm an cd ct), sl⟩) (c : PySem.W.codeIn K cd "check_both" = true) (k : PySem.W.keepIn K (.ref fa) = true) : DefAt T K mg 23 ⟨2, 2, b_check_both, false⟩ := by
  refine def_at (x := "check_both") (st := s_check_both) X G a l c k rfl sc_check_both rfl rfl ch_check_both (fun _ _ _ _ _ _ us hl => match us, hl with | [_, _], _ => rfl) fun fd Fn np ks perm hk => ?_
  exact (kw_no (T := T) (by decide) hk).elim
theorem at_lowest {fa : Addr} {oc kV dc pm cd ct : Value} {od an : Option Addr} {sl : Array (Option Value)} (X : K.In h) (G : h.Ns mainGlobals mg) (a : PySem.W.nsIn K mainGlobals "lowest" = some (some (.ref fa))) (l : K.lookup fa = some ⟨oc, od, .func (PySem.W.fnOf "lowest" "lowest" (defArgs s_lowest) (defBody s_lowest) (defScope s_lowest) .none kV dc pm an cd ct), sl⟩) (c : PySem.W.codeIn K cd "lowest" = true) (k : PySem.W.keepIn K (.ref fa) = true) : DefAt T K mg 24 ⟨2, 3, b_lowest, false⟩ := by
  refine def_at (x := "lowest") (st := s_lowest) X G a l c k rfl sc_lowest rfl rfl ch_lowest (fun _ _ _ _ _ _ us hl => match us, hl with | [_, _], _ => rfl) fun fd Fn np ks perm hk => ?_
  exact (kw_no (T := T) (by decide) hk).elim
theorem at_excess_of {fa : Addr} {oc kV dc pm cd ct : Value} {od an : Option Addr} {sl : Array (Option Value)} (X : K.In h) (G : h.Ns mainGlobals mg) (a : PySem.W.nsIn K mainGlobals "excess_of" = some (some (.ref fa))) (l : K.lookup fa = some ⟨oc, od, .func (PySem.W.fnOf "excess_of" "excess_of" (defArgs s_excess_of) (defBody s_excess_of) (defScope s_excess_of) .none kV dc pm an cd ct), sl⟩) (c : PySem.W.codeIn K cd "excess_of" = true) (k : PySem.W.keepIn K (.ref fa) = true) : DefAt T K mg 25 ⟨2, 4, b_excess_of, false⟩ := by
  refine def_at (x := "excess_of") (st := s_excess_of) X G a l c k rfl sc_excess_of rfl rfl ch_excess_of (fun _ _ _ _ _ _ us hl => match us, hl with | [_, _], _ => rfl) fun fd Fn np ks perm hk => ?_
  exact (kw_no (T := T) (by decide) hk).elim
theorem at_excess {fa : Addr} {oc kV dc pm cd ct : Value} {od an : Option Addr} {sl : Array (Option Value)} (X : K.In h) (G : h.Ns mainGlobals mg) (a : PySem.W.nsIn K mainGlobals "excess" = some (some (.ref fa))) (l : K.lookup fa = some ⟨oc, od, .func (PySem.W.fnOf "excess" "excess" (defArgs s_excess) (defBody s_excess) (defScope s_excess) .none kV dc pm an cd ct), sl⟩) (c : PySem.W.codeIn K cd "excess" = true) (k : PySem.W.keepIn K (.ref fa) = true) : DefAt T K mg 26 ⟨2, 2, b_excess, false⟩ := by
  refine def_at (x := "excess") (st := s_excess) X G a l c k rfl sc_excess rfl rfl ch_excess (fun _ _ _ _ _ _ us hl => match us, hl with | [_, _], _ => rfl) fun fd Fn np ks perm hk => ?_
  have hk := kw_in (T := T) (f := 26) (l := [(0, ["point", "side"], [1, 0])]) (by rfl) hk
  simp only [List.mem_cons, List.not_mem_nil, or_false, Prod.mk.injEq] at hk
  obtain ⟨rfl, rfl, rfl⟩ := hk
  · refine kw_of Fn fun _ _ _ _ _ _ us ws zs hu hw hz => ?_
    match us, ws, hu, hw, hz with
    | [], [b0, b1], _, _, hz => simp at hz; subst hz; rfl
theorem at__law_share {fa : Addr} {oc kV dc pm cd ct : Value} {od an : Option Addr} {sl : Array (Option Value)} (X : K.In h) (G : h.Ns mainGlobals mg) (a : PySem.W.nsIn K mainGlobals "_law_share" = some (some (.ref fa))) (l : K.lookup fa = some ⟨oc, od, .func (PySem.W.fnOf "_law_share" "_law_share" (defArgs s__law_share) (defBody s__law_share) (defScope s__law_share) .none kV dc pm an cd ct), sl⟩) (c : PySem.W.codeIn K cd "_law_share" = true) (k : PySem.W.keepIn K (.ref fa) = true) : DefAt T K mg 27 ⟨1, 2, b__law_share, false⟩ := by
  refine def_at (x := "_law_share") (st := s__law_share) X G a l c k rfl sc__law_share rfl rfl ch__law_share (fun _ _ _ _ _ _ us hl => match us, hl with | [_], _ => rfl) fun fd Fn np ks perm hk => ?_
  exact (kw_no (T := T) (by decide) hk).elim
theorem at_sign_of {fa : Addr} {oc kV dc pm cd ct : Value} {od an : Option Addr} {sl : Array (Option Value)} (X : K.In h) (G : h.Ns mainGlobals mg) (a : PySem.W.nsIn K mainGlobals "sign_of" = some (some (.ref fa))) (l : K.lookup fa = some ⟨oc, od, .func (PySem.W.fnOf "sign_of" "sign_of" (defArgs s_sign_of) (defBody s_sign_of) (defScope s_sign_of) .none kV dc pm an cd ct), sl⟩) (c : PySem.W.codeIn K cd "sign_of" = true) (k : PySem.W.keepIn K (.ref fa) = true) : DefAt T K mg 28 ⟨1, 1, b_sign_of, false⟩ := by
  refine def_at (x := "sign_of") (st := s_sign_of) X G a l c k rfl sc_sign_of rfl rfl ch_sign_of (fun _ _ _ _ _ _ us hl => match us, hl with | [_], _ => rfl) fun fd Fn np ks perm hk => ?_
  exact (kw_no (T := T) (by decide) hk).elim
theorem at_standing {fa : Addr} {oc kV dc pm cd ct : Value} {od an : Option Addr} {sl : Array (Option Value)} (X : K.In h) (G : h.Ns mainGlobals mg) (a : PySem.W.nsIn K mainGlobals "standing" = some (some (.ref fa))) (l : K.lookup fa = some ⟨oc, od, .func (PySem.W.fnOf "standing" "standing" (defArgs s_standing) (defBody s_standing) (defScope s_standing) .none kV dc pm an cd ct), sl⟩) (c : PySem.W.codeIn K cd "standing" = true) (k : PySem.W.keepIn K (.ref fa) = true) : DefAt T K mg 29 ⟨2, 2, b_standing, false⟩ := by
  refine def_at (x := "standing") (st := s_standing) X G a l c k rfl sc_standing rfl rfl ch_standing (fun _ _ _ _ _ _ us hl => match us, hl with | [_, _], _ => rfl) fun fd Fn np ks perm hk => ?_
  exact (kw_no (T := T) (by decide) hk).elim
theorem at_is_point {fa : Addr} {oc kV dc pm cd ct : Value} {od an : Option Addr} {sl : Array (Option Value)} (X : K.In h) (G : h.Ns mainGlobals mg) (a : PySem.W.nsIn K mainGlobals "is_point" = some (some (.ref fa))) (l : K.lookup fa = some ⟨oc, od, .func (PySem.W.fnOf "is_point" "is_point" (defArgs s_is_point) (defBody s_is_point) (defScope s_is_point) .none kV dc pm an cd ct), sl⟩) (c : PySem.W.codeIn K cd "is_point" = true) (k : PySem.W.keepIn K (.ref fa) = true) : DefAt T K mg 30 ⟨1, 1, b_is_point, false⟩ := by
  refine def_at (x := "is_point") (st := s_is_point) X G a l c k rfl sc_is_point rfl rfl ch_is_point (fun _ _ _ _ _ _ us hl => match us, hl with | [_], _ => rfl) fun fd Fn np ks perm hk => ?_
  exact (kw_no (T := T) (by decide) hk).elim
theorem at_check_point {fa : Addr} {oc kV dc pm cd ct : Value} {od an : Option Addr} {sl : Array (Option Value)} (X : K.In h) (G : h.Ns mainGlobals mg) (a : PySem.W.nsIn K mainGlobals "check_point" = some (some (.ref fa))) (l : K.lookup fa = some ⟨oc, od, .func (PySem.W.fnOf "check_point" "check_point" (defArgs s_check_point) (defBody s_check_point) (defScope s_check_point) .none kV dc pm an cd ct), sl⟩) (c : PySem.W.codeIn K cd "check_point" = true) (k : PySem.W.keepIn K (.ref fa) = true) : DefAt T K mg 31 ⟨1, 1, b_check_point, false⟩ := by
  refine def_at (x := "check_point") (st := s_check_point) X G a l c k rfl sc_check_point rfl rfl ch_check_point (fun _ _ _ _ _ _ us hl => match us, hl with | [_], _ => rfl) fun fd Fn np ks perm hk => ?_
  exact (kw_no (T := T) (by decide) hk).elim
theorem at_check_two {fa : Addr} {oc kV dc pm cd ct : Value} {od an : Option Addr} {sl : Array (Option Value)} (X : K.In h) (G : h.Ns mainGlobals mg) (a : PySem.W.nsIn K mainGlobals "check_two" = some (some (.ref fa))) (l : K.lookup fa = some ⟨oc, od, .func (PySem.W.fnOf "check_two" "check_two" (defArgs s_check_two) (defBody s_check_two) (defScope s_check_two) .none kV dc pm an cd ct), sl⟩) (c : PySem.W.codeIn K cd "check_two" = true) (k : PySem.W.keepIn K (.ref fa) = true) : DefAt T K mg 32 ⟨2, 2, b_check_two, false⟩ := by
  refine def_at (x := "check_two") (st := s_check_two) X G a l c k rfl sc_check_two rfl rfl ch_check_two (fun _ _ _ _ _ _ us hl => match us, hl with | [_, _], _ => rfl) fun fd Fn np ks perm hk => ?_
  exact (kw_no (T := T) (by decide) hk).elim
theorem at_point_from {fa : Addr} {oc kV dc pm cd ct : Value} {od an : Option Addr} {sl : Array (Option Value)} (X : K.In h) (G : h.Ns mainGlobals mg) (a : PySem.W.nsIn K mainGlobals "point_from" = some (some (.ref fa))) (l : K.lookup fa = some ⟨oc, od, .func (PySem.W.fnOf "point_from" "point_from" (defArgs s_point_from) (defBody s_point_from) (defScope s_point_from) .none kV dc pm an cd ct), sl⟩) (c : PySem.W.codeIn K cd "point_from" = true) (k : PySem.W.keepIn K (.ref fa) = true) : DefAt T K mg 33 ⟨1, 3, b_point_from, false⟩ := by
  refine def_at (x := "point_from") (st := s_point_from) X G a l c k rfl sc_point_from rfl rfl ch_point_from (fun _ _ _ _ _ _ us hl => match us, hl with | [_], _ => rfl) fun fd Fn np ks perm hk => ?_
  exact (kw_no (T := T) (by decide) hk).elim
theorem at_mixed {fa : Addr} {oc kV dc pm cd ct : Value} {od an : Option Addr} {sl : Array (Option Value)} (X : K.In h) (G : h.Ns mainGlobals mg) (a : PySem.W.nsIn K mainGlobals "mixed" = some (some (.ref fa))) (l : K.lookup fa = some ⟨oc, od, .func (PySem.W.fnOf "mixed" "mixed" (defArgs s_mixed) (defBody s_mixed) (defScope s_mixed) .none kV dc pm an cd ct), sl⟩) (c : PySem.W.codeIn K cd "mixed" = true) (k : PySem.W.keepIn K (.ref fa) = true) : DefAt T K mg 34 ⟨3, 10, b_mixed, false⟩ := by
  refine def_at (x := "mixed") (st := s_mixed) X G a l c k rfl sc_mixed rfl rfl ch_mixed (fun _ _ _ _ _ _ us hl => match us, hl with | [_, _, _], _ => rfl) fun fd Fn np ks perm hk => ?_
  exact (kw_no (T := T) (by decide) hk).elim
theorem at_is_fraction {fa : Addr} {oc kV dc pm cd ct : Value} {od an : Option Addr} {sl : Array (Option Value)} (X : K.In h) (G : h.Ns mainGlobals mg) (a : PySem.W.nsIn K mainGlobals "is_fraction" = some (some (.ref fa))) (l : K.lookup fa = some ⟨oc, od, .func (PySem.W.fnOf "is_fraction" "is_fraction" (defArgs s_is_fraction) (defBody s_is_fraction) (defScope s_is_fraction) .none kV dc pm an cd ct), sl⟩) (c : PySem.W.codeIn K cd "is_fraction" = true) (k : PySem.W.keepIn K (.ref fa) = true) : DefAt T K mg 35 ⟨1, 1, b_is_fraction, false⟩ := by
  refine def_at (x := "is_fraction") (st := s_is_fraction) X G a l c k rfl sc_is_fraction rfl rfl ch_is_fraction (fun _ _ _ _ _ _ us hl => match us, hl with | [_], _ => rfl) fun fd Fn np ks perm hk => ?_
  exact (kw_no (T := T) (by decide) hk).elim
theorem at_compared {fa : Addr} {oc kV dc pm cd ct : Value} {od an : Option Addr} {sl : Array (Option Value)} (X : K.In h) (G : h.Ns mainGlobals mg) (a : PySem.W.nsIn K mainGlobals "compared" = some (some (.ref fa))) (l : K.lookup fa = some ⟨oc, od, .func (PySem.W.fnOf "compared" "compared" (defArgs s_compared) (defBody s_compared) (defScope s_compared) .none kV dc pm an cd ct), sl⟩) (c : PySem.W.codeIn K cd "compared" = true) (k : PySem.W.keepIn K (.ref fa) = true) : DefAt T K mg 36 ⟨2, 2, b_compared, false⟩ := by
  refine def_at (x := "compared") (st := s_compared) X G a l c k rfl sc_compared rfl rfl ch_compared (fun _ _ _ _ _ _ us hl => match us, hl with | [_, _], _ => rfl) fun fd Fn np ks perm hk => ?_
  exact (kw_no (T := T) (by decide) hk).elim
theorem at_between {fa : Addr} {oc kV dc pm cd ct : Value} {od an : Option Addr} {sl : Array (Option Value)} (X : K.In h) (G : h.Ns mainGlobals mg) (a : PySem.W.nsIn K mainGlobals "between" = some (some (.ref fa))) (l : K.lookup fa = some ⟨oc, od, .func (PySem.W.fnOf "between" "between" (defArgs s_between) (defBody s_between) (defScope s_between) .none kV dc pm an cd ct), sl⟩) (c : PySem.W.codeIn K cd "between" = true) (k : PySem.W.keepIn K (.ref fa) = true) : DefAt T K mg 37 ⟨3, 3, b_between, false⟩ := by
  refine def_at (x := "between") (st := s_between) X G a l c k rfl sc_between rfl rfl ch_between (fun _ _ _ _ _ _ us hl => match us, hl with | [_, _, _], _ => rfl) fun fd Fn np ks perm hk => ?_
  have hk := kw_in (T := T) (f := 37) (l := [(0, ["share", "other", "one"], [2, 1, 0])]) (by rfl) hk
  simp only [List.mem_cons, List.not_mem_nil, or_false, Prod.mk.injEq] at hk
  obtain ⟨rfl, rfl, rfl⟩ := hk
  · refine kw_of Fn fun _ _ _ _ _ _ us ws zs hu hw hz => ?_
    match us, ws, hu, hw, hz with
    | [], [b0, b1, b2], _, _, hz => simp at hz; subst hz; rfl
theorem at__law_sign {fa : Addr} {oc kV dc pm cd ct : Value} {od an : Option Addr} {sl : Array (Option Value)} (X : K.In h) (G : h.Ns mainGlobals mg) (a : PySem.W.nsIn K mainGlobals "_law_sign" = some (some (.ref fa))) (l : K.lookup fa = some ⟨oc, od, .func (PySem.W.fnOf "_law_sign" "_law_sign" (defArgs s__law_sign) (defBody s__law_sign) (defScope s__law_sign) .none kV dc pm an cd ct), sl⟩) (c : PySem.W.codeIn K cd "_law_sign" = true) (k : PySem.W.keepIn K (.ref fa) = true) : DefAt T K mg 38 ⟨1, 1, b__law_sign, false⟩ := by
  refine def_at (x := "_law_sign") (st := s__law_sign) X G a l c k rfl sc__law_sign rfl rfl ch__law_sign (fun _ _ _ _ _ _ us hl => match us, hl with | [_], _ => rfl) fun fd Fn np ks perm hk => ?_
  exact (kw_no (T := T) (by decide) hk).elim
theorem at__law_over {fa : Addr} {oc kV dc pm cd ct : Value} {od an : Option Addr} {sl : Array (Option Value)} (X : K.In h) (G : h.Ns mainGlobals mg) (a : PySem.W.nsIn K mainGlobals "_law_over" = some (some (.ref fa))) (l : K.lookup fa = some ⟨oc, od, .func (PySem.W.fnOf "_law_over" "_law_over" (defArgs s__law_over) (defBody s__law_over) (defScope s__law_over) .none kV dc pm an cd ct), sl⟩) (c : PySem.W.codeIn K cd "_law_over" = true) (k : PySem.W.keepIn K (.ref fa) = true) : DefAt T K mg 39 ⟨2, 3, b__law_over, false⟩ := by
  refine def_at (x := "_law_over") (st := s__law_over) X G a l c k rfl sc__law_over rfl rfl ch__law_over (fun _ _ _ _ _ _ us hl => match us, hl with | [_, _], _ => rfl) fun fd Fn np ks perm hk => ?_
  exact (kw_no (T := T) (by decide) hk).elim
theorem at_turned_side {fa : Addr} {oc kV dc pm cd ct : Value} {od an : Option Addr} {sl : Array (Option Value)} (X : K.In h) (G : h.Ns mainGlobals mg) (a : PySem.W.nsIn K mainGlobals "turned_side" = some (some (.ref fa))) (l : K.lookup fa = some ⟨oc, od, .func (PySem.W.fnOf "turned_side" "turned_side" (defArgs s_turned_side) (defBody s_turned_side) (defScope s_turned_side) .none kV dc pm an cd ct), sl⟩) (c : PySem.W.codeIn K cd "turned_side" = true) (k : PySem.W.keepIn K (.ref fa) = true) : DefAt T K mg 40 ⟨1, 2, b_turned_side, false⟩ := by
  refine def_at (x := "turned_side") (st := s_turned_side) X G a l c k rfl sc_turned_side rfl rfl ch_turned_side (fun _ _ _ _ _ _ us hl => match us, hl with | [_], _ => rfl) fun fd Fn np ks perm hk => ?_
  exact (kw_no (T := T) (by decide) hk).elim
theorem at_opposite {fa : Addr} {oc kV dc pm cd ct : Value} {od an : Option Addr} {sl : Array (Option Value)} (X : K.In h) (G : h.Ns mainGlobals mg) (a : PySem.W.nsIn K mainGlobals "opposite" = some (some (.ref fa))) (l : K.lookup fa = some ⟨oc, od, .func (PySem.W.fnOf "opposite" "opposite" (defArgs s_opposite) (defBody s_opposite) (defScope s_opposite) .none kV dc pm an cd ct), sl⟩) (c : PySem.W.codeIn K cd "opposite" = true) (k : PySem.W.keepIn K (.ref fa) = true) : DefAt T K mg 41 ⟨1, 1, b_opposite, false⟩ := by
  refine def_at (x := "opposite") (st := s_opposite) X G a l c k rfl sc_opposite rfl rfl ch_opposite (fun _ _ _ _ _ _ us hl => match us, hl with | [_], _ => rfl) fun fd Fn np ks perm hk => ?_
  exact (kw_no (T := T) (by decide) hk).elim
theorem at__law_at {fa : Addr} {oc kV dc pm cd ct : Value} {od an : Option Addr} {sl : Array (Option Value)} (X : K.In h) (G : h.Ns mainGlobals mg) (a : PySem.W.nsIn K mainGlobals "_law_at" = some (some (.ref fa))) (l : K.lookup fa = some ⟨oc, od, .func (PySem.W.fnOf "_law_at" "_law_at" (defArgs s__law_at) (defBody s__law_at) (defScope s__law_at) .none kV dc pm an cd ct), sl⟩) (c : PySem.W.codeIn K cd "_law_at" = true) (k : PySem.W.keepIn K (.ref fa) = true) : DefAt T K mg 42 ⟨1, 4, b__law_at, false⟩ := by
  refine def_at (x := "_law_at") (st := s__law_at) X G a l c k rfl sc__law_at rfl rfl ch__law_at (fun _ _ _ _ _ _ us hl => match us, hl with | [_], _ => rfl) fun fd Fn np ks perm hk => ?_
  exact (kw_no (T := T) (by decide) hk).elim
theorem at__law_places {fa : Addr} {oc kV dc pm cd ct : Value} {od an : Option Addr} {sl : Array (Option Value)} (X : K.In h) (G : h.Ns mainGlobals mg) (a : PySem.W.nsIn K mainGlobals "_law_places" = some (some (.ref fa))) (l : K.lookup fa = some ⟨oc, od, .func (PySem.W.fnOf "_law_places" "_law_places" (defArgs s__law_places) (defBody s__law_places) (defScope s__law_places) .none kV dc pm an cd ct), sl⟩) (c : PySem.W.codeIn K cd "_law_places" = true) (k : PySem.W.keepIn K (.ref fa) = true) : DefAt T K mg 43 ⟨1, 2, b__law_places, false⟩ := by
  refine def_at (x := "_law_places") (st := s__law_places) X G a l c k rfl sc__law_places rfl rfl ch__law_places (fun _ _ _ _ _ _ us hl => match us, hl with | [_], _ => rfl) fun fd Fn np ks perm hk => ?_
  exact (kw_no (T := T) (by decide) hk).elim
theorem at__law_mix {fa : Addr} {oc kV dc pm cd ct : Value} {od an : Option Addr} {sl : Array (Option Value)} (X : K.In h) (G : h.Ns mainGlobals mg) (a : PySem.W.nsIn K mainGlobals "_law_mix" = some (some (.ref fa))) (l : K.lookup fa = some ⟨oc, od, .func (PySem.W.fnOf "_law_mix" "_law_mix" (defArgs s__law_mix) (defBody s__law_mix) (defScope s__law_mix) .none kV dc pm an cd ct), sl⟩) (c : PySem.W.codeIn K cd "_law_mix" = true) (k : PySem.W.keepIn K (.ref fa) = true) : DefAt T K mg 44 ⟨3, 6, b__law_mix, true⟩ := by
  refine def_at (x := "_law_mix") (st := s__law_mix) X G a l c k rfl sc__law_mix rfl rfl ch__law_mix (fun _ _ _ _ _ _ us hl => match us, hl with | [_, _, _], _ => rfl) fun fd Fn np ks perm hk => ?_
  exact (kw_no (T := T) (by decide) hk).elim
theorem at__law_way_right {fa : Addr} {oc kV dc pm cd ct : Value} {od an : Option Addr} {sl : Array (Option Value)} (X : K.In h) (G : h.Ns mainGlobals mg) (a : PySem.W.nsIn K mainGlobals "_law_way_right" = some (some (.ref fa))) (l : K.lookup fa = some ⟨oc, od, .func (PySem.W.fnOf "_law_way_right" "_law_way_right" (defArgs s__law_way_right) (defBody s__law_way_right) (defScope s__law_way_right) .none kV dc pm an cd ct), sl⟩) (c : PySem.W.codeIn K cd "_law_way_right" = true) (k : PySem.W.keepIn K (.ref fa) = true) : DefAt T K mg 45 ⟨6, 15, b__law_way_right, false⟩ := by
  refine def_at (x := "_law_way_right") (st := s__law_way_right) X G a l c k rfl sc__law_way_right rfl rfl ch__law_way_right (fun _ _ _ _ _ _ us hl => match us, hl with | [_, _, _, _, _, _], _ => rfl) fun fd Fn np ks perm hk => ?_
  exact (kw_no (T := T) (by decide) hk).elim
theorem at_push_from {fa : Addr} {oc kV dc pm cd ct : Value} {od an : Option Addr} {sl : Array (Option Value)} (X : K.In h) (G : h.Ns mainGlobals mg) (a : PySem.W.nsIn K mainGlobals "push_from" = some (some (.ref fa))) (l : K.lookup fa = some ⟨oc, od, .func (PySem.W.fnOf "push_from" "push_from" (defArgs s_push_from) (defBody s_push_from) (defScope s_push_from) .none kV dc pm an cd ct), sl⟩) (c : PySem.W.codeIn K cd "push_from" = true) (k : PySem.W.keepIn K (.ref fa) = true) : DefAt T K mg 46 ⟨2, 5, b_push_from, false⟩ := by
  refine def_at (x := "push_from") (st := s_push_from) X G a l c k rfl sc_push_from rfl rfl ch_push_from (fun _ _ _ _ _ _ us hl => match us, hl with | [_, _], _ => rfl) fun fd Fn np ks perm hk => ?_
  exact (kw_no (T := T) (by decide) hk).elim
theorem at_push_between {fa : Addr} {oc kV dc pm cd ct : Value} {od an : Option Addr} {sl : Array (Option Value)} (X : K.In h) (G : h.Ns mainGlobals mg) (a : PySem.W.nsIn K mainGlobals "push_between" = some (some (.ref fa))) (l : K.lookup fa = some ⟨oc, od, .func (PySem.W.fnOf "push_between" "push_between" (defArgs s_push_between) (defBody s_push_between) (defScope s_push_between) .none kV dc pm an cd ct), sl⟩) (c : PySem.W.codeIn K cd "push_between" = true) (k : PySem.W.keepIn K (.ref fa) = true) : DefAt T K mg 47 ⟨2, 2, b_push_between, false⟩ := by
  refine def_at (x := "push_between") (st := s_push_between) X G a l c k rfl sc_push_between rfl rfl ch_push_between (fun _ _ _ _ _ _ us hl => match us, hl with | [_, _], _ => rfl) fun fd Fn np ks perm hk => ?_
  have hk := kw_in (T := T) (f := 47) (l := [(0, ["other", "one"], [1, 0])]) (by rfl) hk
  simp only [List.mem_cons, List.not_mem_nil, or_false, Prod.mk.injEq] at hk
  obtain ⟨rfl, rfl, rfl⟩ := hk
  · refine kw_of Fn fun _ _ _ _ _ _ us ws zs hu hw hz => ?_
    match us, ws, hu, hw, hz with
    | [], [b0, b1], _, _, hz => simp at hz; subst hz; rfl
theorem at_added {fa : Addr} {oc kV dc pm cd ct : Value} {od an : Option Addr} {sl : Array (Option Value)} (X : K.In h) (G : h.Ns mainGlobals mg) (a : PySem.W.nsIn K mainGlobals "added" = some (some (.ref fa))) (l : K.lookup fa = some ⟨oc, od, .func (PySem.W.fnOf "added" "added" (defArgs s_added) (defBody s_added) (defScope s_added) .none kV dc pm an cd ct), sl⟩) (c : PySem.W.codeIn K cd "added" = true) (k : PySem.W.keepIn K (.ref fa) = true) : DefAt T K mg 48 ⟨2, 5, b_added, false⟩ := by
  refine def_at (x := "added") (st := s_added) X G a l c k rfl sc_added rfl rfl ch_added (fun _ _ _ _ _ _ us hl => match us, hl with | [_, _], _ => rfl) fun fd Fn np ks perm hk => ?_
  exact (kw_no (T := T) (by decide) hk).elim
theorem at_moved {fa : Addr} {oc kV dc pm cd ct : Value} {od an : Option Addr} {sl : Array (Option Value)} (X : K.In h) (G : h.Ns mainGlobals mg) (a : PySem.W.nsIn K mainGlobals "moved" = some (some (.ref fa))) (l : K.lookup fa = some ⟨oc, od, .func (PySem.W.fnOf "moved" "moved" (defArgs s_moved) (defBody s_moved) (defScope s_moved) .none kV dc pm an cd ct), sl⟩) (c : PySem.W.codeIn K cd "moved" = true) (k : PySem.W.keepIn K (.ref fa) = true) : DefAt T K mg 49 ⟨2, 2, b_moved, false⟩ := by
  refine def_at (x := "moved") (st := s_moved) X G a l c k rfl sc_moved rfl rfl ch_moved (fun _ _ _ _ _ _ us hl => match us, hl with | [_, _], _ => rfl) fun fd Fn np ks perm hk => ?_
  have hk := kw_in (T := T) (f := 49) (l := [(0, ["push", "point"], [1, 0])]) (by rfl) hk
  simp only [List.mem_cons, List.not_mem_nil, or_false, Prod.mk.injEq] at hk
  obtain ⟨rfl, rfl, rfl⟩ := hk
  · refine kw_of Fn fun _ _ _ _ _ _ us ws zs hu hw hz => ?_
    match us, ws, hu, hw, hz with
    | [], [b0, b1], _, _, hz => simp at hz; subst hz; rfl
theorem at_check_fraction {fa : Addr} {oc kV dc pm cd ct : Value} {od an : Option Addr} {sl : Array (Option Value)} (X : K.In h) (G : h.Ns mainGlobals mg) (a : PySem.W.nsIn K mainGlobals "check_fraction" = some (some (.ref fa))) (l : K.lookup fa = some ⟨oc, od, .func (PySem.W.fnOf "check_fraction" "check_fraction" (defArgs s_check_fraction) (defBody s_check_fraction) (defScope s_check_fraction) .none kV dc pm an cd ct), sl⟩) (c : PySem.W.codeIn K cd "check_fraction" = true) (k : PySem.W.keepIn K (.ref fa) = true) : DefAt T K mg 50 ⟨1, 1, b_check_fraction, false⟩ := by
  refine def_at (x := "check_fraction") (st := s_check_fraction) X G a l c k rfl sc_check_fraction rfl rfl ch_check_fraction (fun _ _ _ _ _ _ us hl => match us, hl with | [_], _ => rfl) fun fd Fn np ks perm hk => ?_
  exact (kw_no (T := T) (by decide) hk).elim
theorem at_stretched {fa : Addr} {oc kV dc pm cd ct : Value} {od an : Option Addr} {sl : Array (Option Value)} (X : K.In h) (G : h.Ns mainGlobals mg) (a : PySem.W.nsIn K mainGlobals "stretched" = some (some (.ref fa))) (l : K.lookup fa = some ⟨oc, od, .func (PySem.W.fnOf "stretched" "stretched" (defArgs s_stretched) (defBody s_stretched) (defScope s_stretched) .none kV dc pm an cd ct), sl⟩) (c : PySem.W.codeIn K cd "stretched" = true) (k : PySem.W.keepIn K (.ref fa) = true) : DefAt T K mg 51 ⟨2, 3, b_stretched, false⟩ := by
  refine def_at (x := "stretched") (st := s_stretched) X G a l c k rfl sc_stretched rfl rfl ch_stretched (fun _ _ _ _ _ _ us hl => match us, hl with | [_, _], _ => rfl) fun fd Fn np ks perm hk => ?_
  exact (kw_no (T := T) (by decide) hk).elim
theorem at_scaled {fa : Addr} {oc kV dc pm cd ct : Value} {od an : Option Addr} {sl : Array (Option Value)} (X : K.In h) (G : h.Ns mainGlobals mg) (a : PySem.W.nsIn K mainGlobals "scaled" = some (some (.ref fa))) (l : K.lookup fa = some ⟨oc, od, .func (PySem.W.fnOf "scaled" "scaled" (defArgs s_scaled) (defBody s_scaled) (defScope s_scaled) .none kV dc pm an cd ct), sl⟩) (c : PySem.W.codeIn K cd "scaled" = true) (k : PySem.W.keepIn K (.ref fa) = true) : DefAt T K mg 52 ⟨2, 2, b_scaled, false⟩ := by
  refine def_at (x := "scaled") (st := s_scaled) X G a l c k rfl sc_scaled rfl rfl ch_scaled (fun _ _ _ _ _ _ us hl => match us, hl with | [_, _], _ => rfl) fun fd Fn np ks perm hk => ?_
  have hk := kw_in (T := T) (f := 52) (l := [(0, ["factor", "point"], [1, 0])]) (by rfl) hk
  simp only [List.mem_cons, List.not_mem_nil, or_false, Prod.mk.injEq] at hk
  obtain ⟨rfl, rfl, rfl⟩ := hk
  · refine kw_of Fn fun _ _ _ _ _ _ us ws zs hu hw hz => ?_
    match us, ws, hu, hw, hz with
    | [], [b0, b1], _, _, hz => simp at hz; subst hz; rfl
theorem at_places_in {fa : Addr} {oc kV dc pm cd ct : Value} {od an : Option Addr} {sl : Array (Option Value)} (X : K.In h) (G : h.Ns mainGlobals mg) (a : PySem.W.nsIn K mainGlobals "places_in" = some (some (.ref fa))) (l : K.lookup fa = some ⟨oc, od, .func (PySem.W.fnOf "places_in" "places_in" (defArgs s_places_in) (defBody s_places_in) (defScope s_places_in) .none kV dc pm an cd ct), sl⟩) (c : PySem.W.codeIn K cd "places_in" = true) (k : PySem.W.keepIn K (.ref fa) = true) : DefAt T K mg 53 ⟨1, 2, b_places_in, false⟩ := by
  refine def_at (x := "places_in") (st := s_places_in) X G a l c k rfl sc_places_in rfl rfl ch_places_in (fun _ _ _ _ _ _ us hl => match us, hl with | [_], _ => rfl) fun fd Fn np ks perm hk => ?_
  exact (kw_no (T := T) (by decide) hk).elim
theorem at_places_of {fa : Addr} {oc kV dc pm cd ct : Value} {od an : Option Addr} {sl : Array (Option Value)} (X : K.In h) (G : h.Ns mainGlobals mg) (a : PySem.W.nsIn K mainGlobals "places_of" = some (some (.ref fa))) (l : K.lookup fa = some ⟨oc, od, .func (PySem.W.fnOf "places_of" "places_of" (defArgs s_places_of) (defBody s_places_of) (defScope s_places_of) .none kV dc pm an cd ct), sl⟩) (c : PySem.W.codeIn K cd "places_of" = true) (k : PySem.W.keepIn K (.ref fa) = true) : DefAt T K mg 54 ⟨1, 1, b_places_of, false⟩ := by
  refine def_at (x := "places_of") (st := s_places_of) X G a l c k rfl sc_places_of rfl rfl ch_places_of (fun _ _ _ _ _ _ us hl => match us, hl with | [_], _ => rfl) fun fd Fn np ks perm hk => ?_
  exact (kw_no (T := T) (by decide) hk).elim
theorem at_from_places {fa : Addr} {oc kV dc pm cd ct : Value} {od an : Option Addr} {sl : Array (Option Value)} (X : K.In h) (G : h.Ns mainGlobals mg) (a : PySem.W.nsIn K mainGlobals "from_places" = some (some (.ref fa))) (l : K.lookup fa = some ⟨oc, od, .func (PySem.W.fnOf "from_places" "from_places" (defArgs s_from_places) (defBody s_from_places) (defScope s_from_places) .none kV dc pm an cd ct), sl⟩) (c : PySem.W.codeIn K cd "from_places" = true) (k : PySem.W.keepIn K (.ref fa) = true) : DefAt T K mg 55 ⟨1, 4, b_from_places, false⟩ := by
  refine def_at (x := "from_places") (st := s_from_places) X G a l c k rfl sc_from_places rfl rfl ch_from_places (fun _ _ _ _ _ _ us hl => match us, hl with | [_], _ => rfl) fun fd Fn np ks perm hk => ?_
  exact (kw_no (T := T) (by decide) hk).elim
theorem at_point_at {fa : Addr} {oc kV dc pm cd ct : Value} {od an : Option Addr} {sl : Array (Option Value)} (X : K.In h) (G : h.Ns mainGlobals mg) (a : PySem.W.nsIn K mainGlobals "point_at" = some (some (.ref fa))) (l : K.lookup fa = some ⟨oc, od, .func (PySem.W.fnOf "point_at" "point_at" (defArgs s_point_at) (defBody s_point_at) (defScope s_point_at) .none kV dc pm an cd ct), sl⟩) (c : PySem.W.codeIn K cd "point_at" = true) (k : PySem.W.keepIn K (.ref fa) = true) : DefAt T K mg 56 ⟨1, 2, b_point_at, false⟩ := by
  refine def_at (x := "point_at") (st := s_point_at) X G a l c k rfl sc_point_at rfl rfl ch_point_at (fun _ _ _ _ _ _ us hl => match us, hl with | [_], _ => rfl) fun fd Fn np ks perm hk => ?_
  exact (kw_no (T := T) (by decide) hk).elim
theorem at_middle {fa : Addr} {oc kV dc pm cd ct : Value} {od an : Option Addr} {sl : Array (Option Value)} (X : K.In h) (G : h.Ns mainGlobals mg) (a : PySem.W.nsIn K mainGlobals "middle" = some (some (.ref fa))) (l : K.lookup fa = some ⟨oc, od, .func (PySem.W.fnOf "middle" "middle" (defArgs s_middle) (defBody s_middle) (defScope s_middle) .none kV dc pm an cd ct), sl⟩) (c : PySem.W.codeIn K cd "middle" = true) (k : PySem.W.keepIn K (.ref fa) = true) : DefAt T K mg 57 ⟨2, 2, b_middle, false⟩ := by
  refine def_at (x := "middle") (st := s_middle) X G a l c k rfl sc_middle rfl rfl ch_middle (fun _ _ _ _ _ _ us hl => match us, hl with | [_, _], _ => rfl) fun fd Fn np ks perm hk => ?_
  exact (kw_no (T := T) (by decide) hk).elim
theorem at__law_pushed_right {fa : Addr} {oc kV dc pm cd ct : Value} {od an : Option Addr} {sl : Array (Option Value)} (X : K.In h) (G : h.Ns mainGlobals mg) (a : PySem.W.nsIn K mainGlobals "_law_pushed_right" = some (some (.ref fa))) (l : K.lookup fa = some ⟨oc, od, .func (PySem.W.fnOf "_law_pushed_right" "_law_pushed_right" (defArgs s__law_pushed_right) (defBody s__law_pushed_right) (defScope s__law_pushed_right) .none kV dc pm an cd ct), sl⟩) (c : PySem.W.codeIn K cd "_law_pushed_right" = true) (k : PySem.W.keepIn K (.ref fa) = true) : DefAt T K mg 58 ⟨6, 17, b__law_pushed_right, false⟩ := by
  refine def_at (x := "_law_pushed_right") (st := s__law_pushed_right) X G a l c k rfl sc__law_pushed_right rfl rfl ch__law_pushed_right (fun _ _ _ _ _ _ us hl => match us, hl with | [_, _, _, _, _, _], _ => rfl) fun fd Fn np ks perm hk => ?_
  exact (kw_no (T := T) (by decide) hk).elim
theorem at__law_parts_right {fa : Addr} {oc kV dc pm cd ct : Value} {od an : Option Addr} {sl : Array (Option Value)} (X : K.In h) (G : h.Ns mainGlobals mg) (a : PySem.W.nsIn K mainGlobals "_law_parts_right" = some (some (.ref fa))) (l : K.lookup fa = some ⟨oc, od, .func (PySem.W.fnOf "_law_parts_right" "_law_parts_right" (defArgs s__law_parts_right) (defBody s__law_parts_right) (defScope s__law_parts_right) .none kV dc pm an cd ct), sl⟩) (c : PySem.W.codeIn K cd "_law_parts_right" = true) (k : PySem.W.keepIn K (.ref fa) = true) : DefAt T K mg 59 ⟨5, 10, b__law_parts_right, false⟩ := by
  refine def_at (x := "_law_parts_right") (st := s__law_parts_right) X G a l c k rfl sc__law_parts_right rfl rfl ch__law_parts_right (fun _ _ _ _ _ _ us hl => match us, hl with | [_, _, _, _, _], _ => rfl) fun fd Fn np ks perm hk => ?_
  exact (kw_no (T := T) (by decide) hk).elim
theorem at_side_from {fa : Addr} {oc kV dc pm cd ct : Value} {od an : Option Addr} {sl : Array (Option Value)} (X : K.In h) (G : h.Ns mainGlobals mg) (a : PySem.W.nsIn K mainGlobals "side_from" = some (some (.ref fa))) (l : K.lookup fa = some ⟨oc, od, .func (PySem.W.fnOf "side_from" "side_from" (defArgs s_side_from) (defBody s_side_from) (defScope s_side_from) .none kV dc pm an cd ct), sl⟩) (c : PySem.W.codeIn K cd "side_from" = true) (k : PySem.W.keepIn K (.ref fa) = true) : DefAt T K mg 60 ⟨1, 3, b_side_from, false⟩ := by
  refine def_at (x := "side_from") (st := s_side_from) X G a l c k rfl sc_side_from rfl rfl ch_side_from (fun _ _ _ _ _ _ us hl => match us, hl with | [_], _ => rfl) fun fd Fn np ks perm hk => ?_
  exact (kw_no (T := T) (by decide) hk).elim
theorem at_side_of {fa : Addr} {oc kV dc pm cd ct : Value} {od an : Option Addr} {sl : Array (Option Value)} (X : K.In h) (G : h.Ns mainGlobals mg) (a : PySem.W.nsIn K mainGlobals "side_of" = some (some (.ref fa))) (l : K.lookup fa = some ⟨oc, od, .func (PySem.W.fnOf "side_of" "side_of" (defArgs s_side_of) (defBody s_side_of) (defScope s_side_of) .none kV dc pm an cd ct), sl⟩) (c : PySem.W.codeIn K cd "side_of" = true) (k : PySem.W.keepIn K (.ref fa) = true) : DefAt T K mg 61 ⟨1, 2, b_side_of, false⟩ := by
  refine def_at (x := "side_of") (st := s_side_of) X G a l c k rfl sc_side_of rfl rfl ch_side_of (fun _ _ _ _ _ _ us hl => match us, hl with | [_], _ => rfl) fun fd Fn np ks perm hk => ?_
  have hk := kw_in (T := T) (f := 61) (l := [(0, ["numbers"], [0])]) (by rfl) hk
  simp only [List.mem_cons, List.not_mem_nil, or_false, Prod.mk.injEq] at hk
  obtain ⟨rfl, rfl, rfl⟩ := hk
  · refine kw_of Fn fun _ _ _ _ _ _ us ws zs hu hw hz => ?_
    match us, ws, hu, hw, hz with
    | [], [b0], _, _, hz => simp at hz; subst hz; rfl
theorem at_law {fa : Addr} {oc kV dc pm cd ct : Value} {od an : Option Addr} {sl : Array (Option Value)} (X : K.In h) (G : h.Ns mainGlobals mg) (a : PySem.W.nsIn K mainGlobals "law" = some (some (.ref fa))) (l : K.lookup fa = some ⟨oc, od, .func (PySem.W.fnOf "law" "law" (defArgs s_law) (defBody s_law) (defScope s_law) .none kV dc pm an cd ct), sl⟩) (c : PySem.W.codeIn K cd "law" = true) (k : PySem.W.keepIn K (.ref fa) = true) : DefAt T K mg 62 ⟨1, 9, b_law, false⟩ := by
  refine def_at (x := "law") (st := s_law) X G a l c k rfl sc_law rfl rfl ch_law (fun _ _ _ _ _ _ us hl => match us, hl with | [_], _ => rfl) fun fd Fn np ks perm hk => ?_
  exact (kw_no (T := T) (by decide) hk).elim
theorem top_mk (d0 : DefAt T K mg 0 ⟨1, 1, b__law_box, false⟩) (d1 : DefAt T K mg 1 ⟨2, 2, b__law_cell, false⟩) (d2 : DefAt T K mg 2 ⟨2, 4, b__law_take, false⟩) (d3 : DefAt T K mg 3 ⟨1, 5, b__law_factor, false⟩) (d4 : DefAt T K mg 4 ⟨1, 3, b__law_side, false⟩) (d5 : DefAt T K mg 5 ⟨2, 7, b__law_drawn_side, true⟩) (d6 : DefAt T K mg 6 ⟨1, 3, b__law_point, false⟩) (d7 : DefAt T K mg 7 ⟨4, 6, b__law_any_point, false⟩) (d8 : DefAt T K mg 8 ⟨2, 4, b__law_same, false⟩) (d9 : DefAt T K mg 9 ⟨2, 3, b__law_low, false⟩) (d10 : DefAt T K mg 10 ⟨2, 2, b__law_plus, false⟩) (d11 : DefAt T K mg 11 ⟨2, 2, b__law_less, false⟩) (d12 : DefAt T K mg 12 ⟨2, 2, b__law_times, false⟩) (d13 : DefAt T K mg 13 ⟨2, 2, b_is_tuple, false⟩) (d14 : DefAt T K mg 14 ⟨1, 1, b_is_integer, false⟩) (d15 : DefAt T K mg 15 ⟨2, 3, b_are_integers, false⟩) (d16 : DefAt T K mg 16 ⟨1, 3, b_shared_factor, false⟩) (d17 : DefAt T K mg 17 ⟨2, 3, b_is_side_of, false⟩) (d18 : DefAt T K mg 18 ⟨1, 1, b_is_side, false⟩) (d19 : DefAt T K mg 19 ⟨1, 1, b_check_side, false⟩) (d20 : DefAt T K mg 20 ⟨2, 2, b_is_of_size, false⟩) (d21 : DefAt T K mg 21 ⟨2, 2, b_check_like, false⟩) (d22 : DefAt T K mg 22 ⟨1, 1, b_size_of, false⟩) (d23 : DefAt T K mg 23 ⟨2, 2, b_check_both, false⟩) (d24 : DefAt T K mg 24 ⟨2, 3, b_lowest, false⟩) (d25 : DefAt T K mg 25 ⟨2, 4, b_excess_of, false⟩) (d26 : DefAt T K mg 26 ⟨2, 2, b_excess, false⟩) (d27 : DefAt T K mg 27 ⟨1, 2, b__law_share, false⟩) (d28 : DefAt T K mg 28 ⟨1, 1, b_sign_of, false⟩) (d29 : DefAt T K mg 29 ⟨2, 2, b_standing, false⟩) (d30 : DefAt T K mg 30 ⟨1, 1, b_is_point, false⟩) (d31 : DefAt T K mg 31 ⟨1, 1, b_check_point, false⟩) (d32 : DefAt T K mg 32 ⟨2, 2, b_check_two, false⟩) (d33 : DefAt T K mg 33 ⟨1, 3, b_point_from, false⟩) (d34 : DefAt T K mg 34 ⟨3, 10, b_mixed, false⟩) (d35 : DefAt T K mg 35 ⟨1, 1, b_is_fraction, false⟩) (d36 : DefAt T K mg 36 ⟨2, 2, b_compared, false⟩) (d37 : DefAt T K mg 37 ⟨3, 3, b_between, false⟩) (d38 : DefAt T K mg 38 ⟨1, 1, b__law_sign, false⟩) (d39 : DefAt T K mg 39 ⟨2, 3, b__law_over, false⟩) (d40 : DefAt T K mg 40 ⟨1, 2, b_turned_side, false⟩) (d41 : DefAt T K mg 41 ⟨1, 1, b_opposite, false⟩) (d42 : DefAt T K mg 42 ⟨1, 4, b__law_at, false⟩) (d43 : DefAt T K mg 43 ⟨1, 2, b__law_places, false⟩) (d44 : DefAt T K mg 44 ⟨3, 6, b__law_mix, true⟩) (d45 : DefAt T K mg 45 ⟨6, 15, b__law_way_right, false⟩) (d46 : DefAt T K mg 46 ⟨2, 5, b_push_from, false⟩) (d47 : DefAt T K mg 47 ⟨2, 2, b_push_between, false⟩) (d48 : DefAt T K mg 48 ⟨2, 5, b_added, false⟩) (d49 : DefAt T K mg 49 ⟨2, 2, b_moved, false⟩) (d50 : DefAt T K mg 50 ⟨1, 1, b_check_fraction, false⟩) (d51 : DefAt T K mg 51 ⟨2, 3, b_stretched, false⟩) (d52 : DefAt T K mg 52 ⟨2, 2, b_scaled, false⟩) (d53 : DefAt T K mg 53 ⟨1, 2, b_places_in, false⟩) (d54 : DefAt T K mg 54 ⟨1, 1, b_places_of, false⟩) (d55 : DefAt T K mg 55 ⟨1, 4, b_from_places, false⟩) (d56 : DefAt T K mg 56 ⟨1, 2, b_point_at, false⟩) (d57 : DefAt T K mg 57 ⟨2, 2, b_middle, false⟩) (d58 : DefAt T K mg 58 ⟨6, 17, b__law_pushed_right, false⟩) (d59 : DefAt T K mg 59 ⟨5, 10, b__law_parts_right, false⟩) (d60 : DefAt T K mg 60 ⟨1, 3, b_side_from, false⟩) (d61 : DefAt T K mg 61 ⟨1, 2, b_side_of, false⟩) (d62 : DefAt T K mg 62 ⟨1, 9, b_law, false⟩)
    (hz : ∀ x ∈ T.bn, mg x = none) (hg : T.gcd = true → mg "gcd" = some (.builtin "math.gcd")) (hc : ∀ x d, T.gl x = some d → ∃ u v, mg x = some u ∧ RelV v u ∧ ∀ μ H, Rep K μ H d v) : Top T K mg := by
  refine ⟨hz, hg, hc, fun f F hF => ?_⟩
  match f, hF with
  | 0, hF => cases hF; exact d0
  | 1, hF => cases hF; exact d1
  | 2, hF => cases hF; exact d2
  | 3, hF => cases hF; exact d3
  | 4, hF => cases hF; exact d4
  | 5, hF => cases hF; exact d5
  | 6, hF => cases hF; exact d6
  | 7, hF => cases hF; exact d7
  | 8, hF => cases hF; exact d8
  | 9, hF => cases hF; exact d9
  | 10, hF => cases hF; exact d10
  | 11, hF => cases hF; exact d11
  | 12, hF => cases hF; exact d12
  | 13, hF => cases hF; exact d13
  | 14, hF => cases hF; exact d14
  | 15, hF => cases hF; exact d15
  | 16, hF => cases hF; exact d16
  | 17, hF => cases hF; exact d17
  | 18, hF => cases hF; exact d18
  | 19, hF => cases hF; exact d19
  | 20, hF => cases hF; exact d20
  | 21, hF => cases hF; exact d21
  | 22, hF => cases hF; exact d22
  | 23, hF => cases hF; exact d23
  | 24, hF => cases hF; exact d24
  | 25, hF => cases hF; exact d25
  | 26, hF => cases hF; exact d26
  | 27, hF => cases hF; exact d27
  | 28, hF => cases hF; exact d28
  | 29, hF => cases hF; exact d29
  | 30, hF => cases hF; exact d30
  | 31, hF => cases hF; exact d31
  | 32, hF => cases hF; exact d32
  | 33, hF => cases hF; exact d33
  | 34, hF => cases hF; exact d34
  | 35, hF => cases hF; exact d35
  | 36, hF => cases hF; exact d36
  | 37, hF => cases hF; exact d37
  | 38, hF => cases hF; exact d38
  | 39, hF => cases hF; exact d39
  | 40, hF => cases hF; exact d40
  | 41, hF => cases hF; exact d41
  | 42, hF => cases hF; exact d42
  | 43, hF => cases hF; exact d43
  | 44, hF => cases hF; exact d44
  | 45, hF => cases hF; exact d45
  | 46, hF => cases hF; exact d46
  | 47, hF => cases hF; exact d47
  | 48, hF => cases hF; exact d48
  | 49, hF => cases hF; exact d49
  | 50, hF => cases hF; exact d50
  | 51, hF => cases hF; exact d51
  | 52, hF => cases hF; exact d52
  | 53, hF => cases hF; exact d53
  | 54, hF => cases hF; exact d54
  | 55, hF => cases hF; exact d55
  | 56, hF => cases hF; exact d56
  | 57, hF => cases hF; exact d57
  | 58, hF => cases hF; exact d58
  | 59, hF => cases hF; exact d59
  | 60, hF => cases hF; exact d60
  | 61, hF => cases hF; exact d61
  | 62, hF => cases hF; exact d62
  | n + 63, hF => cases hF
theorem bn_mk (X : K.In h) (G : h.Ns mainGlobals mg) (z_abs : PySem.W.nsIn K mainGlobals "abs" = some none) (z_all : PySem.W.nsIn K mainGlobals "all" = some none) (z_any : PySem.W.nsIn K mainGlobals "any" = some none) (z_bool : PySem.W.nsIn K mainGlobals "bool" = some none) (z_dict : PySem.W.nsIn K mainGlobals "dict" = some none) (z_int : PySem.W.nsIn K mainGlobals "int" = some none) (z_isinstance : PySem.W.nsIn K mainGlobals "isinstance" = some none) (z_len : PySem.W.nsIn K mainGlobals "len" = some none) (z_list : PySem.W.nsIn K mainGlobals "list" = some none) (z_max : PySem.W.nsIn K mainGlobals "max" = some none) (z_min : PySem.W.nsIn K mainGlobals "min" = some none) (z_range : PySem.W.nsIn K mainGlobals "range" = some none) (z_str : PySem.W.nsIn K mainGlobals "str" = some none) (z_sum : PySem.W.nsIn K mainGlobals "sum" = some none) (z_tuple : PySem.W.nsIn K mainGlobals "tuple" = some none) (z_zip : PySem.W.nsIn K mainGlobals "zip" = some none) : ∀ x ∈ T.bn, mg x = none := by
  intro x hx
  simp only [T, List.mem_cons, List.not_mem_nil, or_false] at hx
  rcases hx with rfl | rfl | rfl | rfl | rfl | rfl | rfl | rfl | rfl | rfl | rfl | rfl | rfl | rfl | rfl | rfl
  · exact PySem.W.mg_none_of X G z_abs
  · exact PySem.W.mg_none_of X G z_all
  · exact PySem.W.mg_none_of X G z_any
  · exact PySem.W.mg_none_of X G z_bool
  · exact PySem.W.mg_none_of X G z_dict
  · exact PySem.W.mg_none_of X G z_int
  · exact PySem.W.mg_none_of X G z_isinstance
  · exact PySem.W.mg_none_of X G z_len
  · exact PySem.W.mg_none_of X G z_list
  · exact PySem.W.mg_none_of X G z_max
  · exact PySem.W.mg_none_of X G z_min
  · exact PySem.W.mg_none_of X G z_range
  · exact PySem.W.mg_none_of X G z_str
  · exact PySem.W.mg_none_of X G z_sum
  · exact PySem.W.mg_none_of X G z_tuple
  · exact PySem.W.mg_none_of X G z_zip
theorem gcd_mk (X : K.In h) (G : h.Ns mainGlobals mg) (z : PySem.W.nsIn K mainGlobals "gcd" = some (some (.builtin "math.gcd"))) : T.gcd = true → mg "gcd" = some (.builtin "math.gcd") := fun _ => PySem.W.mg_of X G z
theorem gl_mk (X : K.In h) (G : h.Ns mainGlobals mg) {ga_ONE : Addr} {gt_ONE gu_ONE : Tok} {go_ONE : Option Addr} {gm_ONE : Nat} {gs_ONE : Array (Option Value)} (g_ONE : PySem.W.nsIn K mainGlobals "ONE" = some (some (.ref ga_ONE))) (gl_ONE : K.lookup ga_ONE = some ⟨.type "tuple", go_ONE, .seq #[.int 1 gt_ONE, .int 1 gu_ONE] gm_ONE, gs_ONE⟩) {ga_ZERO : Addr} {gt_ZERO gu_ZERO : Tok} {go_ZERO : Option Addr} {gm_ZERO : Nat} {gs_ZERO : Array (Option Value)} (g_ZERO : PySem.W.nsIn K mainGlobals "ZERO" = some (some (.ref ga_ZERO))) (gl_ZERO : K.lookup ga_ZERO = some ⟨.type "tuple", go_ZERO, .seq #[.int 0 gt_ZERO, .int 1 gu_ZERO] gm_ZERO, gs_ZERO⟩) : ∀ x d, T.gl x = some d → ∃ u v, mg x = some u ∧ RelV v u ∧ ∀ μ H, Rep K μ H d v := by
  intro x d hd
  simp only [T, gl] at hd
  split at hd
  · rename_i hx; subst hx; cases hd; exact gl_pair X G g_ONE gl_ONE
  split at hd
  · rename_i hx; subst hx; cases hd; exact gl_pair X G g_ZERO gl_ZERO
  cases hd
theorem law_end {fa : Addr} {oc kV dc pm cd ct : Value} {od an : Option Addr} {sl : Array (Option Value)} (law_true : ∀ ns : List Int, ns.length ≤ 63 → ∃ h', evF FT gl 60 f_law [.frz (ns.map D.int)] [] = some (.bl true, h')) (X : K.In h) (G : h.Ns mainGlobals mg) (t : Top T K mg) {fb : Addr} (hfa : mg "law" = some (.ref fb)) (a : PySem.W.nsIn K mainGlobals "law" = some (some (.ref fa))) (l : K.lookup fa = some ⟨oc, od, .func (PySem.W.fnOf "law" "law" (defArgs s_law) (defBody s_law) (defScope s_law) .none kV dc pm an cd ct), sl⟩) (c : PySem.W.codeIn K cd "law" = true) (k : PySem.W.keepIn K (.ref fa) = true)
    : ∃ fd : FuncData, (∀ (s : Shared) (v : Value), BindsTo s fd ⟨[v], []⟩ [("script", v)]) ∧ ∀ (P : Program) (w : World) (base : Heap), FnOk P w K mg base CX0 60 fb fd ["script"] (spL K) := by
  have e := hfa.symm.trans (PySem.W.mg_of X G a)
  cases e
  exact ⟨_, fun s v => .of_eq rfl, fun P w base => law_fin (n := 59) t (f := f_law) rfl (fun_mk (st := s_law) l c k) sc_law rfl rfl ch_law law_true⟩
theorem fin {fa : Addr} {oc kV dc pm cd ct : Value} {od an : Option Addr} {sl : Array (Option Value)} {P : Program} {w : World} (law_true : ∀ ns : List Int, ns.length ≤ 63 → ∃ h', evF FT gl 60 f_law [.frz (ns.map D.int)] [] = some (.bl true, h')) (X : K.In h) (G : h.Ns mainGlobals mg) {fb : Addr} (hfa : mg "law" = some (.ref fb)) (t : Top T K mg) (a : PySem.W.nsIn K mainGlobals "law" = some (some (.ref fa))) (l : K.lookup fa = some ⟨oc, od, .func (PySem.W.fnOf "law" "law" (defArgs s_law) (defBody s_law) (defScope s_law) .none kV dc pm an cd ct), sl⟩) (c : PySem.W.codeIn K cd "law" = true) (k : PySem.W.keepIn K (.ref fa) = true)
    : ∃ fd : FuncData, (∀ (s : Shared) (v : Value), BindsTo s fd ⟨[v], []⟩ [("script", v)]) ∧ ∀ base : Heap, K.In base → base.Ns mainGlobals mg → FnOk P w K mg base CX0 60 fb fd ["script"] (spL K) :=
  let ⟨fd, hb, ok⟩ := law_end law_true X G t hfa a l c k
  ⟨fd, hb, fun base _ _ => ok P w base⟩
end
end K03

set_option Elab.async false
set_option linter.all false
set_option maxRecDepth 100000
set_option maxHeartbeats 1000000
/-! k03: fractions and points as plain numbers. -/
namespace K03
open PySem L2 Py
theorem lv {m L : Nat} (h : L + 1 ≤ m) : ∃ n, m = n + 1 ∧ L ≤ n := ⟨m - 1, by omega, by omega⟩
/-- a tuple of ints with a last one: a point, a side -/
def P (ns : List Int) (w : Int) : D := .tup (ns.map .int ++ [.int w])
theorem P_eq (ns : List Int) (w : Int) : P ns w = .tup ((ns ++ [w]).map .int) := by simp [P]
theorem P_get {h : Hs} (ns : List Int) (w : Int) : getI h (P ns w) (.int (-1)) = some (.int w) := by rw [P, g_tup_]; exact at_last _ _
theorem P_cut {h : Hs} (ns : List Int) (w : Int) : slI h (P ns w) none (some (-1)) = some (.tup (ns.map .int)) := by rw [P, sl_tup_, cut_last]
theorem P_len {h : Hs} (ns : List Int) (w : Int) : blt .len [P ns w] h = some (.int (ns.length + 1), h) := by rw [P, n_lent]; simp
theorem P_seq {h : Hs} (ns : List Int) (w : Int) : seqI h (P ns w) = some ((ns ++ [w]).map .int, none) := by rw [P_eq]; rfl
theorem P_ty (ns : List Int) (w : Int) : tyOf (P ns w) = some "tuple" := rfl
def gcdF (a : Nat) (xs : List Int) : Nat := xs.foldl (fun a x => Nat.gcd a x.natAbs) a
def gcdL (xs : List Int) : Nat := gcdF 0 xs
theorem gcdF_mul (c : Int) : ∀ (xs : List Int) (a : Nat), gcdF (a * c.natAbs) (xs.map (· * c)) = gcdF a xs * c.natAbs
  | [], a => rfl
  | x :: xs, a => by
    rw [List.map_cons]
    show gcdF (Nat.gcd (a * c.natAbs) (x * c).natAbs) _ = gcdF (Nat.gcd a x.natAbs) xs * _
    rw [Int.natAbs_mul, Nat.gcd_mul_right, gcdF_mul c xs]
theorem gcdL_mul (c : Int) (xs : List Int) : gcdL (xs.map (· * c)) = gcdL xs * c.natAbs := by
  have := gcdF_mul c xs 0
  rwa [Nat.zero_mul] at this
theorem gcdF_dvd : ∀ (xs : List Int) (a : Nat), gcdF a xs ∣ a ∧ ∀ x ∈ xs, (gcdF a xs : Int) ∣ x
  | [], a => ⟨Nat.dvd_refl _, fun x h => by cases h⟩
  | y :: ys, a => by
    have ih := gcdF_dvd ys (Nat.gcd a y.natAbs)
    show gcdF (Nat.gcd a y.natAbs) ys ∣ a ∧ ∀ x ∈ y :: ys, (gcdF (Nat.gcd a y.natAbs) ys : Int) ∣ x
    refine ⟨Nat.dvd_trans ih.1 (Nat.gcd_dvd_left _ _), fun x hx => ?_⟩
    rcases List.mem_cons.mp hx with rfl | hx
    · exact Int.ofNat_dvd_left.mpr (Nat.dvd_trans ih.1 (Nat.gcd_dvd_right _ _))
    · exact ih.2 x hx
theorem gcdL_dvd {xs : List Int} {x : Int} (h : x ∈ xs) : (gcdL xs : Int) ∣ x := (gcdF_dvd xs 0).2 x h
theorem gcdL_pos {xs : List Int} {x : Int} (h : x ∈ xs) (h0 : x ≠ 0) : 0 < gcdL xs := by
  rcases Nat.eq_zero_or_pos (gcdL xs) with e | e
  · have := gcdL_dvd h
    rw [e] at this
    exact absurd (Int.zero_dvd.mp this) h0
  · exact e
theorem gcdL_le {xs : List Int} {x : Int} (h : x ∈ xs) (h0 : x ≠ 0) : gcdL xs ≤ x.natAbs :=
  Nat.le_of_dvd (by omega) (Int.ofNat_dvd_left.mp (gcdL_dvd h))
/-- divided by what they share, they share nothing -/
theorem gcdL_div {xs : List Int} (h : 0 < gcdL xs) : gcdL (xs.map (· / (gcdL xs : Int))) = 1 := by
  have e : (xs.map (· / (gcdL xs : Int))).map (· * (gcdL xs : Int)) = xs := by
    rw [List.map_map]
    conv => rhs; rw [← List.map_id xs]
    apply List.map_congr_left
    intro x hx
    exact Int.ediv_mul_cancel (gcdL_dvd hx)
  have := gcdL_mul (gcdL xs : Int) (xs.map (· / (gcdL xs : Int)))
  rw [e, Int.natAbs_natCast] at this
  have h2 : 1 * gcdL xs = gcdL (xs.map (· / (gcdL xs : Int))) * gcdL xs := by omega
  exact (Nat.eq_of_mul_eq_mul_right h h2).symm
/-- whole numbers over a base -/
def ov (w : Int) (ns : List Int) : List Rat := ns.map fun n : Int => (n : Rat) / w
def Is (d : D) (cs : List Rat) (k : Nat) : Prop := ∃ ns w, d = P ns w ∧ 0 < w ∧ gcdL (ns ++ [w]) = 1 ∧ cs = ov w ns ∧ (∀ n ∈ ns, Sz n k) ∧ Sz w k
theorem rat0 {w : Int} (h : 0 < w) : (w : Rat) ≠ 0 := by
  intro e
  have : w = 0 := by exact_mod_cast e
  omega
theorem rat_cross {a b c d : Int} (hb : 0 < b) (hd : 0 < d) (h : (a : Rat) / b = (c : Rat) / d) : a * d = c * b := by
  have h1 := rat0 hb
  have h2 := rat0 hd
  have : ((a * d : Int) : Rat) = ((c * b : Int) : Rat) := by
    rw [Rat.intCast_mul, Rat.intCast_mul]
    grind
  exact_mod_cast this
theorem ov_cross {w v : Int} (hw : 0 < w) (hv : 0 < v) : ∀ {ns ms : List Int}, ov w ns = ov v ms → ns.map (· * v) = ms.map (· * w)
  | [], [], _ => rfl
  | [], _ :: _, h => by simp [ov] at h
  | _ :: _, [], h => by simp [ov] at h
  | n :: ns, m :: ms, h => by
    simp only [ov, List.map_cons, List.cons.injEq] at h
    have ih := ov_cross hw hv (ns := ns) (ms := ms) h.2
    rw [List.map_cons, List.map_cons, ih, rat_cross hw hv h.1]
theorem Is.uniq {d e : D} {cs : List Rat} {k l : Nat} (h : Is d cs k) (h' : Is e cs l) : d = e := by
  obtain ⟨ns, w, rfl, hw, hg, hc, _⟩ := h
  obtain ⟨ms, v, rfl, hv, hg', hc', _⟩ := h'
  have e1 := ov_cross hw hv (hc.symm.trans hc')
  have e2 : (ns ++ [w]).map (· * v) = (ms ++ [v]).map (· * w) := by
    rw [List.map_append, List.map_append, e1]
    simp [Int.mul_comm]
  have e3 := congrArg gcdL e2
  rw [gcdL_mul, gcdL_mul, hg, hg'] at e3
  have e4 : v = w := by omega
  subst e4
  have : ns = ms := by
    have hi : Function.Injective (fun x : Int => x * v) := fun a b e => Int.eq_of_mul_eq_mul_right (by omega) e
    exact (List.map_inj_right hi).mp e1
  rw [this]
/-- the point at a place -/
noncomputable def pt (cs : List Rat) : D := @Classical.epsilon D ⟨D.non⟩ fun d => ∃ k, Is d cs k
theorem Is.eq {d : D} {cs : List Rat} {k : Nat} (h : Is d cs k) : d = pt cs := by
  obtain ⟨l, h'⟩ : ∃ k, Is (pt cs) cs k := @Classical.epsilon_spec D (fun d => ∃ k, Is d cs k) ⟨d, k, h⟩
  exact h.uniq h'
def Ok (cs : List Rat) (k : Nat) : Prop := Is (pt cs) cs k
theorem Is.ok {d : D} {cs : List Rat} {k : Nat} (h : Is d cs k) : Ok cs k := by
  unfold Ok; rw [← h.eq]; exact h
theorem Ok.mono {cs : List Rat} {k l : Nat} (h : Ok cs k) (hkl : k ≤ l) : Ok cs l := by
  obtain ⟨ns, w, e, hw, hg, hc, hs, hs'⟩ := h
  exact ⟨ns, w, e, hw, hg, hc, fun n hn => (hs n hn).mono hkl, hs'.mono hkl⟩
/-- made from whole numbers by dividing out what they share -/
theorem Sz.ediv' {x y : Int} {k : Nat} (h : Sz x k) (hy : 0 < y) : Sz (x / y) k := h.ediv hy
theorem is_div {ns : List Int} {w : Int} {k : Nat} (hw : 0 < w) (hs : ∀ n ∈ ns, Sz n k) (hs' : Sz w k) :
    Is (P (ns.map (· / (gcdL (ns ++ [w]) : Int))) (w / (gcdL (ns ++ [w]) : Int))) (ov w ns) k := by
  have hm : w ∈ ns ++ [w] := by simp
  have hg := gcdL_pos hm (by omega)
  have hg' : (0 : Int) < (gcdL (ns ++ [w]) : Int) := by omega
  have hd := gcdL_div hg
  refine ⟨_, _, rfl, ?_, by rw [List.map_append] at hd; exact hd, ?_, ?_, hs'.ediv hg'⟩
  · exact Int.ediv_pos_of_pos_of_dvd hw (by omega) (gcdL_dvd hm)
  · unfold ov
    rw [List.map_map]
    apply List.map_congr_left
    intro n hn
    have d1 : (gcdL (ns ++ [w]) : Int) ∣ n := gcdL_dvd (List.mem_append_left _ hn)
    have d2 : (gcdL (ns ++ [w]) : Int) ∣ w := gcdL_dvd hm
    obtain ⟨a, ha⟩ := d1
    obtain ⟨b, hb⟩ := d2
    show (n : Rat) / w = ((n / (gcdL (ns ++ [w]) : Int) : Int) : Rat) / ((w / (gcdL (ns ++ [w]) : Int) : Int) : Rat)
    generalize (gcdL (ns ++ [w]) : Int) = g at *
    have e1 : n / g = a := by rw [ha]; exact Int.mul_ediv_cancel_left _ (by omega)
    have e2 : w / g = b := by rw [hb]; exact Int.mul_ediv_cancel_left _ (by omega)
    rw [e1, e2, ha, hb, Rat.intCast_mul, Rat.intCast_mul]
    have h1 := rat0 hg'
    have h2 : (b : Rat) ≠ 0 := by
      intro e
      have : b = 0 := by exact_mod_cast e
      subst this; simp at hb; omega
    grind
  · intro n hn
    obtain ⟨n', hn', rfl⟩ := List.mem_map.mp hn
    exact (hs n' hn').ediv hg'
/-- fractions -/
def fr (q : Rat) : D := .tup [.int q.num, .int q.den]
def Fq (q : Rat) (k : Nat) : Prop := Sz q.num k ∧ Sz (q.den : Int) k
theorem Fq.mono {q : Rat} {k l : Nat} (h : Fq q k) (hkl : k ≤ l) : Fq q l := ⟨h.1.mono hkl, h.2.mono hkl⟩
theorem den_pos (q : Rat) : (0 : Int) < (q.den : Int) := by have := q.den_pos; omega
theorem num_over (q : Rat) : (q.num : Rat) / ((q.den : Int) : Rat) = q := by
  rw [← Rat.divInt_eq_div]; exact Rat.num_divInt_den q
/-- top and base, lowest -/
theorem low_eq (t b : Int) (hb : 0 < b) : (((t : Rat) / b).num = t / (Nat.gcd t.natAbs b.natAbs : Int)) ∧ ((((t : Rat) / b).den : Int) = b / (Nat.gcd t.natAbs b.natAbs : Int)) := by
  rw [← Rat.divInt_eq_div, Rat.num_divInt, Rat.den_divInt]
  have hs : b.sign = 1 := Int.sign_eq_one_of_pos hb
  have hn : (b = 0) = False := by simp; omega
  simp only [hs, Int.one_mul, Int.gcd, hn, if_false]
  have hd : ((b.natAbs : Nat) : Int) = b := by omega
  refine ⟨?_, ?_⟩
  · rw [Nat.gcd_comm]
  · rw [Int.natCast_ediv, hd, Nat.gcd_comm]
theorem fr_low (t b : Int) (hb : 0 < b) : D.tup [.int (t / (Nat.gcd t.natAbs b.natAbs : Int)), .int (b / (Nat.gcd t.natAbs b.natAbs : Int))] = fr ((t : Rat) / b) := by
  have := low_eq t b hb
  unfold fr
  rw [this.1, this.2]
theorem fq_low {t b : Int} {k : Nat} (hb : 0 < b) (ht : Sz t k) (hs : Sz b k) : Fq ((t : Rat) / b) k := by
  have := low_eq t b hb
  have hp : (0 : Int) < (Nat.gcd t.natAbs b.natAbs : Int) := by
    have : 0 < Nat.gcd t.natAbs b.natAbs := Nat.gcd_pos_of_pos_right _ (by omega)
    omega
  exact ⟨by rw [this.1]; exact ht.ediv hp, by rw [this.2]; exact hs.ediv hp⟩
theorem gcd_num (q : Rat) : Nat.gcd q.num.natAbs (q.den : Int).natAbs = 1 := by
  have := q.reduced
  simpa [Nat.Coprime] using this
theorem gcdL_two (a b : Int) : gcdL [a, b] = Nat.gcd a.natAbs b.natAbs := by simp [gcdL, gcdF]
end K03

set_option Elab.async false
set_option linter.all false
set_option maxRecDepth 100000
set_option maxHeartbeats 1000000
/-! k03: the program's defs on points and sides, over whole numbers. -/
namespace K03
open PySem L2 Py
theorem r_is_integer (i : Int) (h : Hs) (m : Nat) (hm : 1 ≤ m) : evF FT gl m f_is_integer [.int i] h = some (.bl true, h) := by
  obtain ⟨n, rfl, hn⟩ := lv hm
  rw [run_f (F := ⟨1, 1, b_is_integer, false⟩) rfl rfl rfl, b_is_integer, ss_rt (d := .bl true) (h' := h)]
  · simp [e_var, e_non, e_bl, e_int, e_str, e_ty, e_glob, e_op, e_neg, e_cmp, e_chn, e_bop, e_not, e_ife, e_tup, e_lst, e_ix, e_sl, e_cl, e_ck, e_bt, e_mt, eb_one, eb_cons, es_nil, es_cons, eo_none, eo_some, ec_none, ec_some, et_name, et_tup, et_tupl, et_sub, ets_nil, ets_cons, ei_seq, ei_rng1, ei_rng2, ei_zip, s_asg_, s_par_, s_ex_, s_ret_, s_retN_, s_ite_, ss_nil_, fin_rt, fin_nx, wipeD, lim, isK, testT, isNon, isAny, o_add, o_sub, o_mul, o_fdiv, o_mod, o_pow, o_addt, o_addl, o_mult, k_eq, k_ne, k_lt, k_le, k_gt, k_ge, k_isb, k_isn, k_isnn, k_eqb, k_eql, k_nel, k_in, k_nin, g_tup_, g_lst_, g_frz_, g_cel_, sl_tup_, sl_lst_, sl_frz_, sq_tup, sq_lst, zp_tup, n_lent, n_lenl, n_lenf, n_abs, n_int, n_intb, n_max, n_min, n_sum, n_tupl, n_tupt, n_tupc, n_all, n_any, n_gcd, n_isi, n_isit, y_int, y_bl, y_tup, y_lst, y_non, q_app]
  · simp [e_var, e_non, e_bl, e_int, e_str, e_ty, e_glob, e_op, e_neg, e_cmp, e_chn, e_bop, e_not, e_ife, e_tup, e_lst, e_ix, e_sl, e_cl, e_ck, e_bt, e_mt, eb_one, eb_cons, es_nil, es_cons, eo_none, eo_some, ec_none, ec_some, et_name, et_tup, et_tupl, et_sub, ets_nil, ets_cons, ei_seq, ei_rng1, ei_rng2, ei_zip, s_asg_, s_par_, s_ex_, s_ret_, s_retN_, s_ite_, ss_nil_, fin_rt, fin_nx, wipeD, lim, isK, testT, isNon, isAny, o_add, o_sub, o_mul, o_fdiv, o_mod, o_pow, o_addt, o_addl, o_mult, k_eq, k_ne, k_lt, k_le, k_gt, k_ge, k_isb, k_isn, k_isnn, k_eqb, k_eql, k_nel, k_in, k_nin, g_tup_, g_lst_, g_frz_, g_cel_, sl_tup_, sl_lst_, sl_frz_, sq_tup, sq_lst, zp_tup, n_lent, n_lenl, n_lenf, n_abs, n_int, n_intb, n_max, n_min, n_sum, n_tupl, n_tupt, n_tupc, n_all, n_any, n_gcd, n_isi, n_isit, y_int, y_bl, y_tup, y_lst, y_non, q_app]
theorem r_is_tuple (ds : List D) (k : Int) (h : Hs) (m : Nat) (hm : 1 ≤ m) : evF FT gl m f_is_tuple [.tup ds, .int k] h = some (.bl (decide ((ds.length : Int) = k)), h) := by
  obtain ⟨n, rfl, hn⟩ := lv hm
  rw [run_f (F := ⟨2, 2, b_is_tuple, false⟩) rfl rfl rfl, b_is_tuple, ss_rt]
  · exact fin_rt
  · simp [e_var, e_non, e_bl, e_int, e_str, e_ty, e_glob, e_op, e_neg, e_cmp, e_chn, e_bop, e_not, e_ife, e_tup, e_lst, e_ix, e_sl, e_cl, e_ck, e_bt, e_mt, eb_one, eb_cons, es_nil, es_cons, eo_none, eo_some, ec_none, ec_some, et_name, et_tup, et_tupl, et_sub, ets_nil, ets_cons, ei_seq, ei_rng1, ei_rng2, ei_zip, s_asg_, s_par_, s_ex_, s_ret_, s_retN_, s_ite_, ss_nil_, fin_rt, fin_nx, wipeD, lim, isK, testT, isNon, isAny, o_add, o_sub, o_mul, o_fdiv, o_mod, o_pow, o_addt, o_addl, o_mult, k_eq, k_ne, k_lt, k_le, k_gt, k_ge, k_isb, k_isn, k_isnn, k_eqb, k_eql, k_nel, k_in, k_nin, g_tup_, g_lst_, g_frz_, g_cel_, sl_tup_, sl_lst_, sl_frz_, sq_tup, sq_lst, zp_tup, n_lent, n_lenl, n_lenf, n_abs, n_int, n_intb, n_max, n_min, n_sum, n_tupl, n_tupt, n_tupc, n_all, n_any, n_gcd, n_isi, n_isit, y_int, y_bl, y_tup, y_lst, y_non, q_app]
theorem r_are_integers (xs : List Int) (k : Int) (h : Hs) (hl : xs.length ≤ lim) (m : Nat) (hm : 2 ≤ m) : evF FT gl m f_are_integers [.tup (xs.map D.int), .int k] h = some (.bl (decide ((xs.length : Int) = k)), h) := by
  obtain ⟨n, rfl, hn⟩ := lv hm
  rw [run_f (F := ⟨2, 3, b_are_integers, false⟩) rfl rfl rfl, b_are_integers, ss_rt]
  · exact fin_rt
  · have hc := cp_map (cl := evF FT gl n) (gl := gl) (σ := [some (.tup (xs.map D.int)), some (.int k), none]) (h := h) (ce := .cl f_is_integer (.cons (.var 2) .nil)) (t := .name 2) (it := .seq (.var 0)) (own := [2]) (xs := xs.map D.int) (h1 := h) (g := fun _ => .bl true) (by simp [e_var, e_non, e_bl, e_int, e_str, e_ty, e_glob, e_op, e_neg, e_cmp, e_chn, e_bop, e_not, e_ife, e_tup, e_lst, e_ix, e_sl, e_cl, e_ck, e_bt, e_mt, eb_one, eb_cons, es_nil, es_cons, eo_none, eo_some, ec_none, ec_some, et_name, et_tup, et_tupl, et_sub, ets_nil, ets_cons, ei_seq, ei_rng1, ei_rng2, ei_zip, s_asg_, s_par_, s_ex_, s_ret_, s_retN_, s_ite_, ss_nil_, fin_rt, fin_nx, wipeD, lim, isK, testT, isNon, isAny, o_add, o_sub, o_mul, o_fdiv, o_mod, o_pow, o_addt, o_addl, o_mult, k_eq, k_ne, k_lt, k_le, k_gt, k_ge, k_isb, k_isn, k_isnn, k_eqb, k_eql, k_nel, k_in, k_nin, g_tup_, g_lst_, g_frz_, g_cel_, sl_tup_, sl_lst_, sl_frz_, sq_tup, sq_lst, zp_tup, n_lent, n_lenl, n_lenf, n_abs, n_int, n_intb, n_max, n_min, n_sum, n_tupl, n_tupt, n_tupc, n_all, n_any, n_gcd, n_isi, n_isit, y_int, y_bl, y_tup, y_lst, y_non, q_app]) (by simpa using hl) (by
      intro x hx
      obtain ⟨i, _, rfl⟩ := List.mem_map.mp hx
      exact ⟨_, et_name, by simp [e_var, e_non, e_bl, e_int, e_str, e_ty, e_glob, e_op, e_neg, e_cmp, e_chn, e_bop, e_not, e_ife, e_tup, e_lst, e_ix, e_sl, e_cl, e_ck, e_bt, e_mt, eb_one, eb_cons, es_nil, es_cons, eo_none, eo_some, ec_none, ec_some, et_name, et_tup, et_tupl, et_sub, ets_nil, ets_cons, ei_seq, ei_rng1, ei_rng2, ei_zip, s_asg_, s_par_, s_ex_, s_ret_, s_retN_, s_ite_, ss_nil_, fin_rt, fin_nx, wipeD, lim, isK, testT, isNon, isAny, o_add, o_sub, o_mul, o_fdiv, o_mod, o_pow, o_addt, o_addl, o_mult, k_eq, k_ne, k_lt, k_le, k_gt, k_ge, k_isb, k_isn, k_isnn, k_eqb, k_eql, k_nel, k_in, k_nin, g_tup_, g_lst_, g_frz_, g_cel_, sl_tup_, sl_lst_, sl_frz_, sq_tup, sq_lst, zp_tup, n_lent, n_lenl, n_lenf, n_abs, n_int, n_intb, n_max, n_min, n_sum, n_tupl, n_tupt, n_tupc, n_all, n_any, n_gcd, n_isi, n_isit, y_int, y_bl, y_tup, y_lst, y_non, q_app]; exact r_is_integer i h n hn⟩)
    have hb : boolsD ((xs.map D.int).map fun _ => .bl true) = some (xs.map fun _ => true) := by
      rw [← bools_map, List.map_map, List.map_map]; rfl
    have ht := r_is_tuple (xs.map D.int) k h n hn
    rw [List.length_map] at ht
    by_cases hk : (xs.length : Int) = k
    · simp [e_var, e_non, e_bl, e_int, e_str, e_ty, e_glob, e_op, e_neg, e_cmp, e_chn, e_bop, e_not, e_ife, e_tup, e_lst, e_ix, e_sl, e_cl, e_ck, e_bt, e_mt, eb_one, eb_cons, es_nil, es_cons, eo_none, eo_some, ec_none, ec_some, et_name, et_tup, et_tupl, et_sub, ets_nil, ets_cons, ei_seq, ei_rng1, ei_rng2, ei_zip, s_asg_, s_par_, s_ex_, s_ret_, s_retN_, s_ite_, ss_nil_, fin_rt, fin_nx, wipeD, lim, isK, testT, isNon, isAny, o_add, o_sub, o_mul, o_fdiv, o_mod, o_pow, o_addt, o_addl, o_mult, k_eq, k_ne, k_lt, k_le, k_gt, k_ge, k_isb, k_isn, k_isnn, k_eqb, k_eql, k_nel, k_in, k_nin, g_tup_, g_lst_, g_frz_, g_cel_, sl_tup_, sl_lst_, sl_frz_, sq_tup, sq_lst, zp_tup, n_lent, n_lenl, n_lenf, n_abs, n_int, n_intb, n_max, n_min, n_sum, n_tupl, n_tupt, n_tupc, n_all, n_any, n_gcd, n_isi, n_isit, y_int, y_bl, y_tup, y_lst, y_non, q_app, ht, hk, hc, -List.map_map, hb]
    · simp [e_var, e_non, e_bl, e_int, e_str, e_ty, e_glob, e_op, e_neg, e_cmp, e_chn, e_bop, e_not, e_ife, e_tup, e_lst, e_ix, e_sl, e_cl, e_ck, e_bt, e_mt, eb_one, eb_cons, es_nil, es_cons, eo_none, eo_some, ec_none, ec_some, et_name, et_tup, et_tupl, et_sub, ets_nil, ets_cons, ei_seq, ei_rng1, ei_rng2, ei_zip, s_asg_, s_par_, s_ex_, s_ret_, s_retN_, s_ite_, ss_nil_, fin_rt, fin_nx, wipeD, lim, isK, testT, isNon, isAny, o_add, o_sub, o_mul, o_fdiv, o_mod, o_pow, o_addt, o_addl, o_mult, k_eq, k_ne, k_lt, k_le, k_gt, k_ge, k_isb, k_isn, k_isnn, k_eqb, k_eql, k_nel, k_in, k_nin, g_tup_, g_lst_, g_frz_, g_cel_, sl_tup_, sl_lst_, sl_frz_, sq_tup, sq_lst, zp_tup, n_lent, n_lenl, n_lenf, n_abs, n_int, n_intb, n_max, n_min, n_sum, n_tupl, n_tupt, n_tupc, n_all, n_any, n_gcd, n_isi, n_isit, y_int, y_bl, y_tup, y_lst, y_non, q_app, ht, hk]
theorem l_shared (cl : Nat → List D → Hs → Option (D × Hs)) (s0 : D) (all : List D) (h : Hs) : ∀ (xs : List Int) (a : Nat) (v : Option D), ∃ v', loopF (fun d σ h => evTg cl gl (.name 2) d σ h) (fun σ h => evSs cl gl (.cons (.asg (.name 1) (.bt .gcd (.cons (.var 1) (.cons (.var 2) .nil)))) .nil) σ h) none all (xs.map D.int) [some s0, some (.int (a : Int)), v] h =
    some (.nx [some s0, some (.int (gcdF a xs : Nat)), v'] h)
  | [], a, v => ⟨v, lf_nil⟩
  | x :: xs, a, v => by
    obtain ⟨v', ih⟩ := l_shared cl s0 all h xs (Nat.gcd a x.natAbs) (some (.int x))
    refine ⟨v', ?_⟩
    rw [List.map_cons, lf_cons et_name (σ2 := [some s0, some (.int (Nat.gcd a x.natAbs : Nat)), some (.int x)]) (h2 := h), ih]
    · rfl
    · rw [ss_nx (σ' := [some s0, some (.int (Nat.gcd a x.natAbs : Nat)), some (.int x)]) (h' := h), ss_nil_]
      simp [e_var, e_non, e_bl, e_int, e_str, e_ty, e_glob, e_op, e_neg, e_cmp, e_chn, e_bop, e_not, e_ife, e_tup, e_lst, e_ix, e_sl, e_cl, e_ck, e_bt, e_mt, eb_one, eb_cons, es_nil, es_cons, eo_none, eo_some, ec_none, ec_some, et_name, et_tup, et_tupl, et_sub, ets_nil, ets_cons, ei_seq, ei_rng1, ei_rng2, ei_zip, s_asg_, s_par_, s_ex_, s_ret_, s_retN_, s_ite_, ss_nil_, fin_rt, fin_nx, wipeD, lim, isK, testT, isNon, isAny, o_add, o_sub, o_mul, o_fdiv, o_mod, o_pow, o_addt, o_addl, o_mult, k_eq, k_ne, k_lt, k_le, k_gt, k_ge, k_isb, k_isn, k_isnn, k_eqb, k_eql, k_nel, k_in, k_nin, g_tup_, g_lst_, g_frz_, g_cel_, sl_tup_, sl_lst_, sl_frz_, sq_tup, sq_lst, zp_tup, n_lent, n_lenl, n_lenf, n_abs, n_int, n_intb, n_max, n_min, n_sum, n_tupl, n_tupt, n_tupc, n_all, n_any, n_gcd, n_isi, n_isit, y_int, y_bl, y_tup, y_lst, y_non, q_app]
theorem r_shared (xs : List Int) (d : D) (hd : d = .tup (xs.map D.int) ∨ d = .lst (xs.map D.int)) (h : Hs) (m : Nat) (hm : 1 ≤ m) : evF FT gl m f_shared_factor [d] h = some (.int (gcdL xs : Nat), h) := by
  obtain ⟨n, rfl, hn⟩ := lv hm
  obtain ⟨v', hl⟩ := l_shared (evF FT gl n) d (xs.map D.int) h xs 0 none
  have hs : evIt (evF FT gl n) gl (.seq (.var 0)) [some d, some (.int 0), none] h = some ⟨xs.map D.int, none, h⟩ := by
    rcases hd with rfl | rfl <;> simp [e_var, e_non, e_bl, e_int, e_str, e_ty, e_glob, e_op, e_neg, e_cmp, e_chn, e_bop, e_not, e_ife, e_tup, e_lst, e_ix, e_sl, e_cl, e_ck, e_bt, e_mt, eb_one, eb_cons, es_nil, es_cons, eo_none, eo_some, ec_none, ec_some, et_name, et_tup, et_tupl, et_sub, ets_nil, ets_cons, ei_seq, ei_rng1, ei_rng2, ei_zip, s_asg_, s_par_, s_ex_, s_ret_, s_retN_, s_ite_, ss_nil_, fin_rt, fin_nx, wipeD, lim, isK, testT, isNon, isAny, o_add, o_sub, o_mul, o_fdiv, o_mod, o_pow, o_addt, o_addl, o_mult, k_eq, k_ne, k_lt, k_le, k_gt, k_ge, k_isb, k_isn, k_isnn, k_eqb, k_eql, k_nel, k_in, k_nin, g_tup_, g_lst_, g_frz_, g_cel_, sl_tup_, sl_lst_, sl_frz_, sq_tup, sq_lst, zp_tup, n_lent, n_lenl, n_lenf, n_abs, n_int, n_intb, n_max, n_min, n_sum, n_tupl, n_tupt, n_tupc, n_all, n_any, n_gcd, n_isi, n_isit, y_int, y_bl, y_tup, y_lst, y_non, q_app]
  rw [run_f (F := ⟨1, 3, b_shared_factor, false⟩) rfl rfl rfl, b_shared_factor, ss_nx (σ' := [some d, some (.int 0), none]) (h' := h), ss_nx (σ' := [some d, some (.int (gcdL xs : Nat)), v']) (h' := h), ss_rt (d := .int (gcdL xs : Nat)) (h' := h)]
  · exact fin_rt
  · simp [e_var, e_non, e_bl, e_int, e_str, e_ty, e_glob, e_op, e_neg, e_cmp, e_chn, e_bop, e_not, e_ife, e_tup, e_lst, e_ix, e_sl, e_cl, e_ck, e_bt, e_mt, eb_one, eb_cons, es_nil, es_cons, eo_none, eo_some, ec_none, ec_some, et_name, et_tup, et_tupl, et_sub, ets_nil, ets_cons, ei_seq, ei_rng1, ei_rng2, ei_zip, s_asg_, s_par_, s_ex_, s_ret_, s_retN_, s_ite_, ss_nil_, fin_rt, fin_nx, wipeD, lim, isK, testT, isNon, isAny, o_add, o_sub, o_mul, o_fdiv, o_mod, o_pow, o_addt, o_addl, o_mult, k_eq, k_ne, k_lt, k_le, k_gt, k_ge, k_isb, k_isn, k_isnn, k_eqb, k_eql, k_nel, k_in, k_nin, g_tup_, g_lst_, g_frz_, g_cel_, sl_tup_, sl_lst_, sl_frz_, sq_tup, sq_lst, zp_tup, n_lent, n_lenl, n_lenf, n_abs, n_int, n_intb, n_max, n_min, n_sum, n_tupl, n_tupt, n_tupc, n_all, n_any, n_gcd, n_isi, n_isit, y_int, y_bl, y_tup, y_lst, y_non, q_app]
  · rw [s_for_, hs, Option.bind_some]; exact hl
  · simp [e_var, e_non, e_bl, e_int, e_str, e_ty, e_glob, e_op, e_neg, e_cmp, e_chn, e_bop, e_not, e_ife, e_tup, e_lst, e_ix, e_sl, e_cl, e_ck, e_bt, e_mt, eb_one, eb_cons, es_nil, es_cons, eo_none, eo_some, ec_none, ec_some, et_name, et_tup, et_tupl, et_sub, ets_nil, ets_cons, ei_seq, ei_rng1, ei_rng2, ei_zip, s_asg_, s_par_, s_ex_, s_ret_, s_retN_, s_ite_, ss_nil_, fin_rt, fin_nx, wipeD, lim, isK, testT, isNon, isAny, o_add, o_sub, o_mul, o_fdiv, o_mod, o_pow, o_addt, o_addl, o_mult, k_eq, k_ne, k_lt, k_le, k_gt, k_ge, k_isb, k_isn, k_isnn, k_eqb, k_eql, k_nel, k_in, k_nin, g_tup_, g_lst_, g_frz_, g_cel_, sl_tup_, sl_lst_, sl_frz_, sq_tup, sq_lst, zp_tup, n_lent, n_lenl, n_lenf, n_abs, n_int, n_intb, n_max, n_min, n_sum, n_tupl, n_tupt, n_tupc, n_all, n_any, n_gcd, n_isi, n_isit, y_int, y_bl, y_tup, y_lst, y_non, q_app]
theorem r_is_of_size (ns : List Int) (w size : Int) (hl : ns.length ≤ 10) (h : Hs) (m : Nat) (hm : 3 ≤ m) : evF FT gl m f_is_of_size [P ns w, .int size] h = some (.bl (decide ((ns.length : Int) = size) && decide (0 < w) && decide (gcdL (ns ++ [w]) = 1)), h) := by
  obtain ⟨n, rfl, hn⟩ := lv hm
  have h1 := r_are_integers (ns ++ [w]) (size + 1) h (by simp [lim]; omega) n (by omega)
  have h2 := r_shared (ns ++ [w]) (P ns w) (.inl (P_eq ns w)) h n (by omega)
  rw [← P_eq] at h1
  have h3 : L2.atI (ns.map D.int ++ [D.int w]) (-1) = some (.int w) := at_last _ _
  have h4 : ((ns ++ [w]).length : Int) = size + 1 ↔ (ns.length : Int) = size := by simp
  rw [run_f (F := ⟨2, 2, b_is_of_size, false⟩) rfl rfl rfl, b_is_of_size, ss_rt]
  · exact fin_rt
  · simp only [decide_eq_decide.mpr h4] at h1
    by_cases k1 : (ns.length : Int) = size
    · by_cases k2 : 0 < w
      · have k3 : (((gcdL (ns ++ [w]) : Nat) : Int) = 1) ↔ gcdL (ns ++ [w]) = 1 := by omega
        simp [e_var, e_non, e_bl, e_int, e_str, e_ty, e_glob, e_op, e_neg, e_cmp, e_chn, e_bop, e_not, e_ife, e_tup, e_lst, e_ix, e_sl, e_cl, e_ck, e_bt, e_mt, eb_one, eb_cons, es_nil, es_cons, eo_none, eo_some, ec_none, ec_some, et_name, et_tup, et_tupl, et_sub, ets_nil, ets_cons, ei_seq, ei_rng1, ei_rng2, ei_zip, s_asg_, s_par_, s_ex_, s_ret_, s_retN_, s_ite_, ss_nil_, fin_rt, fin_nx, wipeD, lim, isK, testT, isNon, isAny, o_add, o_sub, o_mul, o_fdiv, o_mod, o_pow, o_addt, o_addl, o_mult, k_eq, k_ne, k_lt, k_le, k_gt, k_ge, k_isb, k_isn, k_isnn, k_eqb, k_eql, k_nel, k_in, k_nin, g_tup_, g_lst_, g_frz_, g_cel_, sl_tup_, sl_lst_, sl_frz_, sq_tup, sq_lst, zp_tup, n_lent, n_lenl, n_lenf, n_abs, n_int, n_intb, n_max, n_min, n_sum, n_tupl, n_tupt, n_tupc, n_all, n_any, n_gcd, n_isi, n_isit, y_int, y_bl, y_tup, y_lst, y_non, q_app, h1, h2, k1, k2, k3, P_get]
      · simp [e_var, e_non, e_bl, e_int, e_str, e_ty, e_glob, e_op, e_neg, e_cmp, e_chn, e_bop, e_not, e_ife, e_tup, e_lst, e_ix, e_sl, e_cl, e_ck, e_bt, e_mt, eb_one, eb_cons, es_nil, es_cons, eo_none, eo_some, ec_none, ec_some, et_name, et_tup, et_tupl, et_sub, ets_nil, ets_cons, ei_seq, ei_rng1, ei_rng2, ei_zip, s_asg_, s_par_, s_ex_, s_ret_, s_retN_, s_ite_, ss_nil_, fin_rt, fin_nx, wipeD, lim, isK, testT, isNon, isAny, o_add, o_sub, o_mul, o_fdiv, o_mod, o_pow, o_addt, o_addl, o_mult, k_eq, k_ne, k_lt, k_le, k_gt, k_ge, k_isb, k_isn, k_isnn, k_eqb, k_eql, k_nel, k_in, k_nin, g_tup_, g_lst_, g_frz_, g_cel_, sl_tup_, sl_lst_, sl_frz_, sq_tup, sq_lst, zp_tup, n_lent, n_lenl, n_lenf, n_abs, n_int, n_intb, n_max, n_min, n_sum, n_tupl, n_tupt, n_tupc, n_all, n_any, n_gcd, n_isi, n_isit, y_int, y_bl, y_tup, y_lst, y_non, q_app, h1, k1, k2, P_get]
    · simp [e_var, e_non, e_bl, e_int, e_str, e_ty, e_glob, e_op, e_neg, e_cmp, e_chn, e_bop, e_not, e_ife, e_tup, e_lst, e_ix, e_sl, e_cl, e_ck, e_bt, e_mt, eb_one, eb_cons, es_nil, es_cons, eo_none, eo_some, ec_none, ec_some, et_name, et_tup, et_tupl, et_sub, ets_nil, ets_cons, ei_seq, ei_rng1, ei_rng2, ei_zip, s_asg_, s_par_, s_ex_, s_ret_, s_retN_, s_ite_, ss_nil_, fin_rt, fin_nx, wipeD, lim, isK, testT, isNon, isAny, o_add, o_sub, o_mul, o_fdiv, o_mod, o_pow, o_addt, o_addl, o_mult, k_eq, k_ne, k_lt, k_le, k_gt, k_ge, k_isb, k_isn, k_isnn, k_eqb, k_eql, k_nel, k_in, k_nin, g_tup_, g_lst_, g_frz_, g_cel_, sl_tup_, sl_lst_, sl_frz_, sq_tup, sq_lst, zp_tup, n_lent, n_lenl, n_lenf, n_abs, n_int, n_intb, n_max, n_min, n_sum, n_tupl, n_tupt, n_tupc, n_all, n_any, n_gcd, n_isi, n_isit, y_int, y_bl, y_tup, y_lst, y_non, q_app, h1, k1]
theorem r_is_point (ns : List Int) (w : Int) (hl : ns.length = 2 ∨ ns.length = 3) (hw : 0 < w) (hg : gcdL (ns ++ [w]) = 1) (h : Hs) (m : Nat) (hm : 4 ≤ m) : evF FT gl m f_is_point [P ns w] h = some (.bl true, h) := by
  obtain ⟨n, rfl, hn⟩ := lv hm
  have h2 := r_is_of_size ns w 2 (by omega) h n hn
  have h3 := r_is_of_size ns w 3 (by omega) h n hn
  rw [run_f (F := ⟨1, 1, b_is_point, false⟩) rfl rfl rfl, b_is_point, ss_rt]
  · exact fin_rt
  · rcases hl with hl | hl
    · simp [e_var, e_non, e_bl, e_int, e_str, e_ty, e_glob, e_op, e_neg, e_cmp, e_chn, e_bop, e_not, e_ife, e_tup, e_lst, e_ix, e_sl, e_cl, e_ck, e_bt, e_mt, eb_one, eb_cons, es_nil, es_cons, eo_none, eo_some, ec_none, ec_some, et_name, et_tup, et_tupl, et_sub, ets_nil, ets_cons, ei_seq, ei_rng1, ei_rng2, ei_zip, s_asg_, s_par_, s_ex_, s_ret_, s_retN_, s_ite_, ss_nil_, fin_rt, fin_nx, wipeD, lim, isK, testT, isNon, isAny, o_add, o_sub, o_mul, o_fdiv, o_mod, o_pow, o_addt, o_addl, o_mult, k_eq, k_ne, k_lt, k_le, k_gt, k_ge, k_isb, k_isn, k_isnn, k_eqb, k_eql, k_nel, k_in, k_nin, g_tup_, g_lst_, g_frz_, g_cel_, sl_tup_, sl_lst_, sl_frz_, sq_tup, sq_lst, zp_tup, n_lent, n_lenl, n_lenf, n_abs, n_int, n_intb, n_max, n_min, n_sum, n_tupl, n_tupt, n_tupc, n_all, n_any, n_gcd, n_isi, n_isit, y_int, y_bl, y_tup, y_lst, y_non, q_app, h2, hl, hw, hg]
    · simp [e_var, e_non, e_bl, e_int, e_str, e_ty, e_glob, e_op, e_neg, e_cmp, e_chn, e_bop, e_not, e_ife, e_tup, e_lst, e_ix, e_sl, e_cl, e_ck, e_bt, e_mt, eb_one, eb_cons, es_nil, es_cons, eo_none, eo_some, ec_none, ec_some, et_name, et_tup, et_tupl, et_sub, ets_nil, ets_cons, ei_seq, ei_rng1, ei_rng2, ei_zip, s_asg_, s_par_, s_ex_, s_ret_, s_retN_, s_ite_, ss_nil_, fin_rt, fin_nx, wipeD, lim, isK, testT, isNon, isAny, o_add, o_sub, o_mul, o_fdiv, o_mod, o_pow, o_addt, o_addl, o_mult, k_eq, k_ne, k_lt, k_le, k_gt, k_ge, k_isb, k_isn, k_isnn, k_eqb, k_eql, k_nel, k_in, k_nin, g_tup_, g_lst_, g_frz_, g_cel_, sl_tup_, sl_lst_, sl_frz_, sq_tup, sq_lst, zp_tup, n_lent, n_lenl, n_lenf, n_abs, n_int, n_intb, n_max, n_min, n_sum, n_tupl, n_tupt, n_tupc, n_all, n_any, n_gcd, n_isi, n_isit, y_int, y_bl, y_tup, y_lst, y_non, q_app, h2, h3, hl, hw, hg]
theorem r_check_point (ns : List Int) (w : Int) (hl : ns.length = 2 ∨ ns.length = 3) (hw : 0 < w) (hg : gcdL (ns ++ [w]) = 1) (h : Hs) (m : Nat) (hm : 5 ≤ m) : evF FT gl m f_check_point [P ns w] h = some (.non, h) := by
  obtain ⟨n, rfl, hn⟩ := lv hm
  have h2 := r_is_point ns w hl hw hg h n hn
  rw [run_f (F := ⟨1, 1, b_check_point, false⟩) rfl rfl rfl, b_check_point, ss_nx (σ' := [some (P ns w)]) (h' := h), ss_nil_]
  · rfl
  · simp [e_var, e_non, e_bl, e_int, e_str, e_ty, e_glob, e_op, e_neg, e_cmp, e_chn, e_bop, e_not, e_ife, e_tup, e_lst, e_ix, e_sl, e_cl, e_ck, e_bt, e_mt, eb_one, eb_cons, es_nil, es_cons, eo_none, eo_some, ec_none, ec_some, et_name, et_tup, et_tupl, et_sub, ets_nil, ets_cons, ei_seq, ei_rng1, ei_rng2, ei_zip, s_asg_, s_par_, s_ex_, s_ret_, s_retN_, s_ite_, ss_nil_, fin_rt, fin_nx, wipeD, lim, isK, testT, isNon, isAny, o_add, o_sub, o_mul, o_fdiv, o_mod, o_pow, o_addt, o_addl, o_mult, k_eq, k_ne, k_lt, k_le, k_gt, k_ge, k_isb, k_isn, k_isnn, k_eqb, k_eql, k_nel, k_in, k_nin, g_tup_, g_lst_, g_frz_, g_cel_, sl_tup_, sl_lst_, sl_frz_, sq_tup, sq_lst, zp_tup, n_lent, n_lenl, n_lenf, n_abs, n_int, n_intb, n_max, n_min, n_sum, n_tupl, n_tupt, n_tupc, n_all, n_any, n_gcd, n_isi, n_isit, y_int, y_bl, y_tup, y_lst, y_non, q_app, h2]
theorem r_check_like (ns : List Int) (w : Int) (hl : ns.length ≤ 10) (hw : 0 < w) (hg : gcdL (ns ++ [w]) = 1) (h : Hs) (m : Nat) (hm : 4 ≤ m) : evF FT gl m f_check_like [P ns w, .int ns.length] h = some (.non, h) := by
  obtain ⟨n, rfl, hn⟩ := lv hm
  have h2 := r_is_of_size ns w ns.length hl h n hn
  rw [run_f (F := ⟨2, 2, b_check_like, false⟩) rfl rfl rfl, b_check_like, ss_nx (σ' := [some (P ns w), some (.int ns.length)]) (h' := h), ss_nil_]
  · rfl
  · simp [e_var, e_non, e_bl, e_int, e_str, e_ty, e_glob, e_op, e_neg, e_cmp, e_chn, e_bop, e_not, e_ife, e_tup, e_lst, e_ix, e_sl, e_cl, e_ck, e_bt, e_mt, eb_one, eb_cons, es_nil, es_cons, eo_none, eo_some, ec_none, ec_some, et_name, et_tup, et_tupl, et_sub, ets_nil, ets_cons, ei_seq, ei_rng1, ei_rng2, ei_zip, s_asg_, s_par_, s_ex_, s_ret_, s_retN_, s_ite_, ss_nil_, fin_rt, fin_nx, wipeD, lim, isK, testT, isNon, isAny, o_add, o_sub, o_mul, o_fdiv, o_mod, o_pow, o_addt, o_addl, o_mult, k_eq, k_ne, k_lt, k_le, k_gt, k_ge, k_isb, k_isn, k_isnn, k_eqb, k_eql, k_nel, k_in, k_nin, g_tup_, g_lst_, g_frz_, g_cel_, sl_tup_, sl_lst_, sl_frz_, sq_tup, sq_lst, zp_tup, n_lent, n_lenl, n_lenf, n_abs, n_int, n_intb, n_max, n_min, n_sum, n_tupl, n_tupt, n_tupc, n_all, n_any, n_gcd, n_isi, n_isit, y_int, y_bl, y_tup, y_lst, y_non, q_app, h2, hw, hg]
theorem r_size_of (ns : List Int) (w : Int) (h : Hs) (m : Nat) (hm : 1 ≤ m) : evF FT gl m f_size_of [P ns w] h = some (.int ns.length, h) := by
  obtain ⟨n, rfl, hn⟩ := lv hm
  rw [run_f (F := ⟨1, 1, b_size_of, false⟩) rfl rfl rfl, b_size_of, ss_rt]
  · exact fin_rt
  · simp [e_var, e_non, e_bl, e_int, e_str, e_ty, e_glob, e_op, e_neg, e_cmp, e_chn, e_bop, e_not, e_ife, e_tup, e_lst, e_ix, e_sl, e_cl, e_ck, e_bt, e_mt, eb_one, eb_cons, es_nil, es_cons, eo_none, eo_some, ec_none, ec_some, et_name, et_tup, et_tupl, et_sub, ets_nil, ets_cons, ei_seq, ei_rng1, ei_rng2, ei_zip, s_asg_, s_par_, s_ex_, s_ret_, s_retN_, s_ite_, ss_nil_, fin_rt, fin_nx, wipeD, lim, isK, testT, isNon, isAny, o_add, o_sub, o_mul, o_fdiv, o_mod, o_pow, o_addt, o_addl, o_mult, k_eq, k_ne, k_lt, k_le, k_gt, k_ge, k_isb, k_isn, k_isnn, k_eqb, k_eql, k_nel, k_in, k_nin, g_tup_, g_lst_, g_frz_, g_cel_, sl_tup_, sl_lst_, sl_frz_, sq_tup, sq_lst, zp_tup, n_lent, n_lenl, n_lenf, n_abs, n_int, n_intb, n_max, n_min, n_sum, n_tupl, n_tupt, n_tupc, n_all, n_any, n_gcd, n_isi, n_isit, y_int, y_bl, y_tup, y_lst, y_non, q_app, P_len]
theorem any_bools (f : Int → Bool) (xs : List Int) : boolsD (xs.map fun x => D.bl (f x)) = some (xs.map f) := by
  rw [← bools_map, List.map_map]; rfl
theorem r_is_side_of (ns : List Int) (w size : Int) (hl : ns.length ≤ 10) (h : Hs) (m : Nat) (hm : 3 ≤ m) : evF FT gl m f_is_side_of [P ns w, .int size] h = some (.bl (decide ((ns.length : Int) = size) && decide (gcdL (ns ++ [w]) = 1) && ns.any fun x => !decide (x = 0)), h) := by
  obtain ⟨n, rfl, hn⟩ := lv hm
  have h1 := r_are_integers (ns ++ [w]) (size + 1) h (by simp [lim]; omega) n (by omega)
  have h2 := r_shared (ns ++ [w]) (P ns w) (.inl (P_eq ns w)) h n (by omega)
  rw [← P_eq] at h1
  have h4 : ((ns ++ [w]).length : Int) = size + 1 ↔ (ns.length : Int) = size := by simp
  simp only [decide_eq_decide.mpr h4] at h1
  have k3 : (((gcdL (ns ++ [w]) : Nat) : Int) = 1) ↔ gcdL (ns ++ [w]) = 1 := by omega
  have hc := cp_map (cl := evF FT gl n) (gl := gl) (σ := [some (P ns w), some (.int size), none]) (h := h) (ce := .cmp .ne (.var 2) (.int 0)) (t := .name 2) (it := .seq (.sl (.var 0) .none (.some (.neg (.int 1))))) (own := [2]) (xs := ns.map D.int) (h1 := h) (g := fun d => match d with | .int x => .bl (!decide (x = 0)) | _ => .non) (by simp [e_var, e_non, e_bl, e_int, e_str, e_ty, e_glob, e_op, e_neg, e_cmp, e_chn, e_bop, e_not, e_ife, e_tup, e_lst, e_ix, e_sl, e_cl, e_ck, e_bt, e_mt, eb_one, eb_cons, es_nil, es_cons, eo_none, eo_some, ec_none, ec_some, et_name, et_tup, et_tupl, et_sub, ets_nil, ets_cons, ei_seq, ei_rng1, ei_rng2, ei_zip, s_asg_, s_par_, s_ex_, s_ret_, s_retN_, s_ite_, ss_nil_, fin_rt, fin_nx, wipeD, lim, isK, testT, isNon, isAny, o_add, o_sub, o_mul, o_fdiv, o_mod, o_pow, o_addt, o_addl, o_mult, k_eq, k_ne, k_lt, k_le, k_gt, k_ge, k_isb, k_isn, k_isnn, k_eqb, k_eql, k_nel, k_in, k_nin, g_tup_, g_lst_, g_frz_, g_cel_, sl_tup_, sl_lst_, sl_frz_, sq_tup, sq_lst, zp_tup, n_lent, n_lenl, n_lenf, n_abs, n_int, n_intb, n_max, n_min, n_sum, n_tupl, n_tupt, n_tupc, n_all, n_any, n_gcd, n_isi, n_isit, y_int, y_bl, y_tup, y_lst, y_non, q_app, P_cut]) (by simp [lim]; omega) (by
      intro x hx
      obtain ⟨i, _, rfl⟩ := List.mem_map.mp hx
      exact ⟨_, et_name, by simp [e_var, e_non, e_bl, e_int, e_str, e_ty, e_glob, e_op, e_neg, e_cmp, e_chn, e_bop, e_not, e_ife, e_tup, e_lst, e_ix, e_sl, e_cl, e_ck, e_bt, e_mt, eb_one, eb_cons, es_nil, es_cons, eo_none, eo_some, ec_none, ec_some, et_name, et_tup, et_tupl, et_sub, ets_nil, ets_cons, ei_seq, ei_rng1, ei_rng2, ei_zip, s_asg_, s_par_, s_ex_, s_ret_, s_retN_, s_ite_, ss_nil_, fin_rt, fin_nx, wipeD, lim, isK, testT, isNon, isAny, o_add, o_sub, o_mul, o_fdiv, o_mod, o_pow, o_addt, o_addl, o_mult, k_eq, k_ne, k_lt, k_le, k_gt, k_ge, k_isb, k_isn, k_isnn, k_eqb, k_eql, k_nel, k_in, k_nin, g_tup_, g_lst_, g_frz_, g_cel_, sl_tup_, sl_lst_, sl_frz_, sq_tup, sq_lst, zp_tup, n_lent, n_lenl, n_lenf, n_abs, n_int, n_intb, n_max, n_min, n_sum, n_tupl, n_tupt, n_tupc, n_all, n_any, n_gcd, n_isi, n_isit, y_int, y_bl, y_tup, y_lst, y_non, q_app]⟩)
  rw [run_f (F := ⟨2, 3, b_is_side_of, false⟩) rfl rfl rfl, b_is_side_of]
  by_cases k1 : (ns.length : Int) = size ∧ gcdL (ns ++ [w]) = 1
  · rw [ss_nx (σ' := [some (P ns w), some (.int size), none]) (h' := h), ss_rt (h' := h)]
    · exact fin_rt
    · simp only [s_ret_, e_bt, es_cons, es_nil, hc, Option.bind_some, Option.map_some, n_any, List.map_map]
      have e1 : boolsD (ns.map ((fun d => match d with | .int x => D.bl (!decide (x = 0)) | _ => .non) ∘ D.int)) = some (ns.map fun x => !decide (x = 0)) := any_bools (fun x => !decide (x = 0)) ns
      rw [e1]
      simp [k1.1, k1.2, Function.comp_def]
    · simp [e_var, e_non, e_bl, e_int, e_str, e_ty, e_glob, e_op, e_neg, e_cmp, e_chn, e_bop, e_not, e_ife, e_tup, e_lst, e_ix, e_sl, e_cl, e_ck, e_bt, e_mt, eb_one, eb_cons, es_nil, es_cons, eo_none, eo_some, ec_none, ec_some, et_name, et_tup, et_tupl, et_sub, ets_nil, ets_cons, ei_seq, ei_rng1, ei_rng2, ei_zip, s_asg_, s_par_, s_ex_, s_ret_, s_retN_, s_ite_, ss_nil_, fin_rt, fin_nx, wipeD, lim, isK, testT, isNon, isAny, o_add, o_sub, o_mul, o_fdiv, o_mod, o_pow, o_addt, o_addl, o_mult, k_eq, k_ne, k_lt, k_le, k_gt, k_ge, k_isb, k_isn, k_isnn, k_eqb, k_eql, k_nel, k_in, k_nin, g_tup_, g_lst_, g_frz_, g_cel_, sl_tup_, sl_lst_, sl_frz_, sq_tup, sq_lst, zp_tup, n_lent, n_lenl, n_lenf, n_abs, n_int, n_intb, n_max, n_min, n_sum, n_tupl, n_tupt, n_tupc, n_all, n_any, n_gcd, n_isi, n_isit, y_int, y_bl, y_tup, y_lst, y_non, q_app, h1, h2, k1.1, k1.2]
  · rw [ss_rt (h' := h) (d := .bl false)]
    · have : (decide ((ns.length : Int) = size) && decide (gcdL (ns ++ [w]) = 1)) = false := by
        rw [Bool.and_eq_false_iff, decide_eq_false_iff_not, decide_eq_false_iff_not]
        by_cases z : (ns.length : Int) = size
        · exact .inr fun q => k1 ⟨z, q⟩
        · exact .inl z
      rw [this]; rfl
    · by_cases z : (ns.length : Int) = size
      · have z2 : ¬ gcdL (ns ++ [w]) = 1 := fun q => k1 ⟨z, q⟩
        simp [e_var, e_non, e_bl, e_int, e_str, e_ty, e_glob, e_op, e_neg, e_cmp, e_chn, e_bop, e_not, e_ife, e_tup, e_lst, e_ix, e_sl, e_cl, e_ck, e_bt, e_mt, eb_one, eb_cons, es_nil, es_cons, eo_none, eo_some, ec_none, ec_some, et_name, et_tup, et_tupl, et_sub, ets_nil, ets_cons, ei_seq, ei_rng1, ei_rng2, ei_zip, s_asg_, s_par_, s_ex_, s_ret_, s_retN_, s_ite_, ss_nil_, fin_rt, fin_nx, wipeD, lim, isK, testT, isNon, isAny, o_add, o_sub, o_mul, o_fdiv, o_mod, o_pow, o_addt, o_addl, o_mult, k_eq, k_ne, k_lt, k_le, k_gt, k_ge, k_isb, k_isn, k_isnn, k_eqb, k_eql, k_nel, k_in, k_nin, g_tup_, g_lst_, g_frz_, g_cel_, sl_tup_, sl_lst_, sl_frz_, sq_tup, sq_lst, zp_tup, n_lent, n_lenl, n_lenf, n_abs, n_int, n_intb, n_max, n_min, n_sum, n_tupl, n_tupt, n_tupc, n_all, n_any, n_gcd, n_isi, n_isit, y_int, y_bl, y_tup, y_lst, y_non, q_app, h1, h2, z, k3, z2, ss_cons_]
      · simp [e_var, e_non, e_bl, e_int, e_str, e_ty, e_glob, e_op, e_neg, e_cmp, e_chn, e_bop, e_not, e_ife, e_tup, e_lst, e_ix, e_sl, e_cl, e_ck, e_bt, e_mt, eb_one, eb_cons, es_nil, es_cons, eo_none, eo_some, ec_none, ec_some, et_name, et_tup, et_tupl, et_sub, ets_nil, ets_cons, ei_seq, ei_rng1, ei_rng2, ei_zip, s_asg_, s_par_, s_ex_, s_ret_, s_retN_, s_ite_, ss_nil_, fin_rt, fin_nx, wipeD, lim, isK, testT, isNon, isAny, o_add, o_sub, o_mul, o_fdiv, o_mod, o_pow, o_addt, o_addl, o_mult, k_eq, k_ne, k_lt, k_le, k_gt, k_ge, k_isb, k_isn, k_isnn, k_eqb, k_eql, k_nel, k_in, k_nin, g_tup_, g_lst_, g_frz_, g_cel_, sl_tup_, sl_lst_, sl_frz_, sq_tup, sq_lst, zp_tup, n_lent, n_lenl, n_lenf, n_abs, n_int, n_intb, n_max, n_min, n_sum, n_tupl, n_tupt, n_tupc, n_all, n_any, n_gcd, n_isi, n_isit, y_int, y_bl, y_tup, y_lst, y_non, q_app, h1, z, ss_cons_]
theorem r_is_side (ns : List Int) (w : Int) (hl : ns.length = 2 ∨ ns.length = 3) (hg : gcdL (ns ++ [w]) = 1) (ha : (ns.any fun x => !decide (x = 0)) = true) (h : Hs) (m : Nat) (hm : 4 ≤ m) : evF FT gl m f_is_side [P ns w] h = some (.bl true, h) := by
  obtain ⟨n, rfl, hn⟩ := lv hm
  have h2 := r_is_side_of ns w 2 (by omega) h n hn
  have h3 := r_is_side_of ns w 3 (by omega) h n hn
  rw [run_f (F := ⟨1, 1, b_is_side, false⟩) rfl rfl rfl, b_is_side, ss_rt]
  · exact fin_rt
  · rw [hg, ha] at h2 h3
    rcases hl with hl | hl
    · simp [e_var, e_non, e_bl, e_int, e_str, e_ty, e_glob, e_op, e_neg, e_cmp, e_chn, e_bop, e_not, e_ife, e_tup, e_lst, e_ix, e_sl, e_cl, e_ck, e_bt, e_mt, eb_one, eb_cons, es_nil, es_cons, eo_none, eo_some, ec_none, ec_some, et_name, et_tup, et_tupl, et_sub, ets_nil, ets_cons, ei_seq, ei_rng1, ei_rng2, ei_zip, s_asg_, s_par_, s_ex_, s_ret_, s_retN_, s_ite_, ss_nil_, fin_rt, fin_nx, wipeD, lim, isK, testT, isNon, isAny, o_add, o_sub, o_mul, o_fdiv, o_mod, o_pow, o_addt, o_addl, o_mult, k_eq, k_ne, k_lt, k_le, k_gt, k_ge, k_isb, k_isn, k_isnn, k_eqb, k_eql, k_nel, k_in, k_nin, g_tup_, g_lst_, g_frz_, g_cel_, sl_tup_, sl_lst_, sl_frz_, sq_tup, sq_lst, zp_tup, n_lent, n_lenl, n_lenf, n_abs, n_int, n_intb, n_max, n_min, n_sum, n_tupl, n_tupt, n_tupc, n_all, n_any, n_gcd, n_isi, n_isit, y_int, y_bl, y_tup, y_lst, y_non, q_app, h2, hl]
    · simp [e_var, e_non, e_bl, e_int, e_str, e_ty, e_glob, e_op, e_neg, e_cmp, e_chn, e_bop, e_not, e_ife, e_tup, e_lst, e_ix, e_sl, e_cl, e_ck, e_bt, e_mt, eb_one, eb_cons, es_nil, es_cons, eo_none, eo_some, ec_none, ec_some, et_name, et_tup, et_tupl, et_sub, ets_nil, ets_cons, ei_seq, ei_rng1, ei_rng2, ei_zip, s_asg_, s_par_, s_ex_, s_ret_, s_retN_, s_ite_, ss_nil_, fin_rt, fin_nx, wipeD, lim, isK, testT, isNon, isAny, o_add, o_sub, o_mul, o_fdiv, o_mod, o_pow, o_addt, o_addl, o_mult, k_eq, k_ne, k_lt, k_le, k_gt, k_ge, k_isb, k_isn, k_isnn, k_eqb, k_eql, k_nel, k_in, k_nin, g_tup_, g_lst_, g_frz_, g_cel_, sl_tup_, sl_lst_, sl_frz_, sq_tup, sq_lst, zp_tup, n_lent, n_lenl, n_lenf, n_abs, n_int, n_intb, n_max, n_min, n_sum, n_tupl, n_tupt, n_tupc, n_all, n_any, n_gcd, n_isi, n_isit, y_int, y_bl, y_tup, y_lst, y_non, q_app, h2, h3, hl]
theorem r_check_side (ns : List Int) (w : Int) (hl : ns.length = 2 ∨ ns.length = 3) (hg : gcdL (ns ++ [w]) = 1) (ha : (ns.any fun x => !decide (x = 0)) = true) (h : Hs) (m : Nat) (hm : 5 ≤ m) : evF FT gl m f_check_side [P ns w] h = some (.non, h) := by
  obtain ⟨n, rfl, hn⟩ := lv hm
  have h2 := r_is_side ns w hl hg ha h n hn
  rw [run_f (F := ⟨1, 1, b_check_side, false⟩) rfl rfl rfl, b_check_side, ss_nx (σ' := [some (P ns w)]) (h' := h), ss_nil_]
  · rfl
  · simp [e_var, e_non, e_bl, e_int, e_str, e_ty, e_glob, e_op, e_neg, e_cmp, e_chn, e_bop, e_not, e_ife, e_tup, e_lst, e_ix, e_sl, e_cl, e_ck, e_bt, e_mt, eb_one, eb_cons, es_nil, es_cons, eo_none, eo_some, ec_none, ec_some, et_name, et_tup, et_tupl, et_sub, ets_nil, ets_cons, ei_seq, ei_rng1, ei_rng2, ei_zip, s_asg_, s_par_, s_ex_, s_ret_, s_retN_, s_ite_, ss_nil_, fin_rt, fin_nx, wipeD, lim, isK, testT, isNon, isAny, o_add, o_sub, o_mul, o_fdiv, o_mod, o_pow, o_addt, o_addl, o_mult, k_eq, k_ne, k_lt, k_le, k_gt, k_ge, k_isb, k_isn, k_isnn, k_eqb, k_eql, k_nel, k_in, k_nin, g_tup_, g_lst_, g_frz_, g_cel_, sl_tup_, sl_lst_, sl_frz_, sq_tup, sq_lst, zp_tup, n_lent, n_lenl, n_lenf, n_abs, n_int, n_intb, n_max, n_min, n_sum, n_tupl, n_tupt, n_tupc, n_all, n_any, n_gcd, n_isi, n_isit, y_int, y_bl, y_tup, y_lst, y_non, q_app, h2]
theorem r_check_both (ns cs : List Int) (c w : Int) (hl : ns.length = 2 ∨ ns.length = 3) (hlc : cs.length = ns.length) (hg : gcdL (ns ++ [c]) = 1) (ha : (ns.any fun x => !decide (x = 0)) = true) (hw : 0 < w) (hgw : gcdL (cs ++ [w]) = 1) (h : Hs) (m : Nat) (hm : 6 ≤ m) : evF FT gl m f_check_both [P ns c, P cs w] h = some (.non, h) := by
  obtain ⟨n, rfl, hn⟩ := lv hm
  have h1 := r_check_side ns c hl hg ha h n hn
  have h2 := r_size_of ns c h n (by omega)
  have h3 := r_check_like cs w (by omega) hw hgw h n (by omega)
  rw [hlc] at h3
  rw [run_f (F := ⟨2, 2, b_check_both, false⟩) rfl rfl rfl, b_check_both, ss_nx (h' := h) (σ' := [some (P ns c), some (P cs w)]), ss_nx (h' := h) (σ' := [some (P ns c), some (P cs w)]), ss_nil_]
  · rfl
  · simp [e_var, e_non, e_bl, e_int, e_str, e_ty, e_glob, e_op, e_neg, e_cmp, e_chn, e_bop, e_not, e_ife, e_tup, e_lst, e_ix, e_sl, e_cl, e_ck, e_bt, e_mt, eb_one, eb_cons, es_nil, es_cons, eo_none, eo_some, ec_none, ec_some, et_name, et_tup, et_tupl, et_sub, ets_nil, ets_cons, ei_seq, ei_rng1, ei_rng2, ei_zip, s_asg_, s_par_, s_ex_, s_ret_, s_retN_, s_ite_, ss_nil_, fin_rt, fin_nx, wipeD, lim, isK, testT, isNon, isAny, o_add, o_sub, o_mul, o_fdiv, o_mod, o_pow, o_addt, o_addl, o_mult, k_eq, k_ne, k_lt, k_le, k_gt, k_ge, k_isb, k_isn, k_isnn, k_eqb, k_eql, k_nel, k_in, k_nin, g_tup_, g_lst_, g_frz_, g_cel_, sl_tup_, sl_lst_, sl_frz_, sq_tup, sq_lst, zp_tup, n_lent, n_lenl, n_lenf, n_abs, n_int, n_intb, n_max, n_min, n_sum, n_tupl, n_tupt, n_tupc, n_all, n_any, n_gcd, n_isi, n_isit, y_int, y_bl, y_tup, y_lst, y_non, q_app, h2, h3]
  · simp [e_var, e_non, e_bl, e_int, e_str, e_ty, e_glob, e_op, e_neg, e_cmp, e_chn, e_bop, e_not, e_ife, e_tup, e_lst, e_ix, e_sl, e_cl, e_ck, e_bt, e_mt, eb_one, eb_cons, es_nil, es_cons, eo_none, eo_some, ec_none, ec_some, et_name, et_tup, et_tupl, et_sub, ets_nil, ets_cons, ei_seq, ei_rng1, ei_rng2, ei_zip, s_asg_, s_par_, s_ex_, s_ret_, s_retN_, s_ite_, ss_nil_, fin_rt, fin_nx, wipeD, lim, isK, testT, isNon, isAny, o_add, o_sub, o_mul, o_fdiv, o_mod, o_pow, o_addt, o_addl, o_mult, k_eq, k_ne, k_lt, k_le, k_gt, k_ge, k_isb, k_isn, k_isnn, k_eqb, k_eql, k_nel, k_in, k_nin, g_tup_, g_lst_, g_frz_, g_cel_, sl_tup_, sl_lst_, sl_frz_, sq_tup, sq_lst, zp_tup, n_lent, n_lenl, n_lenf, n_abs, n_int, n_intb, n_max, n_min, n_sum, n_tupl, n_tupt, n_tupc, n_all, n_any, n_gcd, n_isi, n_isit, y_int, y_bl, y_tup, y_lst, y_non, q_app, h1]
theorem r_check_two (ns cs : List Int) (c w : Int) (hl : ns.length = 2 ∨ ns.length = 3) (hlc : cs.length = ns.length) (hc : 0 < c) (hg : gcdL (ns ++ [c]) = 1) (hw : 0 < w) (hgw : gcdL (cs ++ [w]) = 1) (h : Hs) (m : Nat) (hm : 6 ≤ m) : evF FT gl m f_check_two [P ns c, P cs w] h = some (.non, h) := by
  obtain ⟨n, rfl, hn⟩ := lv hm
  have h1 := r_check_point ns c hl hc hg h n hn
  have h2 := r_size_of ns c h n (by omega)
  have h3 := r_check_like cs w (by omega) hw hgw h n (by omega)
  rw [hlc] at h3
  rw [run_f (F := ⟨2, 2, b_check_two, false⟩) rfl rfl rfl, b_check_two, ss_nx (h' := h) (σ' := [some (P ns c), some (P cs w)]), ss_nx (h' := h) (σ' := [some (P ns c), some (P cs w)]), ss_nil_]
  · rfl
  · simp [e_var, e_non, e_bl, e_int, e_str, e_ty, e_glob, e_op, e_neg, e_cmp, e_chn, e_bop, e_not, e_ife, e_tup, e_lst, e_ix, e_sl, e_cl, e_ck, e_bt, e_mt, eb_one, eb_cons, es_nil, es_cons, eo_none, eo_some, ec_none, ec_some, et_name, et_tup, et_tupl, et_sub, ets_nil, ets_cons, ei_seq, ei_rng1, ei_rng2, ei_zip, s_asg_, s_par_, s_ex_, s_ret_, s_retN_, s_ite_, ss_nil_, fin_rt, fin_nx, wipeD, lim, isK, testT, isNon, isAny, o_add, o_sub, o_mul, o_fdiv, o_mod, o_pow, o_addt, o_addl, o_mult, k_eq, k_ne, k_lt, k_le, k_gt, k_ge, k_isb, k_isn, k_isnn, k_eqb, k_eql, k_nel, k_in, k_nin, g_tup_, g_lst_, g_frz_, g_cel_, sl_tup_, sl_lst_, sl_frz_, sq_tup, sq_lst, zp_tup, n_lent, n_lenl, n_lenf, n_abs, n_int, n_intb, n_max, n_min, n_sum, n_tupl, n_tupt, n_tupc, n_all, n_any, n_gcd, n_isi, n_isit, y_int, y_bl, y_tup, y_lst, y_non, q_app, h2, h3]
  · simp [e_var, e_non, e_bl, e_int, e_str, e_ty, e_glob, e_op, e_neg, e_cmp, e_chn, e_bop, e_not, e_ife, e_tup, e_lst, e_ix, e_sl, e_cl, e_ck, e_bt, e_mt, eb_one, eb_cons, es_nil, es_cons, eo_none, eo_some, ec_none, ec_some, et_name, et_tup, et_tupl, et_sub, ets_nil, ets_cons, ei_seq, ei_rng1, ei_rng2, ei_zip, s_asg_, s_par_, s_ex_, s_ret_, s_retN_, s_ite_, ss_nil_, fin_rt, fin_nx, wipeD, lim, isK, testT, isNon, isAny, o_add, o_sub, o_mul, o_fdiv, o_mod, o_pow, o_addt, o_addl, o_mult, k_eq, k_ne, k_lt, k_le, k_gt, k_ge, k_isb, k_isn, k_isnn, k_eqb, k_eql, k_nel, k_in, k_nin, g_tup_, g_lst_, g_frz_, g_cel_, sl_tup_, sl_lst_, sl_frz_, sq_tup, sq_lst, zp_tup, n_lent, n_lenl, n_lenf, n_abs, n_int, n_intb, n_max, n_min, n_sum, n_tupl, n_tupt, n_tupc, n_all, n_any, n_gcd, n_isi, n_isit, y_int, y_bl, y_tup, y_lst, y_non, q_app, h1]
end K03

set_option Elab.async false
set_option linter.all false
set_option maxRecDepth 100000
set_option maxHeartbeats 1000000
/-! k03: the program's defs on fractions and points, over rational numbers. -/
namespace K03
open PySem L2 Py
theorem gcd_okE {a b : Int} {k : Nat} (hb : 0 < b) (hs : Sz b k) (hk : k ≤ 9000) (h0 : 0 < k) : (0 : Int) < (Nat.gcd a.natAbs b.natAbs : Int) ∧ ((Nat.gcd a.natAbs b.natAbs : Nat) : Int).natAbs.log2 < 9000 := by
  have h1 : 0 < Nat.gcd a.natAbs b.natAbs := Nat.gcd_pos_of_pos_right _ (by omega)
  have h2 : Nat.gcd a.natAbs b.natAbs ≤ b.natAbs := Nat.gcd_le_right _ (by omega)
  have h3 : Sz ((Nat.gcd a.natAbs b.natAbs : Nat) : Int) k := by
    unfold Sz at *
    simp only [Int.natAbs_natCast]
    omega
  exact h3.div_ok (by omega) h0 hk
theorem r_lowest (t b : Int) {k : Nat} (hb : 0 < b) (hs : Sz b k) (h0 : 0 < k) (hk : k ≤ 9000) (h : Hs) (m : Nat) (hm : 1 ≤ m) : evF FT gl m f_lowest [.int t, .int b] h = some (fr ((t : Rat) / b), h) := by
  obtain ⟨n, rfl, hn⟩ := lv hm
  have hg := gcd_okE (a := t) hb hs hk h0
  have hnb : ¬ b < 0 := by omega
  rw [run_f (F := ⟨2, 3, b_lowest, false⟩) rfl rfl rfl, b_lowest, ss_nx (σ' := [some (.int t), some (.int b), some (.int (Nat.gcd t.natAbs b.natAbs : Nat))]) (h' := h), ss_nx (σ' := [some (.int t), some (.int b), some (.int (Nat.gcd t.natAbs b.natAbs : Nat))]) (h' := h), ss_rt (h' := h)]
  · exact fin_rt
  · rw [← fr_low t b hb]
    generalize ((Nat.gcd t.natAbs b.natAbs : Nat) : Int) = g at hg ⊢
    simp [e_var, e_non, e_bl, e_int, e_str, e_ty, e_glob, e_op, e_neg, e_cmp, e_chn, e_bop, e_not, e_ife, e_tup, e_lst, e_ix, e_sl, e_cl, e_ck, e_bt, e_mt, eb_one, eb_cons, es_nil, es_cons, eo_none, eo_some, ec_none, ec_some, et_name, et_tup, et_tupl, et_sub, ets_nil, ets_cons, ei_seq, ei_rng1, ei_rng2, ei_zip, s_asg_, s_par_, s_ex_, s_ret_, s_retN_, s_ite_, ss_nil_, fin_rt, fin_nx, wipeD, lim, isK, testT, isNon, isAny, o_add, o_sub, o_mul, o_fdiv, o_mod, o_pow, o_addt, o_addl, o_mult, k_eq, k_ne, k_lt, k_le, k_gt, k_ge, k_isb, k_isn, k_isnn, k_eqb, k_eql, k_nel, k_in, k_nin, g_tup_, g_lst_, g_frz_, g_cel_, sl_tup_, sl_lst_, sl_frz_, sq_tup, sq_lst, zp_tup, n_lent, n_lenl, n_lenf, n_abs, n_int, n_intb, n_max, n_min, n_sum, n_tupl, n_tupt, n_tupc, n_all, n_any, n_gcd, n_isi, n_isit, y_int, y_bl, y_tup, y_lst, y_non, q_app, hg]
  · simp [e_var, e_non, e_bl, e_int, e_str, e_ty, e_glob, e_op, e_neg, e_cmp, e_chn, e_bop, e_not, e_ife, e_tup, e_lst, e_ix, e_sl, e_cl, e_ck, e_bt, e_mt, eb_one, eb_cons, es_nil, es_cons, eo_none, eo_some, ec_none, ec_some, et_name, et_tup, et_tupl, et_sub, ets_nil, ets_cons, ei_seq, ei_rng1, ei_rng2, ei_zip, s_asg_, s_par_, s_ex_, s_ret_, s_retN_, s_ite_, ss_nil_, fin_rt, fin_nx, wipeD, lim, isK, testT, isNon, isAny, o_add, o_sub, o_mul, o_fdiv, o_mod, o_pow, o_addt, o_addl, o_mult, k_eq, k_ne, k_lt, k_le, k_gt, k_ge, k_isb, k_isn, k_isnn, k_eqb, k_eql, k_nel, k_in, k_nin, g_tup_, g_lst_, g_frz_, g_cel_, sl_tup_, sl_lst_, sl_frz_, sq_tup, sq_lst, zp_tup, n_lent, n_lenl, n_lenf, n_abs, n_int, n_intb, n_max, n_min, n_sum, n_tupl, n_tupt, n_tupc, n_all, n_any, n_gcd, n_isi, n_isit, y_int, y_bl, y_tup, y_lst, y_non, q_app, hnb]
  · simp [e_var, e_non, e_bl, e_int, e_str, e_ty, e_glob, e_op, e_neg, e_cmp, e_chn, e_bop, e_not, e_ife, e_tup, e_lst, e_ix, e_sl, e_cl, e_ck, e_bt, e_mt, eb_one, eb_cons, es_nil, es_cons, eo_none, eo_some, ec_none, ec_some, et_name, et_tup, et_tupl, et_sub, ets_nil, ets_cons, ei_seq, ei_rng1, ei_rng2, ei_zip, s_asg_, s_par_, s_ex_, s_ret_, s_retN_, s_ite_, ss_nil_, fin_rt, fin_nx, wipeD, lim, isK, testT, isNon, isAny, o_add, o_sub, o_mul, o_fdiv, o_mod, o_pow, o_addt, o_addl, o_mult, k_eq, k_ne, k_lt, k_le, k_gt, k_ge, k_isb, k_isn, k_isnn, k_eqb, k_eql, k_nel, k_in, k_nin, g_tup_, g_lst_, g_frz_, g_cel_, sl_tup_, sl_lst_, sl_frz_, sq_tup, sq_lst, zp_tup, n_lent, n_lenl, n_lenf, n_abs, n_int, n_intb, n_max, n_min, n_sum, n_tupl, n_tupt, n_tupc, n_all, n_any, n_gcd, n_isi, n_isit, y_int, y_bl, y_tup, y_lst, y_non, q_app]
theorem r_sign_of (t : Int) (h : Hs) (m : Nat) (hm : 1 ≤ m) : evF FT gl m f_sign_of [.int t] h = some (.int t.sign, h) := by
  obtain ⟨n, rfl, hn⟩ := lv hm
  have e : (if 0 < t then (1 : Int) else 0) - (if t < 0 then 1 else 0) = t.sign := by
    rcases Int.lt_trichotomy t 0 with q | q | q
    · have := Int.sign_eq_neg_one_of_neg q
      have q' : ¬ 0 < t := by omega
      simp [q, q', this]
    · subst q; rfl
    · have := Int.sign_eq_one_of_pos q
      have q' : ¬ t < 0 := by omega
      simp [q, q', this]
  rw [run_f (F := ⟨1, 1, b_sign_of, false⟩) rfl rfl rfl, b_sign_of, ss_rt (h' := h) (d := .int t.sign)]
  · exact fin_rt
  · simp [e_var, e_non, e_bl, e_int, e_str, e_ty, e_glob, e_op, e_neg, e_cmp, e_chn, e_bop, e_not, e_ife, e_tup, e_lst, e_ix, e_sl, e_cl, e_ck, e_bt, e_mt, eb_one, eb_cons, es_nil, es_cons, eo_none, eo_some, ec_none, ec_some, et_name, et_tup, et_tupl, et_sub, ets_nil, ets_cons, ei_seq, ei_rng1, ei_rng2, ei_zip, s_asg_, s_par_, s_ex_, s_ret_, s_retN_, s_ite_, ss_nil_, fin_rt, fin_nx, wipeD, lim, isK, testT, isNon, isAny, o_add, o_sub, o_mul, o_fdiv, o_mod, o_pow, o_addt, o_addl, o_mult, k_eq, k_ne, k_lt, k_le, k_gt, k_ge, k_isb, k_isn, k_isnn, k_eqb, k_eql, k_nel, k_in, k_nin, g_tup_, g_lst_, g_frz_, g_cel_, sl_tup_, sl_lst_, sl_frz_, sq_tup, sq_lst, zp_tup, n_lent, n_lenl, n_lenf, n_abs, n_int, n_intb, n_max, n_min, n_sum, n_tupl, n_tupt, n_tupc, n_all, n_any, n_gcd, n_isi, n_isit, y_int, y_bl, y_tup, y_lst, y_non, q_app, e]
theorem r_is_fraction (q : Rat) (h : Hs) (m : Nat) (hm : 3 ≤ m) : evF FT gl m f_is_fraction [fr q] h = some (.bl true, h) := by
  obtain ⟨n, rfl, hn⟩ := lv hm
  have h1 := r_are_integers [q.num, (q.den : Int)] 2 h (by simp [lim]) n (by omega)
  have hd := den_pos q
  have hg := gcd_num q
  simp at h1 hg
  rw [run_f (F := ⟨1, 1, b_is_fraction, false⟩) rfl rfl rfl, b_is_fraction, ss_rt (h' := h) (d := .bl true)]
  · exact fin_rt
  · simp [e_var, e_non, e_bl, e_int, e_str, e_ty, e_glob, e_op, e_neg, e_cmp, e_chn, e_bop, e_not, e_ife, e_tup, e_lst, e_ix, e_sl, e_cl, e_ck, e_bt, e_mt, eb_one, eb_cons, es_nil, es_cons, eo_none, eo_some, ec_none, ec_some, et_name, et_tup, et_tupl, et_sub, ets_nil, ets_cons, ei_seq, ei_rng1, ei_rng2, ei_zip, s_asg_, s_par_, s_ex_, s_ret_, s_retN_, s_ite_, ss_nil_, fin_rt, fin_nx, wipeD, lim, isK, testT, isNon, isAny, o_add, o_sub, o_mul, o_fdiv, o_mod, o_pow, o_addt, o_addl, o_mult, k_eq, k_ne, k_lt, k_le, k_gt, k_ge, k_isb, k_isn, k_isnn, k_eqb, k_eql, k_nel, k_in, k_nin, g_tup_, g_lst_, g_frz_, g_cel_, sl_tup_, sl_lst_, sl_frz_, sq_tup, sq_lst, zp_tup, n_lent, n_lenl, n_lenf, n_abs, n_int, n_intb, n_max, n_min, n_sum, n_tupl, n_tupt, n_tupc, n_all, n_any, n_gcd, n_isi, n_isit, y_int, y_bl, y_tup, y_lst, y_non, q_app, fr, h1, at_0, at_1, hd, hg, q.den_pos, q.den_nz]
theorem r_compared (p q : Rat) {k : Nat} (hp : Fq p k) (hq : Fq q k) (h0 : 0 < k) (hk : k ≤ 8000) (h : Hs) (m : Nat) (hm : 2 ≤ m) : evF FT gl m f_compared [fr p, fr q] h = some (.int (p.num * q.den - q.num * p.den).sign, h) := by
  obtain ⟨n, rfl, hn⟩ := lv hm
  have h1 := r_sign_of (p.num * q.den - q.num * p.den) h n (by omega)
  have o1 := Sz.ok hp.1 hq.2 h0 h0 (by omega)
  have o2 := Sz.ok hq.1 hp.2 h0 h0 (by omega)
  rw [run_f (F := ⟨2, 2, b_compared, false⟩) rfl rfl rfl, b_compared, ss_rt (h' := h)]
  · exact fin_rt
  · simp [e_var, e_non, e_bl, e_int, e_str, e_ty, e_glob, e_op, e_neg, e_cmp, e_chn, e_bop, e_not, e_ife, e_tup, e_lst, e_ix, e_sl, e_cl, e_ck, e_bt, e_mt, eb_one, eb_cons, es_nil, es_cons, eo_none, eo_some, ec_none, ec_some, et_name, et_tup, et_tupl, et_sub, ets_nil, ets_cons, ei_seq, ei_rng1, ei_rng2, ei_zip, s_asg_, s_par_, s_ex_, s_ret_, s_retN_, s_ite_, ss_nil_, fin_rt, fin_nx, wipeD, lim, isK, testT, isNon, isAny, o_add, o_sub, o_mul, o_fdiv, o_mod, o_pow, o_addt, o_addl, o_mult, k_eq, k_ne, k_lt, k_le, k_gt, k_ge, k_isb, k_isn, k_isnn, k_eqb, k_eql, k_nel, k_in, k_nin, g_tup_, g_lst_, g_frz_, g_cel_, sl_tup_, sl_lst_, sl_frz_, sq_tup, sq_lst, zp_tup, n_lent, n_lenl, n_lenf, n_abs, n_int, n_intb, n_max, n_min, n_sum, n_tupl, n_tupt, n_tupc, n_all, n_any, n_gcd, n_isi, n_isit, y_int, y_bl, y_tup, y_lst, y_non, q_app, fr, h1, at_0, at_1, o1, o2]
theorem r_point_from (ns : List Int) (w : Int) {k : Nat} (hl : ns.length ≤ 10) (hw : 0 < w) (hs : ∀ n ∈ ns, Sz n k) (hs' : Sz w k) (h0 : 0 < k) (hk : k ≤ 9000) (h : Hs) (m : Nat) (hm : 2 ≤ m) :
    evF FT gl m f_point_from [.lst (ns.map D.int ++ [.int w])] h = some (pt (ov w ns), h) ∧ Ok (ov w ns) k := by
  have hi := is_div hw hs hs'
  refine ⟨?_, hi.ok⟩
  rw [← hi.eq]
  obtain ⟨n, rfl, hn⟩ := lv hm
  have e : ns.map D.int ++ [.int w] = (ns ++ [w]).map D.int := by simp
  have h1 := r_shared (ns ++ [w]) _ (.inr rfl) h n (by omega)
  have hmem : w ∈ ns ++ [w] := by simp
  have g1 := gcdL_pos hmem (by omega)
  have g2 := gcdL_le hmem (by omega)
  have g3 : Sz (gcdL (ns ++ [w]) : Int) k := by unfold Sz at *; simp only [Int.natAbs_natCast]; omega
  have g4 := g3.div_ok (by omega) h0 hk
  have hlast : L2.atI ((ns ++ [w]).map D.int) (-1) = some (.int w) := by rw [← e]; exact at_last _ _
  have hnw : ¬ w < 0 := by omega
  rw [e]
  rw [run_f (F := ⟨1, 3, b_point_from, false⟩) rfl rfl rfl, b_point_from, ss_nx (σ' := [some (.lst ((ns ++ [w]).map D.int)), some (.int (gcdL (ns ++ [w]) : Nat)), none]) (h' := h), ss_nx (σ' := [some (.lst ((ns ++ [w]).map D.int)), some (.int (gcdL (ns ++ [w]) : Nat)), none]) (h' := h), ss_rt (h' := h)]
  · exact fin_rt
  · have hc := cp_ints (cl := evF FT gl n) (gl := gl) (σ := [some (.lst ((ns ++ [w]).map D.int)), some (.int (gcdL (ns ++ [w]) : Nat)), none]) (h := h) (ce := .op .fdiv (.var 2) (.var 1)) (it := .seq (.var 0)) (i := 2) (ns := ns ++ [w]) (fun x => .int (x / (gcdL (ns ++ [w]) : Nat))) (by simp only [e_var, e_non, e_bl, e_int, e_str, e_ty, e_glob, e_op, e_neg, e_cmp, e_chn, e_bop, e_not, e_ife, e_tup, e_lst, e_ix, e_sl, e_cl, e_ck, e_bt, e_mt, eb_one, eb_cons, es_nil, es_cons, eo_none, eo_some, ec_none, ec_some, et_name, et_tup, et_tupl, et_sub, ets_nil, ets_cons, ei_seq, ei_rng1, ei_rng2, ei_zip, s_asg_, s_par_, s_ex_, s_ret_, s_retN_, s_ite_, ss_nil_, fin_rt, fin_nx, wipeD, lim, isK, testT, isNon, isAny, o_add, o_sub, o_mul, o_fdiv, o_mod, o_pow, o_addt, o_addl, o_mult, k_eq, k_ne, k_lt, k_le, k_gt, k_ge, k_isb, k_isn, k_isnn, k_eqb, k_eql, k_nel, k_in, k_nin, g_tup_, g_lst_, g_frz_, g_cel_, sl_tup_, sl_lst_, sl_frz_, sq_tup, sq_lst, zp_tup, n_lent, n_lenl, n_lenf, n_abs, n_int, n_intb, n_max, n_min, n_sum, n_tupl, n_tupt, n_tupc, n_all, n_any, n_gcd, n_isi, n_isit, y_int, y_bl, y_tup, y_lst, y_non, q_app]; rfl) (by simp [lim]; omega) (by
      intro x hx
      generalize ((gcdL (ns ++ [w]) : Nat) : Int) = g at g4 ⊢
      simp [e_var, e_non, e_bl, e_int, e_str, e_ty, e_glob, e_op, e_neg, e_cmp, e_chn, e_bop, e_not, e_ife, e_tup, e_lst, e_ix, e_sl, e_cl, e_ck, e_bt, e_mt, eb_one, eb_cons, es_nil, es_cons, eo_none, eo_some, ec_none, ec_some, et_name, et_tup, et_tupl, et_sub, ets_nil, ets_cons, ei_seq, ei_rng1, ei_rng2, ei_zip, s_asg_, s_par_, s_ex_, s_ret_, s_retN_, s_ite_, ss_nil_, fin_rt, fin_nx, wipeD, lim, isK, testT, isNon, isAny, o_add, o_sub, o_mul, o_fdiv, o_mod, o_pow, o_addt, o_addl, o_mult, k_eq, k_ne, k_lt, k_le, k_gt, k_ge, k_isb, k_isn, k_isnn, k_eqb, k_eql, k_nel, k_in, k_nin, g_tup_, g_lst_, g_frz_, g_cel_, sl_tup_, sl_lst_, sl_frz_, sq_tup, sq_lst, zp_tup, n_lent, n_lenl, n_lenf, n_abs, n_int, n_intb, n_max, n_min, n_sum, n_tupl, n_tupt, n_tupc, n_all, n_any, n_gcd, n_isi, n_isit, y_int, y_bl, y_tup, y_lst, y_non, q_app, g4])
    simp only [s_ret_, e_bt, es_cons, es_nil, hc, Option.bind_some, Option.map_some, n_tupl, P_eq]
    simp
  · simp [e_var, e_non, e_bl, e_int, e_str, e_ty, e_glob, e_op, e_neg, e_cmp, e_chn, e_bop, e_not, e_ife, e_tup, e_lst, e_ix, e_sl, e_cl, e_ck, e_bt, e_mt, eb_one, eb_cons, es_nil, es_cons, eo_none, eo_some, ec_none, ec_some, et_name, et_tup, et_tupl, et_sub, ets_nil, ets_cons, ei_seq, ei_rng1, ei_rng2, ei_zip, s_asg_, s_par_, s_ex_, s_ret_, s_retN_, s_ite_, ss_nil_, fin_rt, fin_nx, wipeD, lim, isK, testT, isNon, isAny, o_add, o_sub, o_mul, o_fdiv, o_mod, o_pow, o_addt, o_addl, o_mult, k_eq, k_ne, k_lt, k_le, k_gt, k_ge, k_isb, k_isn, k_isnn, k_eqb, k_eql, k_nel, k_in, k_nin, g_tup_, g_lst_, g_frz_, g_cel_, sl_tup_, sl_lst_, sl_frz_, sq_tup, sq_lst, zp_tup, n_lent, n_lenl, n_lenf, n_abs, n_int, n_intb, n_max, n_min, n_sum, n_tupl, n_tupt, n_tupc, n_all, n_any, n_gcd, n_isi, n_isit, y_int, y_bl, y_tup, y_lst, y_non, q_app, hlast, hnw, -List.map_append]
  · simp only [s_asg_, e_cl, es_cons, es_nil, e_var, List.map_cons, List.map_nil, List.cons_append, List.getElem?_cons_zero, Option.bind_some, Option.map_some, h1]
    simp [et_name]
theorem ov_zip {f : Int → Int → Int} {g : Rat → Rat → Rat} {u w v : Int} (hf : ∀ x y : Int, ((f x y : Int) : Rat) / u = g ((x : Rat) / w) ((y : Rat) / v)) (ns ms : List Int) : ov u (List.zipWith f ns ms) = List.zipWith g (ov w ns) (ov v ms) := by
  unfold ov
  rw [List.map_zipWith, List.zipWith_map]
  congr 1
  funext x y
  exact hf x y
theorem ov_map {f : Int → Int} {g : Rat → Rat} {u w : Int} (hf : ∀ x : Int, ((f x : Int) : Rat) / u = g ((x : Rat) / w)) (ns : List Int) : ov u (ns.map f) = (ov w ns).map g := by
  unfold ov
  rw [List.map_map, List.map_map]
  apply List.map_congr_left
  intro x _
  exact hf x
theorem ov_len (w : Int) (ns : List Int) : (ov w ns).length = ns.length := by simp [ov]
theorem mem_zip {α β γ : Type} {f : α → β → γ} {as : List α} {bs : List β} {c : γ} (h : c ∈ List.zipWith f as bs) : ∃ a ∈ as, ∃ b ∈ bs, c = f a b := by
  have e : List.zipWith f as bs = (as.zip bs).map fun p => f p.1 p.2 := by rw [List.zip, List.map_zipWith]
  rw [e] at h
  obtain ⟨p, hp, rfl⟩ := List.mem_map.mp h
  exact ⟨p.1, (List.of_mem_zip hp).1, p.2, (List.of_mem_zip hp).2, rfl⟩
def mixQ (s : Rat) (a b : List Rat) : List Rat := List.zipWith (fun x y => x + s * (y - x)) a b
def addQ (a b : List Rat) : List Rat := List.zipWith (fun x y => x + y) a b
def pushQ (a b : List Rat) : List Rat := List.zipWith (fun x y => y - x) a b
def strQ (q : Rat) (a : List Rat) : List Rat := a.map fun x => x * q
theorem den0 (q : Rat) : ((q.den : Int) : Rat) ≠ 0 := rat0 (den_pos q)
end K03

set_option Elab.async false
set_option linter.all false
set_option maxRecDepth 100000
set_option maxHeartbeats 1000000
/-! k03: the program's defs that make points. -/
namespace K03
open PySem L2 Py
theorem Sz.sub' {x y : Int} {i : Nat} (h : Sz x i) (h' : Sz y i) : Sz (x - y) (i + 1) := h.sub h'
theorem lens {w v : Int} {ns ms : List Int} (hl : (ov w ns).length = (ov v ms).length) : ns.length = ms.length := by simpa [ov] using hl
theorem r_mixed (a b : List Rat) (s : Rat) {k : Nat} (ha : Ok a k) (hb : Ok b k) (hs : Fq s k) (hl : a.length ≤ 10) (hab : a.length = b.length) (h0 : 0 < k) (hk : k ≤ 2000) (h : Hs) (m : Nat) (hm : 3 ≤ m) :
    evF FT gl m f_mixed [pt a, pt b, fr s] h = some (pt (mixQ s a b), h) ∧ Ok (mixQ s a b) (3 * k + 3) := by
  obtain ⟨n, rfl, hn⟩ := lv hm
  obtain ⟨ns, w, ea, hw, _, rfl, sa, sw⟩ := ha
  obtain ⟨ms, v, eb, hv, _, rfl, sb, sv⟩ := hb
  rw [ov_len] at hl
  have hlm := lens hab
  have hd := den_pos s
  obtain ⟨st, sd⟩ := hs
  have sdt := sd.sub st
  have o1 := Sz.ok sv sdt h0 (by omega) (by omega)
  have o2 := Sz.ok sw st h0 h0 (by omega)
  have s1 := sv.mul sdt
  have s2 := sw.mul st
  have o3 := Sz.ok sw sv h0 h0 (by omega)
  have s3 := sw.mul sv
  have o4 := Sz.ok s3 sd (by omega) h0 (by omega)
  have s4 := s3.mul sd
  have hpos : 0 < w * v * (s.den : Int) := Int.mul_pos (Int.mul_pos hw hv) hd
  have e : mixQ s (ov w ns) (ov v ms) = ov (w * v * (s.den : Int)) (List.zipWith (fun x y => v * ((s.den : Int) - s.num) * x + w * s.num * y) ns ms) := by
    unfold mixQ
    rw [ov_zip]
    intro x y
    have h1 := rat0 hw
    have h2 := rat0 hv
    have h3 := den0 s
    have h4 := num_over s
    simp only [Rat.intCast_add, Rat.intCast_mul, Rat.intCast_sub]
    generalize (s.num : Rat) = T at *
    generalize ((s.den : Int) : Rat) = B at *
    subst h4
    grind
  have hf := r_point_from (List.zipWith (fun x y => v * ((s.den : Int) - s.num) * x + w * s.num * y) ns ms) (w * v * (s.den : Int)) (k := 3 * k + 3) (by simp; omega) hpos (by
    intro z hz
    obtain ⟨x, hx, y, hy, rfl⟩ := mem_zip hz
    have t1 := (s1.mul (sa x hx)).mono (j := 3 * k + 2) (by omega)
    have t2 := (s2.mul (sb y hy)).mono (j := 3 * k + 2) (by omega)
    exact t1.add t2) (s4.mono (by omega)) (by omega) (by omega) h n (by omega)
  rw [← e] at hf
  refine ⟨?_, hf.2⟩
  have hc := cp_zip (cl := evF FT gl n) (gl := gl) (σ := [some (P ns w), some (P ms v), some (fr s), some (.int s.num), some (.int s.den), some (.int (v * (s.den - s.num))), some (.int (w * s.num)), none, none, none]) (h := h) (i := 8) (j := 9) (ce := (.op .add (.op .mul (.var 5) (.var 8)) (.op .mul (.var 6) (.var 9)))) (it := (.zip (.sl (.var 0) .none (.some (.neg (.int 1)))) (.sl (.var 1) .none (.some (.neg (.int 1)))))) (as := ns) (bs := ms) (ma := D.int) (mb := D.int) (fun x y => .int (v * ((s.den : Int) - s.num) * x + w * s.num * y)) (by simp [e_var, e_non, e_bl, e_int, e_str, e_ty, e_glob, e_op, e_neg, e_cmp, e_chn, e_bop, e_not, e_ife, e_tup, e_lst, e_ix, e_sl, e_cl, e_ck, e_bt, e_mt, eb_one, eb_cons, es_nil, es_cons, eo_none, eo_some, ec_none, ec_some, et_name, et_tup, et_tupl, et_sub, ets_nil, ets_cons, ei_seq, ei_rng1, ei_rng2, ei_zip, s_asg_, s_par_, s_ex_, s_ret_, s_retN_, s_ite_, ss_nil_, fin_rt, fin_nx, wipeD, lim, isK, testT, isNon, isAny, o_add, o_sub, o_mul, o_fdiv, o_mod, o_pow, o_addt, o_addl, o_mult, k_eq, k_ne, k_lt, k_le, k_gt, k_ge, k_isb, k_isn, k_isnn, k_eqb, k_eql, k_nel, k_in, k_nin, g_tup_, g_lst_, g_frz_, g_cel_, sl_tup_, sl_lst_, sl_frz_, sq_tup, sq_lst, zp_tup, n_lent, n_lenl, n_lenf, n_abs, n_int, n_intb, n_max, n_min, n_sum, n_tupl, n_tupt, n_tupc, n_all, n_any, n_gcd, n_isi, n_isit, y_int, y_bl, y_tup, y_lst, y_non, q_app, P_cut, hlm]) (by simp [lim]; omega) (by
      intro x hx y hy
      have m1 := Sz.ok s1 (sa x hx) (by omega) h0 (by omega)
      have m2 := Sz.ok s2 (sb y hy) (by omega) h0 (by omega)
      simp [e_var, e_non, e_bl, e_int, e_str, e_ty, e_glob, e_op, e_neg, e_cmp, e_chn, e_bop, e_not, e_ife, e_tup, e_lst, e_ix, e_sl, e_cl, e_ck, e_bt, e_mt, eb_one, eb_cons, es_nil, es_cons, eo_none, eo_some, ec_none, ec_some, et_name, et_tup, et_tupl, et_sub, ets_nil, ets_cons, ei_seq, ei_rng1, ei_rng2, ei_zip, s_asg_, s_par_, s_ex_, s_ret_, s_retN_, s_ite_, ss_nil_, fin_rt, fin_nx, wipeD, lim, isK, testT, isNon, isAny, o_add, o_sub, o_mul, o_fdiv, o_mod, o_pow, o_addt, o_addl, o_mult, k_eq, k_ne, k_lt, k_le, k_gt, k_ge, k_isb, k_isn, k_isnn, k_eqb, k_eql, k_nel, k_in, k_nin, g_tup_, g_lst_, g_frz_, g_cel_, sl_tup_, sl_lst_, sl_frz_, sq_tup, sq_lst, zp_tup, n_lent, n_lenl, n_lenf, n_abs, n_int, n_intb, n_max, n_min, n_sum, n_tupl, n_tupt, n_tupc, n_all, n_any, n_gcd, n_isi, n_isit, y_int, y_bl, y_tup, y_lst, y_non, q_app, m1, m2])
  rw [ea, eb, run_f (F := ⟨3, 10, b_mixed, false⟩) rfl rfl rfl, b_mixed,
    ss_nx (σ' := [some (P ns w), some (P ms v), some (fr s), some (.int s.num), some (.int s.den), none, none, none, none, none]) (h' := h),
    ss_nx (σ' := [some (P ns w), some (P ms v), some (fr s), some (.int s.num), some (.int s.den), some (.int (v * (s.den - s.num))), some (.int (w * s.num)), none, none, none]) (h' := h),
    ss_nx (σ' := [some (P ns w), some (P ms v), some (fr s), some (.int s.num), some (.int s.den), some (.int (v * (s.den - s.num))), some (.int (w * s.num)), some (.lst (List.zipWith (fun x y => .int (v * ((s.den : Int) - s.num) * x + w * s.num * y)) ns ms)), none, none]) (h' := h),
    ss_rt (h' := h)]
  · exact fin_rt
  · have hf1 := hf.1
    rw [List.map_zipWith] at hf1
    have : min ns.length ms.length + 1 ≤ 100000 := by omega
    simp [e_var, e_non, e_bl, e_int, e_str, e_ty, e_glob, e_op, e_neg, e_cmp, e_chn, e_bop, e_not, e_ife, e_tup, e_lst, e_ix, e_sl, e_cl, e_ck, e_bt, e_mt, eb_one, eb_cons, es_nil, es_cons, eo_none, eo_some, ec_none, ec_some, et_name, et_tup, et_tupl, et_sub, ets_nil, ets_cons, ei_seq, ei_rng1, ei_rng2, ei_zip, s_asg_, s_par_, s_ex_, s_ret_, s_retN_, s_ite_, ss_nil_, fin_rt, fin_nx, wipeD, lim, isK, testT, isNon, isAny, o_add, o_sub, o_mul, o_fdiv, o_mod, o_pow, o_addt, o_addl, o_mult, k_eq, k_ne, k_lt, k_le, k_gt, k_ge, k_isb, k_isn, k_isnn, k_eqb, k_eql, k_nel, k_in, k_nin, g_tup_, g_lst_, g_frz_, g_cel_, sl_tup_, sl_lst_, sl_frz_, sq_tup, sq_lst, zp_tup, n_lent, n_lenl, n_lenf, n_abs, n_int, n_intb, n_max, n_min, n_sum, n_tupl, n_tupt, n_tupc, n_all, n_any, n_gcd, n_isi, n_isit, y_int, y_bl, y_tup, y_lst, y_non, q_app, P_get, o3, o4, hf1, this]
  · rw [s_asg_, hc]
    simp [e_var, e_non, e_bl, e_int, e_str, e_ty, e_glob, e_op, e_neg, e_cmp, e_chn, e_bop, e_not, e_ife, e_tup, e_lst, e_ix, e_sl, e_cl, e_ck, e_bt, e_mt, eb_one, eb_cons, es_nil, es_cons, eo_none, eo_some, ec_none, ec_some, et_name, et_tup, et_tupl, et_sub, ets_nil, ets_cons, ei_seq, ei_rng1, ei_rng2, ei_zip, s_asg_, s_par_, s_ex_, s_ret_, s_retN_, s_ite_, ss_nil_, fin_rt, fin_nx, wipeD, lim, isK, testT, isNon, isAny, o_add, o_sub, o_mul, o_fdiv, o_mod, o_pow, o_addt, o_addl, o_mult, k_eq, k_ne, k_lt, k_le, k_gt, k_ge, k_isb, k_isn, k_isnn, k_eqb, k_eql, k_nel, k_in, k_nin, g_tup_, g_lst_, g_frz_, g_cel_, sl_tup_, sl_lst_, sl_frz_, sq_tup, sq_lst, zp_tup, n_lent, n_lenl, n_lenf, n_abs, n_int, n_intb, n_max, n_min, n_sum, n_tupl, n_tupt, n_tupc, n_all, n_any, n_gcd, n_isi, n_isit, y_int, y_bl, y_tup, y_lst, y_non, q_app]
  · simp [e_var, e_non, e_bl, e_int, e_str, e_ty, e_glob, e_op, e_neg, e_cmp, e_chn, e_bop, e_not, e_ife, e_tup, e_lst, e_ix, e_sl, e_cl, e_ck, e_bt, e_mt, eb_one, eb_cons, es_nil, es_cons, eo_none, eo_some, ec_none, ec_some, et_name, et_tup, et_tupl, et_sub, ets_nil, ets_cons, ei_seq, ei_rng1, ei_rng2, ei_zip, s_asg_, s_par_, s_ex_, s_ret_, s_retN_, s_ite_, ss_nil_, fin_rt, fin_nx, wipeD, lim, isK, testT, isNon, isAny, o_add, o_sub, o_mul, o_fdiv, o_mod, o_pow, o_addt, o_addl, o_mult, k_eq, k_ne, k_lt, k_le, k_gt, k_ge, k_isb, k_isn, k_isnn, k_eqb, k_eql, k_nel, k_in, k_nin, g_tup_, g_lst_, g_frz_, g_cel_, sl_tup_, sl_lst_, sl_frz_, sq_tup, sq_lst, zp_tup, n_lent, n_lenl, n_lenf, n_abs, n_int, n_intb, n_max, n_min, n_sum, n_tupl, n_tupt, n_tupc, n_all, n_any, n_gcd, n_isi, n_isit, y_int, y_bl, y_tup, y_lst, y_non, q_app, P_get, o1, o2]
  · simp [e_var, e_non, e_bl, e_int, e_str, e_ty, e_glob, e_op, e_neg, e_cmp, e_chn, e_bop, e_not, e_ife, e_tup, e_lst, e_ix, e_sl, e_cl, e_ck, e_bt, e_mt, eb_one, eb_cons, es_nil, es_cons, eo_none, eo_some, ec_none, ec_some, et_name, et_tup, et_tupl, et_sub, ets_nil, ets_cons, ei_seq, ei_rng1, ei_rng2, ei_zip, s_asg_, s_par_, s_ex_, s_ret_, s_retN_, s_ite_, ss_nil_, fin_rt, fin_nx, wipeD, lim, isK, testT, isNon, isAny, o_add, o_sub, o_mul, o_fdiv, o_mod, o_pow, o_addt, o_addl, o_mult, k_eq, k_ne, k_lt, k_le, k_gt, k_ge, k_isb, k_isn, k_isnn, k_eqb, k_eql, k_nel, k_in, k_nin, g_tup_, g_lst_, g_frz_, g_cel_, sl_tup_, sl_lst_, sl_frz_, sq_tup, sq_lst, zp_tup, n_lent, n_lenl, n_lenf, n_abs, n_int, n_intb, n_max, n_min, n_sum, n_tupl, n_tupt, n_tupc, n_all, n_any, n_gcd, n_isi, n_isit, y_int, y_bl, y_tup, y_lst, y_non, q_app, fr]
theorem r_check2 (a b : List Rat) {k l : Nat} (ha : Ok a k) (hb : Ok b l) (hl : a.length = 2 ∨ a.length = 3) (hab : a.length = b.length) (h : Hs) (m : Nat) (hm : 6 ≤ m) : evF FT gl m f_check_two [pt a, pt b] h = some (.non, h) := by
  obtain ⟨ns, w, ea, hw, hg, rfl, sa, sw⟩ := ha
  obtain ⟨ms, v, eb, hv, hg', rfl, sb, sv⟩ := hb
  rw [ov_len] at hl
  rw [ea, eb]
  exact r_check_two ns ms w v hl (lens hab).symm hw hg hv hg' h m hm
theorem r_check1 (a : List Rat) {k : Nat} (ha : Ok a k) (hl : a.length = 2 ∨ a.length = 3) (h : Hs) (m : Nat) (hm : 5 ≤ m) : evF FT gl m f_check_point [pt a] h = some (.non, h) := by
  obtain ⟨ns, w, ea, hw, hg, rfl, sa, sw⟩ := ha
  rw [ov_len] at hl
  rw [ea]
  exact r_check_point ns w hl hw hg h m hm
theorem half_fr : fr (1 / 2) = .tup [.int 1, .int 2] := by
  have e1 : ((1 / 2 : Rat)).num = 1 := by decide +kernel
  have e2 : ((1 / 2 : Rat)).den = 2 := by decide +kernel
  unfold fr; rw [e1, e2]; rfl
theorem half_sz {k : Nat} (hk : 2 ≤ k) : Fq (1 / 2) k := by
  have e1 : ((1 / 2 : Rat)).num = 1 := by decide +kernel
  have e2 : ((1 / 2 : Rat)).den = 2 := by decide +kernel
  have : Fq (1 / 2) 2 := by unfold Fq Sz; rw [e1, e2]; decide
  exact this.mono hk
theorem r_middle (a b : List Rat) {k : Nat} (ha : Ok a k) (hb : Ok b k) (hl : a.length = 2 ∨ a.length = 3) (hab : a.length = b.length) (h0 : 2 ≤ k) (hk : k ≤ 2000) (h : Hs) (m : Nat) (hm : 7 ≤ m) :
    evF FT gl m f_middle [pt a, pt b] h = some (pt (mixQ (1 / 2) a b), h) ∧ Ok (mixQ (1 / 2) a b) (3 * k + 3) := by
  obtain ⟨n, rfl, hn⟩ := lv hm
  have h1 := r_mixed a b (1 / 2) ha hb (half_sz h0) (by omega) hab (by omega) hk h n (by omega)
  have h2 := r_check2 a b ha hb hl hab h n hn
  refine ⟨?_, h1.2⟩
  have h3 := h1.1
  rw [half_fr] at h3
  rw [run_f (F := ⟨2, 2, b_middle, false⟩) rfl rfl rfl, b_middle, ss_nx (σ' := [some (pt a), some (pt b)]) (h' := h), ss_rt (h' := h)]
  · exact fin_rt
  · simp [e_var, e_non, e_bl, e_int, e_str, e_ty, e_glob, e_op, e_neg, e_cmp, e_chn, e_bop, e_not, e_ife, e_tup, e_lst, e_ix, e_sl, e_cl, e_ck, e_bt, e_mt, eb_one, eb_cons, es_nil, es_cons, eo_none, eo_some, ec_none, ec_some, et_name, et_tup, et_tupl, et_sub, ets_nil, ets_cons, ei_seq, ei_rng1, ei_rng2, ei_zip, s_asg_, s_par_, s_ex_, s_ret_, s_retN_, s_ite_, ss_nil_, fin_rt, fin_nx, wipeD, lim, isK, testT, isNon, isAny, o_add, o_sub, o_mul, o_fdiv, o_mod, o_pow, o_addt, o_addl, o_mult, k_eq, k_ne, k_lt, k_le, k_gt, k_ge, k_isb, k_isn, k_isnn, k_eqb, k_eql, k_nel, k_in, k_nin, g_tup_, g_lst_, g_frz_, g_cel_, sl_tup_, sl_lst_, sl_frz_, sq_tup, sq_lst, zp_tup, n_lent, n_lenl, n_lenf, n_abs, n_int, n_intb, n_max, n_min, n_sum, n_tupl, n_tupt, n_tupc, n_all, n_any, n_gcd, n_isi, n_isit, y_int, y_bl, y_tup, y_lst, y_non, q_app, h3]
  · simp [e_var, e_non, e_bl, e_int, e_str, e_ty, e_glob, e_op, e_neg, e_cmp, e_chn, e_bop, e_not, e_ife, e_tup, e_lst, e_ix, e_sl, e_cl, e_ck, e_bt, e_mt, eb_one, eb_cons, es_nil, es_cons, eo_none, eo_some, ec_none, ec_some, et_name, et_tup, et_tupl, et_sub, ets_nil, ets_cons, ei_seq, ei_rng1, ei_rng2, ei_zip, s_asg_, s_par_, s_ex_, s_ret_, s_retN_, s_ite_, ss_nil_, fin_rt, fin_nx, wipeD, lim, isK, testT, isNon, isAny, o_add, o_sub, o_mul, o_fdiv, o_mod, o_pow, o_addt, o_addl, o_mult, k_eq, k_ne, k_lt, k_le, k_gt, k_ge, k_isb, k_isn, k_isnn, k_eqb, k_eql, k_nel, k_in, k_nin, g_tup_, g_lst_, g_frz_, g_cel_, sl_tup_, sl_lst_, sl_frz_, sq_tup, sq_lst, zp_tup, n_lent, n_lenl, n_lenf, n_abs, n_int, n_intb, n_max, n_min, n_sum, n_tupl, n_tupt, n_tupc, n_all, n_any, n_gcd, n_isi, n_isit, y_int, y_bl, y_tup, y_lst, y_non, q_app, h2]
theorem fr01 : fr 0 = .tup [.int 0, .int 1] ∧ fr 1 = .tup [.int 1, .int 1] := ⟨rfl, rfl⟩
theorem sz01 {k : Nat} (hk : 1 ≤ k) : Fq 0 k ∧ Fq 1 k := by
  have h1 : Fq 0 1 := by unfold Fq Sz; decide
  have h2 : Fq 1 1 := by unfold Fq Sz; decide
  exact ⟨h1.mono hk, h2.mono hk⟩
theorem gl_zero : gl "ZERO" = some (fr 0) := by simp [gl]; rfl
theorem gl_one : gl "ONE" = some (fr 1) := by simp [gl]; rfl
theorem share_num {s : Rat} (h0 : 0 ≤ s) (h1 : s ≤ 1) : 0 ≤ s.num ∧ s.num ≤ s.den := by
  refine ⟨Rat.num_nonneg.mpr h0, ?_⟩
  have := Rat.le_iff s 1 |>.mp h1
  simpa using this
theorem r_between (a b : List Rat) (s : Rat) {k : Nat} (ha : Ok a k) (hb : Ok b k) (hs : Fq s k) (s0 : 0 ≤ s) (s1 : s ≤ 1) (hl : a.length = 2 ∨ a.length = 3) (hab : a.length = b.length) (h0 : 2 ≤ k) (hk : k ≤ 2000) (h : Hs) (m : Nat) (hm : 7 ≤ m) :
    evF FT gl m f_between [pt a, pt b, fr s] h = some (pt (mixQ s a b), h) ∧ Ok (mixQ s a b) (3 * k + 3) := by
  obtain ⟨n, rfl, hn⟩ := lv hm
  have h1 := r_mixed a b s ha hb hs (by omega) hab (by omega) hk h n (by omega)
  have h2 := r_check2 a b ha hb hl hab h n hn
  have h3 := r_is_fraction s h n (by omega)
  have h4 := r_compared s 0 hs (sz01 (by omega)).1 (by omega) (by omega) h n (by omega)
  have h5 := r_compared s 1 hs (sz01 (by omega)).2 (by omega) (by omega) h n (by omega)
  obtain ⟨q0, q1⟩ := share_num s0 s1
  have e4 : ¬ (s.num * (0 : Rat).den - (0 : Rat).num * s.den).sign < 0 := by
    rw [Int.sign_neg_iff]
    show ¬ s.num * 1 - 0 * s.den < 0
    omega
  have e5 : ¬ 0 < (s.num * (1 : Rat).den - (1 : Rat).num * s.den).sign := by
    rw [Int.sign_pos_iff]
    show ¬ 0 < s.num * 1 - 1 * s.den
    omega
  generalize (s.num * (0 : Rat).den - (0 : Rat).num * s.den).sign = z4 at *
  generalize (s.num * (1 : Rat).den - (1 : Rat).num * s.den).sign = z5 at *
  refine ⟨?_, h1.2⟩
  rw [run_f (F := ⟨3, 3, b_between, false⟩) rfl rfl rfl, b_between, ss_nx (σ' := [some (pt a), some (pt b), some (fr s)]) (h' := h), ss_nx (σ' := [some (pt a), some (pt b), some (fr s)]) (h' := h), ss_rt (h' := h)]
  · exact fin_rt
  · simp [e_var, e_non, e_bl, e_int, e_str, e_ty, e_glob, e_op, e_neg, e_cmp, e_chn, e_bop, e_not, e_ife, e_tup, e_lst, e_ix, e_sl, e_cl, e_ck, e_bt, e_mt, eb_one, eb_cons, es_nil, es_cons, eo_none, eo_some, ec_none, ec_some, et_name, et_tup, et_tupl, et_sub, ets_nil, ets_cons, ei_seq, ei_rng1, ei_rng2, ei_zip, s_asg_, s_par_, s_ex_, s_ret_, s_retN_, s_ite_, ss_nil_, fin_rt, fin_nx, wipeD, lim, isK, testT, isNon, isAny, o_add, o_sub, o_mul, o_fdiv, o_mod, o_pow, o_addt, o_addl, o_mult, k_eq, k_ne, k_lt, k_le, k_gt, k_ge, k_isb, k_isn, k_isnn, k_eqb, k_eql, k_nel, k_in, k_nin, g_tup_, g_lst_, g_frz_, g_cel_, sl_tup_, sl_lst_, sl_frz_, sq_tup, sq_lst, zp_tup, n_lent, n_lenl, n_lenf, n_abs, n_int, n_intb, n_max, n_min, n_sum, n_tupl, n_tupt, n_tupc, n_all, n_any, n_gcd, n_isi, n_isit, y_int, y_bl, y_tup, y_lst, y_non, q_app, h1.1]
  · simp [e_var, e_non, e_bl, e_int, e_str, e_ty, e_glob, e_op, e_neg, e_cmp, e_chn, e_bop, e_not, e_ife, e_tup, e_lst, e_ix, e_sl, e_cl, e_ck, e_bt, e_mt, eb_one, eb_cons, es_nil, es_cons, eo_none, eo_some, ec_none, ec_some, et_name, et_tup, et_tupl, et_sub, ets_nil, ets_cons, ei_seq, ei_rng1, ei_rng2, ei_zip, s_asg_, s_par_, s_ex_, s_ret_, s_retN_, s_ite_, ss_nil_, fin_rt, fin_nx, wipeD, lim, isK, testT, isNon, isAny, o_add, o_sub, o_mul, o_fdiv, o_mod, o_pow, o_addt, o_addl, o_mult, k_eq, k_ne, k_lt, k_le, k_gt, k_ge, k_isb, k_isn, k_isnn, k_eqb, k_eql, k_nel, k_in, k_nin, g_tup_, g_lst_, g_frz_, g_cel_, sl_tup_, sl_lst_, sl_frz_, sq_tup, sq_lst, zp_tup, n_lent, n_lenl, n_lenf, n_abs, n_int, n_intb, n_max, n_min, n_sum, n_tupl, n_tupt, n_tupc, n_all, n_any, n_gcd, n_isi, n_isit, y_int, y_bl, y_tup, y_lst, y_non, q_app, h3, gl_zero, gl_one, h4, h5, e4, e5]
  · simp [e_var, e_non, e_bl, e_int, e_str, e_ty, e_glob, e_op, e_neg, e_cmp, e_chn, e_bop, e_not, e_ife, e_tup, e_lst, e_ix, e_sl, e_cl, e_ck, e_bt, e_mt, eb_one, eb_cons, es_nil, es_cons, eo_none, eo_some, ec_none, ec_some, et_name, et_tup, et_tupl, et_sub, ets_nil, ets_cons, ei_seq, ei_rng1, ei_rng2, ei_zip, s_asg_, s_par_, s_ex_, s_ret_, s_retN_, s_ite_, ss_nil_, fin_rt, fin_nx, wipeD, lim, isK, testT, isNon, isAny, o_add, o_sub, o_mul, o_fdiv, o_mod, o_pow, o_addt, o_addl, o_mult, k_eq, k_ne, k_lt, k_le, k_gt, k_ge, k_isb, k_isn, k_isnn, k_eqb, k_eql, k_nel, k_in, k_nin, g_tup_, g_lst_, g_frz_, g_cel_, sl_tup_, sl_lst_, sl_frz_, sq_tup, sq_lst, zp_tup, n_lent, n_lenl, n_lenf, n_abs, n_int, n_intb, n_max, n_min, n_sum, n_tupl, n_tupt, n_tupc, n_all, n_any, n_gcd, n_isi, n_isit, y_int, y_bl, y_tup, y_lst, y_non, q_app, h2]
end K03

set_option Elab.async false
set_option linter.all false
set_option maxRecDepth 100000
set_option maxHeartbeats 1000000
/-! k03: the program's defs that push points, read places and hold sides. -/
namespace K03
open PySem L2 Py
theorem r_added (a b : List Rat) {k : Nat} (ha : Ok a k) (hb : Ok b k) (hl : a.length ≤ 10) (hab : a.length = b.length) (h0 : 0 < k) (hk : k ≤ 2000) (h : Hs) (m : Nat) (hm : 3 ≤ m) :
    evF FT gl m f_added [pt a, pt b] h = some (pt (addQ a b), h) ∧ Ok (addQ a b) (2 * k + 1) := by
  obtain ⟨n, rfl, hn⟩ := lv hm
  obtain ⟨ns, w, ea, hw, _, rfl, sa, sw⟩ := ha
  obtain ⟨ms, v, eb, hv, _, rfl, sb, sv⟩ := hb
  rw [ov_len] at hl
  have hlm := lens hab
  have o3 := Sz.ok sw sv h0 h0 (by omega)
  have s3 := sw.mul sv
  have hpos : 0 < w * v := Int.mul_pos hw hv
  have e : addQ (ov w ns) (ov v ms) = ov (w * v) (List.zipWith (fun x y => x * v + y * w) ns ms) := by
    unfold addQ
    rw [ov_zip]
    intro x y
    have h1 := rat0 hw
    have h2 := rat0 hv
    simp only [Rat.intCast_add, Rat.intCast_mul, Rat.intCast_sub]
    grind
  have hf := r_point_from (List.zipWith (fun x y => x * v + y * w) ns ms) (w * v) (k := 2 * k + 1) (by simp; omega) hpos (by
    intro z hz
    obtain ⟨x, hx, y, hy, rfl⟩ := mem_zip hz
    have t1 := ((sa x hx).mul sv).mono (j := 2 * k) (by omega)
    have t2 := ((sb y hy).mul sw).mono (j := 2 * k) (by omega)
    exact t1.add t2) (s3.mono (by omega)) (by omega) (by omega) h n (by omega)
  rw [← e] at hf
  refine ⟨?_, hf.2⟩
  have hc := cp_zip (cl := evF FT gl n) (gl := gl) (σ := [some (P ns w), some (P ms v), none, none, none]) (h := h) (i := 3) (j := 4) (ce := (.op .add (.op .mul (.var 3) (.ix (.var 1) (.neg (.int 1)))) (.op .mul (.var 4) (.ix (.var 0) (.neg (.int 1)))))) (it := (.zip (.sl (.var 0) .none (.some (.neg (.int 1)))) (.sl (.var 1) .none (.some (.neg (.int 1)))))) (as := ns) (bs := ms) (ma := D.int) (mb := D.int) (fun x y => .int (x * v + y * w)) (by simp [e_var, e_non, e_bl, e_int, e_str, e_ty, e_glob, e_op, e_neg, e_cmp, e_chn, e_bop, e_not, e_ife, e_tup, e_lst, e_ix, e_sl, e_cl, e_ck, e_bt, e_mt, eb_one, eb_cons, es_nil, es_cons, eo_none, eo_some, ec_none, ec_some, et_name, et_tup, et_tupl, et_sub, ets_nil, ets_cons, ei_seq, ei_rng1, ei_rng2, ei_zip, s_asg_, s_par_, s_ex_, s_ret_, s_retN_, s_ite_, ss_nil_, fin_rt, fin_nx, wipeD, lim, isK, testT, isNon, isAny, o_add, o_sub, o_mul, o_fdiv, o_mod, o_pow, o_addt, o_addl, o_mult, k_eq, k_ne, k_lt, k_le, k_gt, k_ge, k_isb, k_isn, k_isnn, k_eqb, k_eql, k_nel, k_in, k_nin, g_tup_, g_lst_, g_frz_, g_cel_, sl_tup_, sl_lst_, sl_frz_, sq_tup, sq_lst, zp_tup, n_lent, n_lenl, n_lenf, n_abs, n_int, n_intb, n_max, n_min, n_sum, n_tupl, n_tupt, n_tupc, n_all, n_any, n_gcd, n_isi, n_isit, y_int, y_bl, y_tup, y_lst, y_non, q_app, P_cut, hlm]) (by simp [lim]; omega) (by
      intro x hx y hy
      have m1 := Sz.ok (sa x hx) sv (by omega) h0 (by omega)
      have m2 := Sz.ok (sb y hy) sw (by omega) h0 (by omega)
      simp [e_var, e_non, e_bl, e_int, e_str, e_ty, e_glob, e_op, e_neg, e_cmp, e_chn, e_bop, e_not, e_ife, e_tup, e_lst, e_ix, e_sl, e_cl, e_ck, e_bt, e_mt, eb_one, eb_cons, es_nil, es_cons, eo_none, eo_some, ec_none, ec_some, et_name, et_tup, et_tupl, et_sub, ets_nil, ets_cons, ei_seq, ei_rng1, ei_rng2, ei_zip, s_asg_, s_par_, s_ex_, s_ret_, s_retN_, s_ite_, ss_nil_, fin_rt, fin_nx, wipeD, lim, isK, testT, isNon, isAny, o_add, o_sub, o_mul, o_fdiv, o_mod, o_pow, o_addt, o_addl, o_mult, k_eq, k_ne, k_lt, k_le, k_gt, k_ge, k_isb, k_isn, k_isnn, k_eqb, k_eql, k_nel, k_in, k_nin, g_tup_, g_lst_, g_frz_, g_cel_, sl_tup_, sl_lst_, sl_frz_, sq_tup, sq_lst, zp_tup, n_lent, n_lenl, n_lenf, n_abs, n_int, n_intb, n_max, n_min, n_sum, n_tupl, n_tupt, n_tupc, n_all, n_any, n_gcd, n_isi, n_isit, y_int, y_bl, y_tup, y_lst, y_non, q_app, m1, m2, P_get])
  rw [ea, eb, run_g (F := ⟨2, 5, b_added, false⟩) [some (P ns w), some (P ms v), none, none, none] rfl rfl rfl rfl, b_added,
    ss_nx (σ' := [some (P ns w), some (P ms v), some (.lst (List.zipWith (fun x y => .int (x * v + y * w)) ns ms)), none, none]) (h' := h),
    ss_rt (h' := h)]
  · exact fin_rt
  · have hf1 := hf.1
    rw [List.map_zipWith] at hf1
    have : min ns.length ms.length + 1 ≤ 100000 := by omega
    simp [e_var, e_non, e_bl, e_int, e_str, e_ty, e_glob, e_op, e_neg, e_cmp, e_chn, e_bop, e_not, e_ife, e_tup, e_lst, e_ix, e_sl, e_cl, e_ck, e_bt, e_mt, eb_one, eb_cons, es_nil, es_cons, eo_none, eo_some, ec_none, ec_some, et_name, et_tup, et_tupl, et_sub, ets_nil, ets_cons, ei_seq, ei_rng1, ei_rng2, ei_zip, s_asg_, s_par_, s_ex_, s_ret_, s_retN_, s_ite_, ss_nil_, fin_rt, fin_nx, wipeD, lim, isK, testT, isNon, isAny, o_add, o_sub, o_mul, o_fdiv, o_mod, o_pow, o_addt, o_addl, o_mult, k_eq, k_ne, k_lt, k_le, k_gt, k_ge, k_isb, k_isn, k_isnn, k_eqb, k_eql, k_nel, k_in, k_nin, g_tup_, g_lst_, g_frz_, g_cel_, sl_tup_, sl_lst_, sl_frz_, sq_tup, sq_lst, zp_tup, n_lent, n_lenl, n_lenf, n_abs, n_int, n_intb, n_max, n_min, n_sum, n_tupl, n_tupt, n_tupc, n_all, n_any, n_gcd, n_isi, n_isit, y_int, y_bl, y_tup, y_lst, y_non, q_app, P_get, o3, hf1, this]
  · rw [s_asg_, hc]
    simp [e_var, e_non, e_bl, e_int, e_str, e_ty, e_glob, e_op, e_neg, e_cmp, e_chn, e_bop, e_not, e_ife, e_tup, e_lst, e_ix, e_sl, e_cl, e_ck, e_bt, e_mt, eb_one, eb_cons, es_nil, es_cons, eo_none, eo_some, ec_none, ec_some, et_name, et_tup, et_tupl, et_sub, ets_nil, ets_cons, ei_seq, ei_rng1, ei_rng2, ei_zip, s_asg_, s_par_, s_ex_, s_ret_, s_retN_, s_ite_, ss_nil_, fin_rt, fin_nx, wipeD, lim, isK, testT, isNon, isAny, o_add, o_sub, o_mul, o_fdiv, o_mod, o_pow, o_addt, o_addl, o_mult, k_eq, k_ne, k_lt, k_le, k_gt, k_ge, k_isb, k_isn, k_isnn, k_eqb, k_eql, k_nel, k_in, k_nin, g_tup_, g_lst_, g_frz_, g_cel_, sl_tup_, sl_lst_, sl_frz_, sq_tup, sq_lst, zp_tup, n_lent, n_lenl, n_lenf, n_abs, n_int, n_intb, n_max, n_min, n_sum, n_tupl, n_tupt, n_tupc, n_all, n_any, n_gcd, n_isi, n_isit, y_int, y_bl, y_tup, y_lst, y_non, q_app]
theorem r_push_from (a b : List Rat) {k : Nat} (ha : Ok a k) (hb : Ok b k) (hl : a.length ≤ 10) (hab : a.length = b.length) (h0 : 0 < k) (hk : k ≤ 2000) (h : Hs) (m : Nat) (hm : 3 ≤ m) :
    evF FT gl m f_push_from [pt a, pt b] h = some (pt (pushQ a b), h) ∧ Ok (pushQ a b) (2 * k + 1) := by
  obtain ⟨n, rfl, hn⟩ := lv hm
  obtain ⟨ns, w, ea, hw, _, rfl, sa, sw⟩ := ha
  obtain ⟨ms, v, eb, hv, _, rfl, sb, sv⟩ := hb
  rw [ov_len] at hl
  have hlm := lens hab
  have o3 := Sz.ok sw sv h0 h0 (by omega)
  have s3 := sw.mul sv
  have hpos : 0 < w * v := Int.mul_pos hw hv
  have e : pushQ (ov w ns) (ov v ms) = ov (w * v) (List.zipWith (fun x y => y * w - x * v) ns ms) := by
    unfold pushQ
    rw [ov_zip]
    intro x y
    have h1 := rat0 hw
    have h2 := rat0 hv
    simp only [Rat.intCast_add, Rat.intCast_mul, Rat.intCast_sub]
    grind
  have hf := r_point_from (List.zipWith (fun x y => y * w - x * v) ns ms) (w * v) (k := 2 * k + 1) (by simp; omega) hpos (by
    intro z hz
    obtain ⟨x, hx, y, hy, rfl⟩ := mem_zip hz
    have t1 := ((sa x hx).mul sv).mono (j := 2 * k) (by omega)
    have t2 := ((sb y hy).mul sw).mono (j := 2 * k) (by omega)
    exact t2.sub t1) (s3.mono (by omega)) (by omega) (by omega) h n (by omega)
  rw [← e] at hf
  refine ⟨?_, hf.2⟩
  have hc := cp_zip (cl := evF FT gl n) (gl := gl) (σ := [some (P ns w), some (P ms v), none, none, none]) (h := h) (i := 3) (j := 4) (ce := (.op .sub (.op .mul (.var 4) (.ix (.var 0) (.neg (.int 1)))) (.op .mul (.var 3) (.ix (.var 1) (.neg (.int 1)))))) (it := (.zip (.sl (.var 0) .none (.some (.neg (.int 1)))) (.sl (.var 1) .none (.some (.neg (.int 1)))))) (as := ns) (bs := ms) (ma := D.int) (mb := D.int) (fun x y => .int (y * w - x * v)) (by simp [e_var, e_non, e_bl, e_int, e_str, e_ty, e_glob, e_op, e_neg, e_cmp, e_chn, e_bop, e_not, e_ife, e_tup, e_lst, e_ix, e_sl, e_cl, e_ck, e_bt, e_mt, eb_one, eb_cons, es_nil, es_cons, eo_none, eo_some, ec_none, ec_some, et_name, et_tup, et_tupl, et_sub, ets_nil, ets_cons, ei_seq, ei_rng1, ei_rng2, ei_zip, s_asg_, s_par_, s_ex_, s_ret_, s_retN_, s_ite_, ss_nil_, fin_rt, fin_nx, wipeD, lim, isK, testT, isNon, isAny, o_add, o_sub, o_mul, o_fdiv, o_mod, o_pow, o_addt, o_addl, o_mult, k_eq, k_ne, k_lt, k_le, k_gt, k_ge, k_isb, k_isn, k_isnn, k_eqb, k_eql, k_nel, k_in, k_nin, g_tup_, g_lst_, g_frz_, g_cel_, sl_tup_, sl_lst_, sl_frz_, sq_tup, sq_lst, zp_tup, n_lent, n_lenl, n_lenf, n_abs, n_int, n_intb, n_max, n_min, n_sum, n_tupl, n_tupt, n_tupc, n_all, n_any, n_gcd, n_isi, n_isit, y_int, y_bl, y_tup, y_lst, y_non, q_app, P_cut, hlm]) (by simp [lim]; omega) (by
      intro x hx y hy
      have m1 := Sz.ok (sa x hx) sv (by omega) h0 (by omega)
      have m2 := Sz.ok (sb y hy) sw (by omega) h0 (by omega)
      simp [e_var, e_non, e_bl, e_int, e_str, e_ty, e_glob, e_op, e_neg, e_cmp, e_chn, e_bop, e_not, e_ife, e_tup, e_lst, e_ix, e_sl, e_cl, e_ck, e_bt, e_mt, eb_one, eb_cons, es_nil, es_cons, eo_none, eo_some, ec_none, ec_some, et_name, et_tup, et_tupl, et_sub, ets_nil, ets_cons, ei_seq, ei_rng1, ei_rng2, ei_zip, s_asg_, s_par_, s_ex_, s_ret_, s_retN_, s_ite_, ss_nil_, fin_rt, fin_nx, wipeD, lim, isK, testT, isNon, isAny, o_add, o_sub, o_mul, o_fdiv, o_mod, o_pow, o_addt, o_addl, o_mult, k_eq, k_ne, k_lt, k_le, k_gt, k_ge, k_isb, k_isn, k_isnn, k_eqb, k_eql, k_nel, k_in, k_nin, g_tup_, g_lst_, g_frz_, g_cel_, sl_tup_, sl_lst_, sl_frz_, sq_tup, sq_lst, zp_tup, n_lent, n_lenl, n_lenf, n_abs, n_int, n_intb, n_max, n_min, n_sum, n_tupl, n_tupt, n_tupc, n_all, n_any, n_gcd, n_isi, n_isit, y_int, y_bl, y_tup, y_lst, y_non, q_app, m1, m2, P_get])
  rw [ea, eb, run_g (F := ⟨2, 5, b_push_from, false⟩) [some (P ns w), some (P ms v), none, none, none] rfl rfl rfl rfl, b_push_from,
    ss_nx (σ' := [some (P ns w), some (P ms v), some (.lst (List.zipWith (fun x y => .int (y * w - x * v)) ns ms)), none, none]) (h' := h),
    ss_rt (h' := h)]
  · exact fin_rt
  · have hf1 := hf.1
    rw [List.map_zipWith] at hf1
    have : min ns.length ms.length + 1 ≤ 100000 := by omega
    simp [e_var, e_non, e_bl, e_int, e_str, e_ty, e_glob, e_op, e_neg, e_cmp, e_chn, e_bop, e_not, e_ife, e_tup, e_lst, e_ix, e_sl, e_cl, e_ck, e_bt, e_mt, eb_one, eb_cons, es_nil, es_cons, eo_none, eo_some, ec_none, ec_some, et_name, et_tup, et_tupl, et_sub, ets_nil, ets_cons, ei_seq, ei_rng1, ei_rng2, ei_zip, s_asg_, s_par_, s_ex_, s_ret_, s_retN_, s_ite_, ss_nil_, fin_rt, fin_nx, wipeD, lim, isK, testT, isNon, isAny, o_add, o_sub, o_mul, o_fdiv, o_mod, o_pow, o_addt, o_addl, o_mult, k_eq, k_ne, k_lt, k_le, k_gt, k_ge, k_isb, k_isn, k_isnn, k_eqb, k_eql, k_nel, k_in, k_nin, g_tup_, g_lst_, g_frz_, g_cel_, sl_tup_, sl_lst_, sl_frz_, sq_tup, sq_lst, zp_tup, n_lent, n_lenl, n_lenf, n_abs, n_int, n_intb, n_max, n_min, n_sum, n_tupl, n_tupt, n_tupc, n_all, n_any, n_gcd, n_isi, n_isit, y_int, y_bl, y_tup, y_lst, y_non, q_app, P_get, o3, hf1, this]
  · rw [s_asg_, hc]
    simp [e_var, e_non, e_bl, e_int, e_str, e_ty, e_glob, e_op, e_neg, e_cmp, e_chn, e_bop, e_not, e_ife, e_tup, e_lst, e_ix, e_sl, e_cl, e_ck, e_bt, e_mt, eb_one, eb_cons, es_nil, es_cons, eo_none, eo_some, ec_none, ec_some, et_name, et_tup, et_tupl, et_sub, ets_nil, ets_cons, ei_seq, ei_rng1, ei_rng2, ei_zip, s_asg_, s_par_, s_ex_, s_ret_, s_retN_, s_ite_, ss_nil_, fin_rt, fin_nx, wipeD, lim, isK, testT, isNon, isAny, o_add, o_sub, o_mul, o_fdiv, o_mod, o_pow, o_addt, o_addl, o_mult, k_eq, k_ne, k_lt, k_le, k_gt, k_ge, k_isb, k_isn, k_isnn, k_eqb, k_eql, k_nel, k_in, k_nin, g_tup_, g_lst_, g_frz_, g_cel_, sl_tup_, sl_lst_, sl_frz_, sq_tup, sq_lst, zp_tup, n_lent, n_lenl, n_lenf, n_abs, n_int, n_intb, n_max, n_min, n_sum, n_tupl, n_tupt, n_tupc, n_all, n_any, n_gcd, n_isi, n_isit, y_int, y_bl, y_tup, y_lst, y_non, q_app]
theorem r_moved (a b : List Rat) {k : Nat} (ha : Ok a k) (hb : Ok b k) (hl : a.length = 2 ∨ a.length = 3) (hab : a.length = b.length) (h0 : 0 < k) (hk : k ≤ 2000) (h : Hs) (m : Nat) (hm : 7 ≤ m) :
    evF FT gl m f_moved [pt a, pt b] h = some (pt (addQ a b), h) ∧ Ok (addQ a b) (2 * k + 1) := by
  obtain ⟨n, rfl, hn⟩ := lv hm
  have h1 := r_added a b ha hb (by omega) hab h0 hk h n (by omega)
  have h2 := r_check2 a b ha hb hl hab h n hn
  refine ⟨?_, h1.2⟩
  rw [run_f (F := ⟨2, 2, b_moved, false⟩) rfl rfl rfl, b_moved, ss_nx (σ' := [some (pt a), some (pt b)]) (h' := h), ss_rt (h' := h)]
  · exact fin_rt
  · simp [e_var, e_non, e_bl, e_int, e_str, e_ty, e_glob, e_op, e_neg, e_cmp, e_chn, e_bop, e_not, e_ife, e_tup, e_lst, e_ix, e_sl, e_cl, e_ck, e_bt, e_mt, eb_one, eb_cons, es_nil, es_cons, eo_none, eo_some, ec_none, ec_some, et_name, et_tup, et_tupl, et_sub, ets_nil, ets_cons, ei_seq, ei_rng1, ei_rng2, ei_zip, s_asg_, s_par_, s_ex_, s_ret_, s_retN_, s_ite_, ss_nil_, fin_rt, fin_nx, wipeD, lim, isK, testT, isNon, isAny, o_add, o_sub, o_mul, o_fdiv, o_mod, o_pow, o_addt, o_addl, o_mult, k_eq, k_ne, k_lt, k_le, k_gt, k_ge, k_isb, k_isn, k_isnn, k_eqb, k_eql, k_nel, k_in, k_nin, g_tup_, g_lst_, g_frz_, g_cel_, sl_tup_, sl_lst_, sl_frz_, sq_tup, sq_lst, zp_tup, n_lent, n_lenl, n_lenf, n_abs, n_int, n_intb, n_max, n_min, n_sum, n_tupl, n_tupt, n_tupc, n_all, n_any, n_gcd, n_isi, n_isit, y_int, y_bl, y_tup, y_lst, y_non, q_app, h1.1]
  · simp [e_var, e_non, e_bl, e_int, e_str, e_ty, e_glob, e_op, e_neg, e_cmp, e_chn, e_bop, e_not, e_ife, e_tup, e_lst, e_ix, e_sl, e_cl, e_ck, e_bt, e_mt, eb_one, eb_cons, es_nil, es_cons, eo_none, eo_some, ec_none, ec_some, et_name, et_tup, et_tupl, et_sub, ets_nil, ets_cons, ei_seq, ei_rng1, ei_rng2, ei_zip, s_asg_, s_par_, s_ex_, s_ret_, s_retN_, s_ite_, ss_nil_, fin_rt, fin_nx, wipeD, lim, isK, testT, isNon, isAny, o_add, o_sub, o_mul, o_fdiv, o_mod, o_pow, o_addt, o_addl, o_mult, k_eq, k_ne, k_lt, k_le, k_gt, k_ge, k_isb, k_isn, k_isnn, k_eqb, k_eql, k_nel, k_in, k_nin, g_tup_, g_lst_, g_frz_, g_cel_, sl_tup_, sl_lst_, sl_frz_, sq_tup, sq_lst, zp_tup, n_lent, n_lenl, n_lenf, n_abs, n_int, n_intb, n_max, n_min, n_sum, n_tupl, n_tupt, n_tupc, n_all, n_any, n_gcd, n_isi, n_isit, y_int, y_bl, y_tup, y_lst, y_non, q_app, h2]
theorem r_push_between (a b : List Rat) {k : Nat} (ha : Ok a k) (hb : Ok b k) (hl : a.length = 2 ∨ a.length = 3) (hab : a.length = b.length) (h0 : 0 < k) (hk : k ≤ 2000) (h : Hs) (m : Nat) (hm : 7 ≤ m) :
    evF FT gl m f_push_between [pt a, pt b] h = some (pt (pushQ a b), h) ∧ Ok (pushQ a b) (2 * k + 1) := by
  obtain ⟨n, rfl, hn⟩ := lv hm
  have h1 := r_push_from a b ha hb (by omega) hab h0 hk h n (by omega)
  have h2 := r_check2 a b ha hb hl hab h n hn
  refine ⟨?_, h1.2⟩
  rw [run_f (F := ⟨2, 2, b_push_between, false⟩) rfl rfl rfl, b_push_between, ss_nx (σ' := [some (pt a), some (pt b)]) (h' := h), ss_rt (h' := h)]
  · exact fin_rt
  · simp [e_var, e_non, e_bl, e_int, e_str, e_ty, e_glob, e_op, e_neg, e_cmp, e_chn, e_bop, e_not, e_ife, e_tup, e_lst, e_ix, e_sl, e_cl, e_ck, e_bt, e_mt, eb_one, eb_cons, es_nil, es_cons, eo_none, eo_some, ec_none, ec_some, et_name, et_tup, et_tupl, et_sub, ets_nil, ets_cons, ei_seq, ei_rng1, ei_rng2, ei_zip, s_asg_, s_par_, s_ex_, s_ret_, s_retN_, s_ite_, ss_nil_, fin_rt, fin_nx, wipeD, lim, isK, testT, isNon, isAny, o_add, o_sub, o_mul, o_fdiv, o_mod, o_pow, o_addt, o_addl, o_mult, k_eq, k_ne, k_lt, k_le, k_gt, k_ge, k_isb, k_isn, k_isnn, k_eqb, k_eql, k_nel, k_in, k_nin, g_tup_, g_lst_, g_frz_, g_cel_, sl_tup_, sl_lst_, sl_frz_, sq_tup, sq_lst, zp_tup, n_lent, n_lenl, n_lenf, n_abs, n_int, n_intb, n_max, n_min, n_sum, n_tupl, n_tupt, n_tupc, n_all, n_any, n_gcd, n_isi, n_isit, y_int, y_bl, y_tup, y_lst, y_non, q_app, h1.1]
  · simp [e_var, e_non, e_bl, e_int, e_str, e_ty, e_glob, e_op, e_neg, e_cmp, e_chn, e_bop, e_not, e_ife, e_tup, e_lst, e_ix, e_sl, e_cl, e_ck, e_bt, e_mt, eb_one, eb_cons, es_nil, es_cons, eo_none, eo_some, ec_none, ec_some, et_name, et_tup, et_tupl, et_sub, ets_nil, ets_cons, ei_seq, ei_rng1, ei_rng2, ei_zip, s_asg_, s_par_, s_ex_, s_ret_, s_retN_, s_ite_, ss_nil_, fin_rt, fin_nx, wipeD, lim, isK, testT, isNon, isAny, o_add, o_sub, o_mul, o_fdiv, o_mod, o_pow, o_addt, o_addl, o_mult, k_eq, k_ne, k_lt, k_le, k_gt, k_ge, k_isb, k_isn, k_isnn, k_eqb, k_eql, k_nel, k_in, k_nin, g_tup_, g_lst_, g_frz_, g_cel_, sl_tup_, sl_lst_, sl_frz_, sq_tup, sq_lst, zp_tup, n_lent, n_lenl, n_lenf, n_abs, n_int, n_intb, n_max, n_min, n_sum, n_tupl, n_tupt, n_tupc, n_all, n_any, n_gcd, n_isi, n_isit, y_int, y_bl, y_tup, y_lst, y_non, q_app, h2]
theorem r_stretched (a : List Rat) (q : Rat) {k : Nat} (ha : Ok a k) (hq : Fq q k) (hl : a.length ≤ 10) (h0 : 0 < k) (hk : k ≤ 2000) (h : Hs) (m : Nat) (hm : 3 ≤ m) :
    evF FT gl m f_stretched [pt a, fr q] h = some (pt (strQ q a), h) ∧ Ok (strQ q a) (2 * k + 1) := by
  obtain ⟨n, rfl, hn⟩ := lv hm
  obtain ⟨ns, w, ea, hw, _, rfl, sa, sw⟩ := ha
  rw [ov_len] at hl
  have hd := den_pos q
  obtain ⟨qt, qd⟩ := hq
  have o3 := Sz.ok sw qd h0 h0 (by omega)
  have s3 := sw.mul qd
  have hpos : 0 < w * (q.den : Int) := Int.mul_pos hw hd
  have e : strQ q (ov w ns) = ov (w * (q.den : Int)) (ns.map fun x => x * q.num) := by
    unfold strQ
    rw [ov_map]
    intro x
    have h1 := rat0 hw
    have h3 := den0 q
    have h4 := num_over q
    simp only [Rat.intCast_add, Rat.intCast_mul, Rat.intCast_sub]
    generalize (q.num : Rat) = T at *
    generalize ((q.den : Int) : Rat) = B at *
    subst h4
    grind
  have hf := r_point_from (ns.map fun x => x * q.num) (w * (q.den : Int)) (k := 2 * k + 1) (by simp; omega) hpos (by
    intro z hz
    obtain ⟨x, hx, rfl⟩ := List.mem_map.mp hz
    exact ((sa x hx).mul qt).mono (by omega)) (s3.mono (by omega)) (by omega) (by omega) h n (by omega)
  rw [← e] at hf
  refine ⟨?_, hf.2⟩
  have hc := cp_ints (cl := evF FT gl n) (gl := gl) (σ := [some (P ns w), some (fr q), none]) (h := h) (i := 2) (ce := (.op .mul (.var 2) (.ix (.var 1) (.int 0)))) (it := (.seq (.sl (.var 0) .none (.some (.neg (.int 1)))))) (ns := ns) (fun x => .int (x * q.num)) (by simp [e_var, e_non, e_bl, e_int, e_str, e_ty, e_glob, e_op, e_neg, e_cmp, e_chn, e_bop, e_not, e_ife, e_tup, e_lst, e_ix, e_sl, e_cl, e_ck, e_bt, e_mt, eb_one, eb_cons, es_nil, es_cons, eo_none, eo_some, ec_none, ec_some, et_name, et_tup, et_tupl, et_sub, ets_nil, ets_cons, ei_seq, ei_rng1, ei_rng2, ei_zip, s_asg_, s_par_, s_ex_, s_ret_, s_retN_, s_ite_, ss_nil_, fin_rt, fin_nx, wipeD, lim, isK, testT, isNon, isAny, o_add, o_sub, o_mul, o_fdiv, o_mod, o_pow, o_addt, o_addl, o_mult, k_eq, k_ne, k_lt, k_le, k_gt, k_ge, k_isb, k_isn, k_isnn, k_eqb, k_eql, k_nel, k_in, k_nin, g_tup_, g_lst_, g_frz_, g_cel_, sl_tup_, sl_lst_, sl_frz_, sq_tup, sq_lst, zp_tup, n_lent, n_lenl, n_lenf, n_abs, n_int, n_intb, n_max, n_min, n_sum, n_tupl, n_tupt, n_tupc, n_all, n_any, n_gcd, n_isi, n_isit, y_int, y_bl, y_tup, y_lst, y_non, q_app, P_cut]) (by simp [lim]; omega) (by
      intro x hx
      have m1 := Sz.ok (sa x hx) qt (by omega) h0 (by omega)
      simp [e_var, e_non, e_bl, e_int, e_str, e_ty, e_glob, e_op, e_neg, e_cmp, e_chn, e_bop, e_not, e_ife, e_tup, e_lst, e_ix, e_sl, e_cl, e_ck, e_bt, e_mt, eb_one, eb_cons, es_nil, es_cons, eo_none, eo_some, ec_none, ec_some, et_name, et_tup, et_tupl, et_sub, ets_nil, ets_cons, ei_seq, ei_rng1, ei_rng2, ei_zip, s_asg_, s_par_, s_ex_, s_ret_, s_retN_, s_ite_, ss_nil_, fin_rt, fin_nx, wipeD, lim, isK, testT, isNon, isAny, o_add, o_sub, o_mul, o_fdiv, o_mod, o_pow, o_addt, o_addl, o_mult, k_eq, k_ne, k_lt, k_le, k_gt, k_ge, k_isb, k_isn, k_isnn, k_eqb, k_eql, k_nel, k_in, k_nin, g_tup_, g_lst_, g_frz_, g_cel_, sl_tup_, sl_lst_, sl_frz_, sq_tup, sq_lst, zp_tup, n_lent, n_lenl, n_lenf, n_abs, n_int, n_intb, n_max, n_min, n_sum, n_tupl, n_tupt, n_tupc, n_all, n_any, n_gcd, n_isi, n_isit, y_int, y_bl, y_tup, y_lst, y_non, q_app, m1, fr, at_0])
  rw [ea, run_g (F := ⟨2, 3, b_stretched, false⟩) [some (P ns w), some (fr q), none] rfl rfl rfl rfl, b_stretched,
    ss_rt (h' := h)]
  · exact fin_rt
  · have hf1 := hf.1
    rw [List.map_map] at hf1
    have e2 : (fun x => D.int (x * q.num)) = (D.int ∘ fun x => x * q.num) := rfl
    rw [e2] at hc
    have : ns.length + 1 ≤ 100000 := by omega
    simp only [s_ret_, e_cl, e_op, e_bt, es_cons, es_nil, hc]
    simp [e_var, e_non, e_bl, e_int, e_str, e_ty, e_glob, e_op, e_neg, e_cmp, e_chn, e_bop, e_not, e_ife, e_tup, e_lst, e_ix, e_sl, e_cl, e_ck, e_bt, e_mt, eb_one, eb_cons, es_nil, es_cons, eo_none, eo_some, ec_none, ec_some, et_name, et_tup, et_tupl, et_sub, ets_nil, ets_cons, ei_seq, ei_rng1, ei_rng2, ei_zip, s_asg_, s_par_, s_ex_, s_ret_, s_retN_, s_ite_, ss_nil_, fin_rt, fin_nx, wipeD, lim, isK, testT, isNon, isAny, o_add, o_sub, o_mul, o_fdiv, o_mod, o_pow, o_addt, o_addl, o_mult, k_eq, k_ne, k_lt, k_le, k_gt, k_ge, k_isb, k_isn, k_isnn, k_eqb, k_eql, k_nel, k_in, k_nin, g_tup_, g_lst_, g_frz_, g_cel_, sl_tup_, sl_lst_, sl_frz_, sq_tup, sq_lst, zp_tup, n_lent, n_lenl, n_lenf, n_abs, n_int, n_intb, n_max, n_min, n_sum, n_tupl, n_tupt, n_tupc, n_all, n_any, n_gcd, n_isi, n_isit, y_int, y_bl, y_tup, y_lst, y_non, q_app, P_get, fr, at_1, o3, this]
    rw [hf1]
theorem r_check_fraction (q : Rat) (h : Hs) (m : Nat) (hm : 4 ≤ m) : evF FT gl m f_check_fraction [fr q] h = some (.non, h) := by
  obtain ⟨n, rfl, hn⟩ := lv hm
  have h2 := r_is_fraction q h n hn
  rw [run_f (F := ⟨1, 1, b_check_fraction, false⟩) rfl rfl rfl, b_check_fraction, ss_nx (σ' := [some (fr q)]) (h' := h), ss_nil_]
  · rfl
  · simp [e_var, e_non, e_bl, e_int, e_str, e_ty, e_glob, e_op, e_neg, e_cmp, e_chn, e_bop, e_not, e_ife, e_tup, e_lst, e_ix, e_sl, e_cl, e_ck, e_bt, e_mt, eb_one, eb_cons, es_nil, es_cons, eo_none, eo_some, ec_none, ec_some, et_name, et_tup, et_tupl, et_sub, ets_nil, ets_cons, ei_seq, ei_rng1, ei_rng2, ei_zip, s_asg_, s_par_, s_ex_, s_ret_, s_retN_, s_ite_, ss_nil_, fin_rt, fin_nx, wipeD, lim, isK, testT, isNon, isAny, o_add, o_sub, o_mul, o_fdiv, o_mod, o_pow, o_addt, o_addl, o_mult, k_eq, k_ne, k_lt, k_le, k_gt, k_ge, k_isb, k_isn, k_isnn, k_eqb, k_eql, k_nel, k_in, k_nin, g_tup_, g_lst_, g_frz_, g_cel_, sl_tup_, sl_lst_, sl_frz_, sq_tup, sq_lst, zp_tup, n_lent, n_lenl, n_lenf, n_abs, n_int, n_intb, n_max, n_min, n_sum, n_tupl, n_tupt, n_tupc, n_all, n_any, n_gcd, n_isi, n_isit, y_int, y_bl, y_tup, y_lst, y_non, q_app, h2]
theorem r_scaled (a : List Rat) (q : Rat) {k : Nat} (ha : Ok a k) (hq : Fq q k) (hl : a.length = 2 ∨ a.length = 3) (h0 : 0 < k) (hk : k ≤ 2000) (h : Hs) (m : Nat) (hm : 6 ≤ m) :
    evF FT gl m f_scaled [pt a, fr q] h = some (pt (strQ q a), h) ∧ Ok (strQ q a) (2 * k + 1) := by
  obtain ⟨n, rfl, hn⟩ := lv hm
  have h1 := r_stretched a q ha hq (by omega) h0 hk h n (by omega)
  have h2 := r_check1 a ha hl h n hn
  have h3 := r_check_fraction q h n (by omega)
  refine ⟨?_, h1.2⟩
  rw [run_f (F := ⟨2, 2, b_scaled, false⟩) rfl rfl rfl, b_scaled, ss_nx (σ' := [some (pt a), some (fr q)]) (h' := h), ss_nx (σ' := [some (pt a), some (fr q)]) (h' := h), ss_rt (h' := h)]
  · exact fin_rt
  · simp [e_var, e_non, e_bl, e_int, e_str, e_ty, e_glob, e_op, e_neg, e_cmp, e_chn, e_bop, e_not, e_ife, e_tup, e_lst, e_ix, e_sl, e_cl, e_ck, e_bt, e_mt, eb_one, eb_cons, es_nil, es_cons, eo_none, eo_some, ec_none, ec_some, et_name, et_tup, et_tupl, et_sub, ets_nil, ets_cons, ei_seq, ei_rng1, ei_rng2, ei_zip, s_asg_, s_par_, s_ex_, s_ret_, s_retN_, s_ite_, ss_nil_, fin_rt, fin_nx, wipeD, lim, isK, testT, isNon, isAny, o_add, o_sub, o_mul, o_fdiv, o_mod, o_pow, o_addt, o_addl, o_mult, k_eq, k_ne, k_lt, k_le, k_gt, k_ge, k_isb, k_isn, k_isnn, k_eqb, k_eql, k_nel, k_in, k_nin, g_tup_, g_lst_, g_frz_, g_cel_, sl_tup_, sl_lst_, sl_frz_, sq_tup, sq_lst, zp_tup, n_lent, n_lenl, n_lenf, n_abs, n_int, n_intb, n_max, n_min, n_sum, n_tupl, n_tupt, n_tupc, n_all, n_any, n_gcd, n_isi, n_isit, y_int, y_bl, y_tup, y_lst, y_non, q_app, h1.1]
  · simp [e_var, e_non, e_bl, e_int, e_str, e_ty, e_glob, e_op, e_neg, e_cmp, e_chn, e_bop, e_not, e_ife, e_tup, e_lst, e_ix, e_sl, e_cl, e_ck, e_bt, e_mt, eb_one, eb_cons, es_nil, es_cons, eo_none, eo_some, ec_none, ec_some, et_name, et_tup, et_tupl, et_sub, ets_nil, ets_cons, ei_seq, ei_rng1, ei_rng2, ei_zip, s_asg_, s_par_, s_ex_, s_ret_, s_retN_, s_ite_, ss_nil_, fin_rt, fin_nx, wipeD, lim, isK, testT, isNon, isAny, o_add, o_sub, o_mul, o_fdiv, o_mod, o_pow, o_addt, o_addl, o_mult, k_eq, k_ne, k_lt, k_le, k_gt, k_ge, k_isb, k_isn, k_isnn, k_eqb, k_eql, k_nel, k_in, k_nin, g_tup_, g_lst_, g_frz_, g_cel_, sl_tup_, sl_lst_, sl_frz_, sq_tup, sq_lst, zp_tup, n_lent, n_lenl, n_lenf, n_abs, n_int, n_intb, n_max, n_min, n_sum, n_tupl, n_tupt, n_tupc, n_all, n_any, n_gcd, n_isi, n_isit, y_int, y_bl, y_tup, y_lst, y_non, q_app, h3]
  · simp [e_var, e_non, e_bl, e_int, e_str, e_ty, e_glob, e_op, e_neg, e_cmp, e_chn, e_bop, e_not, e_ife, e_tup, e_lst, e_ix, e_sl, e_cl, e_ck, e_bt, e_mt, eb_one, eb_cons, es_nil, es_cons, eo_none, eo_some, ec_none, ec_some, et_name, et_tup, et_tupl, et_sub, ets_nil, ets_cons, ei_seq, ei_rng1, ei_rng2, ei_zip, s_asg_, s_par_, s_ex_, s_ret_, s_retN_, s_ite_, ss_nil_, fin_rt, fin_nx, wipeD, lim, isK, testT, isNon, isAny, o_add, o_sub, o_mul, o_fdiv, o_mod, o_pow, o_addt, o_addl, o_mult, k_eq, k_ne, k_lt, k_le, k_gt, k_ge, k_isb, k_isn, k_isnn, k_eqb, k_eql, k_nel, k_in, k_nin, g_tup_, g_lst_, g_frz_, g_cel_, sl_tup_, sl_lst_, sl_frz_, sq_tup, sq_lst, zp_tup, n_lent, n_lenl, n_lenf, n_abs, n_int, n_intb, n_max, n_min, n_sum, n_tupl, n_tupt, n_tupc, n_all, n_any, n_gcd, n_isi, n_isit, y_int, y_bl, y_tup, y_lst, y_non, q_app, h2]
theorem r_places_in (a : List Rat) {k : Nat} (ha : Ok a k) (hl : a.length ≤ 10) (h0 : 0 < k) (hk : k ≤ 2000) (h : Hs) (m : Nat) (hm : 2 ≤ m) :
    evF FT gl m f_places_in [pt a] h = some (.tup (a.map fr), h) := by
  obtain ⟨n, rfl, hn⟩ := lv hm
  obtain ⟨ns, w, ea, hw, _, rfl, sa, sw⟩ := ha
  rw [ov_len] at hl
  have hc := cp_ints (cl := evF FT gl n) (gl := gl) (σ := [some (P ns w), none]) (h := h) (i := 1) (ce := (.cl f_lowest (.cons (.var 1) (.cons (.ix (.var 0) (.neg (.int 1))) .nil)))) (it := (.seq (.sl (.var 0) .none (.some (.neg (.int 1)))))) (ns := ns) (fun x => fr ((x : Rat) / w)) (by simp [e_var, e_non, e_bl, e_int, e_str, e_ty, e_glob, e_op, e_neg, e_cmp, e_chn, e_bop, e_not, e_ife, e_tup, e_lst, e_ix, e_sl, e_cl, e_ck, e_bt, e_mt, eb_one, eb_cons, es_nil, es_cons, eo_none, eo_some, ec_none, ec_some, et_name, et_tup, et_tupl, et_sub, ets_nil, ets_cons, ei_seq, ei_rng1, ei_rng2, ei_zip, s_asg_, s_par_, s_ex_, s_ret_, s_retN_, s_ite_, ss_nil_, fin_rt, fin_nx, wipeD, lim, isK, testT, isNon, isAny, o_add, o_sub, o_mul, o_fdiv, o_mod, o_pow, o_addt, o_addl, o_mult, k_eq, k_ne, k_lt, k_le, k_gt, k_ge, k_isb, k_isn, k_isnn, k_eqb, k_eql, k_nel, k_in, k_nin, g_tup_, g_lst_, g_frz_, g_cel_, sl_tup_, sl_lst_, sl_frz_, sq_tup, sq_lst, zp_tup, n_lent, n_lenl, n_lenf, n_abs, n_int, n_intb, n_max, n_min, n_sum, n_tupl, n_tupt, n_tupc, n_all, n_any, n_gcd, n_isi, n_isit, y_int, y_bl, y_tup, y_lst, y_non, q_app, P_cut]) (by simp [lim]; omega) (by
      intro x hx
      have h1 := r_lowest x w hw sw h0 (by omega) h n (by omega)
      simp [e_var, e_non, e_bl, e_int, e_str, e_ty, e_glob, e_op, e_neg, e_cmp, e_chn, e_bop, e_not, e_ife, e_tup, e_lst, e_ix, e_sl, e_cl, e_ck, e_bt, e_mt, eb_one, eb_cons, es_nil, es_cons, eo_none, eo_some, ec_none, ec_some, et_name, et_tup, et_tupl, et_sub, ets_nil, ets_cons, ei_seq, ei_rng1, ei_rng2, ei_zip, s_asg_, s_par_, s_ex_, s_ret_, s_retN_, s_ite_, ss_nil_, fin_rt, fin_nx, wipeD, lim, isK, testT, isNon, isAny, o_add, o_sub, o_mul, o_fdiv, o_mod, o_pow, o_addt, o_addl, o_mult, k_eq, k_ne, k_lt, k_le, k_gt, k_ge, k_isb, k_isn, k_isnn, k_eqb, k_eql, k_nel, k_in, k_nin, g_tup_, g_lst_, g_frz_, g_cel_, sl_tup_, sl_lst_, sl_frz_, sq_tup, sq_lst, zp_tup, n_lent, n_lenl, n_lenf, n_abs, n_int, n_intb, n_max, n_min, n_sum, n_tupl, n_tupt, n_tupc, n_all, n_any, n_gcd, n_isi, n_isit, y_int, y_bl, y_tup, y_lst, y_non, q_app, P_get, h1])
  rw [ea, run_g (F := ⟨1, 2, b_places_in, false⟩) [some (P ns w), none] rfl rfl rfl rfl, b_places_in, ss_rt (h' := h)]
  · exact fin_rt
  · simp only [s_ret_, e_bt, es_cons, es_nil, hc, Option.bind_some, Option.map_some, n_tupl, ov, List.map_map]
    rfl
theorem r_places_of (a : List Rat) {k : Nat} (ha : Ok a k) (hl : a.length = 2 ∨ a.length = 3) (h0 : 0 < k) (hk : k ≤ 2000) (h : Hs) (m : Nat) (hm : 6 ≤ m) :
    evF FT gl m f_places_of [pt a] h = some (.tup (a.map fr), h) := by
  obtain ⟨n, rfl, hn⟩ := lv hm
  have h1 := r_places_in a ha (by omega) h0 hk h n (by omega)
  have h2 := r_check1 a ha hl h n hn
  rw [run_f (F := ⟨1, 1, b_places_of, false⟩) rfl rfl rfl, b_places_of, ss_nx (σ' := [some (pt a)]) (h' := h), ss_rt (h' := h)]
  · exact fin_rt
  · simp [e_var, e_non, e_bl, e_int, e_str, e_ty, e_glob, e_op, e_neg, e_cmp, e_chn, e_bop, e_not, e_ife, e_tup, e_lst, e_ix, e_sl, e_cl, e_ck, e_bt, e_mt, eb_one, eb_cons, es_nil, es_cons, eo_none, eo_some, ec_none, ec_some, et_name, et_tup, et_tupl, et_sub, ets_nil, ets_cons, ei_seq, ei_rng1, ei_rng2, ei_zip, s_asg_, s_par_, s_ex_, s_ret_, s_retN_, s_ite_, ss_nil_, fin_rt, fin_nx, wipeD, lim, isK, testT, isNon, isAny, o_add, o_sub, o_mul, o_fdiv, o_mod, o_pow, o_addt, o_addl, o_mult, k_eq, k_ne, k_lt, k_le, k_gt, k_ge, k_isb, k_isn, k_isnn, k_eqb, k_eql, k_nel, k_in, k_nin, g_tup_, g_lst_, g_frz_, g_cel_, sl_tup_, sl_lst_, sl_frz_, sq_tup, sq_lst, zp_tup, n_lent, n_lenl, n_lenf, n_abs, n_int, n_intb, n_max, n_min, n_sum, n_tupl, n_tupt, n_tupc, n_all, n_any, n_gcd, n_isi, n_isit, y_int, y_bl, y_tup, y_lst, y_non, q_app, h1]
  · simp [e_var, e_non, e_bl, e_int, e_str, e_ty, e_glob, e_op, e_neg, e_cmp, e_chn, e_bop, e_not, e_ife, e_tup, e_lst, e_ix, e_sl, e_cl, e_ck, e_bt, e_mt, eb_one, eb_cons, es_nil, es_cons, eo_none, eo_some, ec_none, ec_some, et_name, et_tup, et_tupl, et_sub, ets_nil, ets_cons, ei_seq, ei_rng1, ei_rng2, ei_zip, s_asg_, s_par_, s_ex_, s_ret_, s_retN_, s_ite_, ss_nil_, fin_rt, fin_nx, wipeD, lim, isK, testT, isNon, isAny, o_add, o_sub, o_mul, o_fdiv, o_mod, o_pow, o_addt, o_addl, o_mult, k_eq, k_ne, k_lt, k_le, k_gt, k_ge, k_isb, k_isn, k_isnn, k_eqb, k_eql, k_nel, k_in, k_nin, g_tup_, g_lst_, g_frz_, g_cel_, sl_tup_, sl_lst_, sl_frz_, sq_tup, sq_lst, zp_tup, n_lent, n_lenl, n_lenf, n_abs, n_int, n_intb, n_max, n_min, n_sum, n_tupl, n_tupt, n_tupc, n_all, n_any, n_gcd, n_isi, n_isit, y_int, y_bl, y_tup, y_lst, y_non, q_app, h2]
end K03

set_option Elab.async false
set_option linter.all false
set_option maxRecDepth 100000
set_option maxHeartbeats 1000000
/-! k03: places to points, and sides. -/
namespace K03
open PySem L2 Py
/-- what the loops over places keep -/
theorem frs_get (qs : List Rat) : qs.map fr = qs.map fun q => D.tup [.int q.num, .int q.den] := rfl
/-- over one base: tops times what is left -/
theorem ov_base {b : Int} (hb : 0 < b) : ∀ (qs : List Rat), (∀ q ∈ qs, (q.den : Int) ∣ b) → ov b (qs.map fun q => q.num * (b / q.den)) = qs
  | [], _ => rfl
  | q :: qs, h => by
    have ih := ov_base hb qs fun x hx => h x (List.mem_cons_of_mem _ hx)
    unfold ov at *
    rw [List.map_cons, List.map_cons, ih]
    congr 1
    obtain ⟨c, hc⟩ := h q List.mem_cons_self
    have h3 := den0 q
    have h4 := num_over q
    have hd := den_pos q
    have e : b / (q.den : Int) = c := by rw [hc]; exact Int.mul_ediv_cancel_left _ (by omega)
    rw [e]
    have hb' := rat0 hb
    rw [hc, Rat.intCast_mul] at hb' ⊢
    rw [Rat.intCast_mul]
    generalize (q.num : Rat) = T at *
    generalize ((q.den : Int) : Rat) = B at *
    subst h4
    grind
def lcmF (b : Int) (qs : List Rat) : Int := qs.foldl (fun b q => b * q.den / (Nat.gcd b.natAbs (q.den : Int).natAbs : Nat)) b
theorem lcm_step {b d : Int} (hb : 0 < b) (hd : 0 < d) : 0 < b * d / (Nat.gcd b.natAbs d.natAbs : Nat) ∧ b ∣ b * d / (Nat.gcd b.natAbs d.natAbs : Nat) ∧ d ∣ b * d / (Nat.gcd b.natAbs d.natAbs : Nat) := by
  have hg : (Nat.gcd b.natAbs d.natAbs : Int) ∣ b := Int.ofNat_dvd_left.mpr (Nat.gcd_dvd_left _ _)
  have hg' : (Nat.gcd b.natAbs d.natAbs : Int) ∣ d := Int.ofNat_dvd_left.mpr (Nat.gcd_dvd_right _ _)
  have hp : (0 : Int) < (Nat.gcd b.natAbs d.natAbs : Int) := by
    have : 0 < Nat.gcd b.natAbs d.natAbs := Nat.gcd_pos_of_pos_right _ (by omega)
    omega
  generalize (Nat.gcd b.natAbs d.natAbs : Int) = g at *
  obtain ⟨x, hx⟩ := hg
  obtain ⟨y, hy⟩ := hg'
  have e1 : b * d / g = b * y := by rw [hy, show b * (g * y) = g * (b * y) by rw [Int.mul_left_comm], Int.mul_ediv_cancel_left _ (by omega)]
  have e2 : b * y = d * x := by rw [hx, hy]; rw [Int.mul_assoc, Int.mul_assoc, Int.mul_comm x y]
  have hy0 : 0 < y := by
    rcases Int.lt_or_le 0 y with q | q
    · exact q
    · have : g * y ≤ 0 := Int.mul_nonpos_of_nonneg_of_nonpos (by omega) q
      omega
  rw [e1]
  exact ⟨Int.mul_pos hb hy0, ⟨y, rfl⟩, ⟨x, e2⟩⟩
theorem l_from (cl : Nat → List D → Hs → Option (D × Hs)) (all : List D) (h : Hs) (s0 : D) {k : Nat} (h0 : 0 < k) (hk : k ≤ 2000) : ∀ (qs : List Rat) (b : Int) (j : Nat) (v1 v2 : Option D), 0 < b → Sz b j → 0 < j → j + k * qs.length ≤ 9000 → (∀ q ∈ qs, Fq q k) →
    ∃ b' v1' v2', loopF (fun d σ h => evTg cl gl (.tup (.cons (.name 2) (.cons (.name 3) .nil))) d σ h) (fun σ h => evSs cl gl (.cons (.asg (.name 1) (.op .fdiv (.op .mul (.var 1) (.var 3)) (.bt .gcd (.cons (.var 1) (.cons (.var 3) .nil))))) .nil) σ h) none all (qs.map fr) [some s0, some (.int b), v1, v2] h =
    some (.nx [some s0, some (.int b'), v1', v2'] h) ∧ 0 < b' ∧ Sz b' (j + k * qs.length) ∧ b ∣ b' ∧ ∀ q ∈ qs, (q.den : Int) ∣ b'
  | [], b, j, v1, v2, hb, hs, hj, hjk, hq => ⟨b, v1, v2, lf_nil, hb, by simpa using hs, Int.dvd_refl b, fun q hq => by cases hq⟩
  | q :: qs, b, j, v1, v2, hb, hs, hj, hjk, hq => by
    have hd := den_pos q
    obtain ⟨c1, c2, c3⟩ := lcm_step hb hd
    have hk' : j + k + k * qs.length = j + k * (q :: qs).length := by simp [Nat.mul_add]; omega
    have hqq := hq q List.mem_cons_self
    have hg := gcd_okE (a := b) hd hqq.2 (by omega) h0
    have sm := hs.mul hqq.2
    have om := Sz.ok hs hqq.2 hj h0 (by have := Nat.le_trans (Nat.le_add_right _ (k * qs.length)) (Nat.le_of_eq hk'); omega)
    obtain ⟨b', v1', v2', ih, i1, i2, i3, i4⟩ := l_from cl all h s0 h0 hk qs (b * q.den / (Nat.gcd b.natAbs (q.den : Int).natAbs : Nat)) (j + k) (some (.int q.num)) (some (.int q.den)) c1 (sm.ediv hg.1) (by omega) (by omega) fun x hx => hq x (List.mem_cons_of_mem _ hx)
    refine ⟨b', v1', v2', ?_, i1, by rw [← hk']; exact i2, Int.dvd_trans c2 i3, ?_⟩
    · rw [List.map_cons, lf_cons (σ1 := [some s0, some (.int b), some (.int q.num), some (.int q.den)]) (h1 := h) (by simp [e_var, e_non, e_bl, e_int, e_str, e_ty, e_glob, e_op, e_neg, e_cmp, e_chn, e_bop, e_not, e_ife, e_tup, e_lst, e_ix, e_sl, e_cl, e_ck, e_bt, e_mt, eb_one, eb_cons, es_nil, es_cons, eo_none, eo_some, ec_none, ec_some, et_name, et_tup, et_tupl, et_sub, ets_nil, ets_cons, ei_seq, ei_rng1, ei_rng2, ei_zip, s_asg_, s_par_, s_ex_, s_ret_, s_retN_, s_ite_, ss_nil_, fin_rt, fin_nx, wipeD, lim, isK, testT, isNon, isAny, o_add, o_sub, o_mul, o_fdiv, o_mod, o_pow, o_addt, o_addl, o_mult, k_eq, k_ne, k_lt, k_le, k_gt, k_ge, k_isb, k_isn, k_isnn, k_eqb, k_eql, k_nel, k_in, k_nin, g_tup_, g_lst_, g_frz_, g_cel_, sl_tup_, sl_lst_, sl_frz_, sq_tup, sq_lst, zp_tup, n_lent, n_lenl, n_lenf, n_abs, n_int, n_intb, n_max, n_min, n_sum, n_tupl, n_tupt, n_tupc, n_all, n_any, n_gcd, n_isi, n_isit, y_int, y_bl, y_tup, y_lst, y_non, q_app, fr]) (σ2 := [some s0, some (.int (b * q.den / (Nat.gcd b.natAbs (q.den : Int).natAbs : Nat))), some (.int q.num), some (.int q.den)]) (h2 := h), ih]
      rw [ss_nx (σ' := [some s0, some (.int (b * q.den / (Nat.gcd b.natAbs (q.den : Int).natAbs : Nat))), some (.int q.num), some (.int q.den)]) (h' := h), ss_nil_]
      have e : binop .fdiv (.int (b * q.den)) (.int (Nat.gcd b.natAbs (q.den : Int).natAbs : Nat)) = some (.int (b * q.den / (Nat.gcd b.natAbs (q.den : Int).natAbs : Nat))) := by rw [o_fdiv, if_pos hg]
      simp only [e_var, e_non, e_bl, e_int, e_str, e_ty, e_glob, e_op, e_neg, e_cmp, e_chn, e_bop, e_not, e_ife, e_tup, e_lst, e_ix, e_sl, e_cl, e_ck, e_bt, e_mt, eb_one, eb_cons, es_nil, es_cons, eo_none, eo_some, ec_none, ec_some, et_name, et_tup, et_tupl, et_sub, ets_nil, ets_cons, ei_seq, ei_rng1, ei_rng2, ei_zip, s_asg_, s_par_, s_ex_, s_ret_, s_retN_, s_ite_, ss_nil_, fin_rt, fin_nx, wipeD, lim, isK, testT, isNon, isAny, o_add, o_sub, o_mul, o_fdiv, o_mod, o_pow, o_addt, o_addl, o_mult, k_eq, k_ne, k_lt, k_le, k_gt, k_ge, k_isb, k_isn, k_isnn, k_eqb, k_eql, k_nel, k_in, k_nin, g_tup_, g_lst_, g_frz_, g_cel_, sl_tup_, sl_lst_, sl_frz_, sq_tup, sq_lst, zp_tup, n_lent, n_lenl, n_lenf, n_abs, n_int, n_intb, n_max, n_min, n_sum, n_tupl, n_tupt, n_tupc, n_all, n_any, n_gcd, n_isi, n_isit, y_int, y_bl, y_tup, y_lst, y_non, q_app, List.getElem?_cons_zero, List.getElem?_cons_succ, List.getElem?_nil, List.set_cons_zero, List.set_cons_succ, Option.bind_some, Option.map_some, Option.bind_none, List.length_cons, List.length_nil, Bool.false_eq_true, if_true, if_false, List.nil_append, List.cons_append, om, -o_fdiv, e]
    · intro x hx
      rcases List.mem_cons.mp hx with rfl | hx
      · exact Int.dvd_trans c3 i3
      · exact i4 x hx
theorem r_from_places (qs : List Rat) {k : Nat} (hq : ∀ q ∈ qs, Fq q k) (hl : qs.length ≤ 3) (h0 : 0 < k) (hk : k ≤ 2000) (h : Hs) (m : Nat) (hm : 3 ≤ m) :
    evF FT gl m f_from_places [.tup (qs.map fr)] h = some (pt qs, h) ∧ Ok qs (4 * k + 1) := by
  obtain ⟨n, rfl, hn⟩ := lv hm
  have hkl : 1 + k * qs.length ≤ 3 * k + 1 := by
    have := Nat.mul_le_mul_left k hl
    omega
  obtain ⟨b, v1, v2, hloop, b0, bs, _, bd⟩ := l_from (evF FT gl n) (qs.map fr) h (.tup (qs.map fr)) h0 hk qs 1 1 none none (by decide) (by unfold Sz; decide) (by decide) (by omega) hq
  have bs := bs.mono hkl
  have sx : ∀ q ∈ qs, Sz (b / (q.den : Int)) (3 * k + 1) := fun q hx => bs.ediv (den_pos q)
  have hf := r_point_from (qs.map fun q => q.num * (b / q.den)) b (k := 4 * k + 1) (by simp; omega) b0 (by
    intro z hz
    obtain ⟨q, hx, rfl⟩ := List.mem_map.mp hz
    exact ((hq q hx).1.mul (sx q hx)).mono (by omega)) (bs.mono (by omega)) (by omega) (by omega) h n (by omega)
  rw [ov_base b0 qs bd] at hf
  refine ⟨?_, hf.2⟩
  have hc := cp_of (cl := evF FT gl n) (gl := gl) (σ := [some (.tup (qs.map fr)), some (.int b), v1, v2]) (h := h) (ce := .op .mul (.var 2) (.op .fdiv (.var 1) (.var 3))) (t := (.tup (.cons (.name 2) (.cons (.name 3) .nil)))) (it := (.seq (.var 0))) (own := [2, 3]) (xs := qs) (mk := fr) (f := fun q => .int (q.num * (b / q.den))) (by simp [e_var, e_non, e_bl, e_int, e_str, e_ty, e_glob, e_op, e_neg, e_cmp, e_chn, e_bop, e_not, e_ife, e_tup, e_lst, e_ix, e_sl, e_cl, e_ck, e_bt, e_mt, eb_one, eb_cons, es_nil, es_cons, eo_none, eo_some, ec_none, ec_some, et_name, et_tup, et_tupl, et_sub, ets_nil, ets_cons, ei_seq, ei_rng1, ei_rng2, ei_zip, s_asg_, s_par_, s_ex_, s_ret_, s_retN_, s_ite_, ss_nil_, fin_rt, fin_nx, wipeD, lim, isK, testT, isNon, isAny, o_add, o_sub, o_mul, o_fdiv, o_mod, o_pow, o_addt, o_addl, o_mult, k_eq, k_ne, k_lt, k_le, k_gt, k_ge, k_isb, k_isn, k_isnn, k_eqb, k_eql, k_nel, k_in, k_nin, g_tup_, g_lst_, g_frz_, g_cel_, sl_tup_, sl_lst_, sl_frz_, sq_tup, sq_lst, zp_tup, n_lent, n_lenl, n_lenf, n_abs, n_int, n_intb, n_max, n_min, n_sum, n_tupl, n_tupt, n_tupc, n_all, n_any, n_gcd, n_isi, n_isit, y_int, y_bl, y_tup, y_lst, y_non, q_app]) (by simp [lim]; omega) (by
      intro q hx
      have d1 := (hq q hx).2.div_ok (den_pos q) h0 (by omega)
      have d2 := Sz.ok (hq q hx).1 (sx q hx) h0 (by omega) (by omega)
      refine ⟨[some (.tup (qs.map fr)), some (.int b), some (.int q.num), some (.int q.den)], by simp [e_var, e_non, e_bl, e_int, e_str, e_ty, e_glob, e_op, e_neg, e_cmp, e_chn, e_bop, e_not, e_ife, e_tup, e_lst, e_ix, e_sl, e_cl, e_ck, e_bt, e_mt, eb_one, eb_cons, es_nil, es_cons, eo_none, eo_some, ec_none, ec_some, et_name, et_tup, et_tupl, et_sub, ets_nil, ets_cons, ei_seq, ei_rng1, ei_rng2, ei_zip, s_asg_, s_par_, s_ex_, s_ret_, s_retN_, s_ite_, ss_nil_, fin_rt, fin_nx, wipeD, lim, isK, testT, isNon, isAny, o_add, o_sub, o_mul, o_fdiv, o_mod, o_pow, o_addt, o_addl, o_mult, k_eq, k_ne, k_lt, k_le, k_gt, k_ge, k_isb, k_isn, k_isnn, k_eqb, k_eql, k_nel, k_in, k_nin, g_tup_, g_lst_, g_frz_, g_cel_, sl_tup_, sl_lst_, sl_frz_, sq_tup, sq_lst, zp_tup, n_lent, n_lenl, n_lenf, n_abs, n_int, n_intb, n_max, n_min, n_sum, n_tupl, n_tupt, n_tupc, n_all, n_any, n_gcd, n_isi, n_isit, y_int, y_bl, y_tup, y_lst, y_non, q_app, fr], ?_⟩
      have e : binop .fdiv (.int b) (.int q.den) = some (.int (b / q.den)) := by rw [o_fdiv, if_pos d1]
      simp only [e_var, e_non, e_bl, e_int, e_str, e_ty, e_glob, e_op, e_neg, e_cmp, e_chn, e_bop, e_not, e_ife, e_tup, e_lst, e_ix, e_sl, e_cl, e_ck, e_bt, e_mt, eb_one, eb_cons, es_nil, es_cons, eo_none, eo_some, ec_none, ec_some, et_name, et_tup, et_tupl, et_sub, ets_nil, ets_cons, ei_seq, ei_rng1, ei_rng2, ei_zip, s_asg_, s_par_, s_ex_, s_ret_, s_retN_, s_ite_, ss_nil_, fin_rt, fin_nx, wipeD, lim, isK, testT, isNon, isAny, o_add, o_sub, o_mul, o_fdiv, o_mod, o_pow, o_addt, o_addl, o_mult, k_eq, k_ne, k_lt, k_le, k_gt, k_ge, k_isb, k_isn, k_isnn, k_eqb, k_eql, k_nel, k_in, k_nin, g_tup_, g_lst_, g_frz_, g_cel_, sl_tup_, sl_lst_, sl_frz_, sq_tup, sq_lst, zp_tup, n_lent, n_lenl, n_lenf, n_abs, n_int, n_intb, n_max, n_min, n_sum, n_tupl, n_tupt, n_tupc, n_all, n_any, n_gcd, n_isi, n_isit, y_int, y_bl, y_tup, y_lst, y_non, q_app, List.getElem?_cons_zero, List.getElem?_cons_succ, List.getElem?_nil, List.set_cons_zero, List.set_cons_succ, Option.bind_some, Option.map_some, Option.bind_none, List.length_cons, List.length_nil, Bool.false_eq_true, if_true, if_false, List.nil_append, List.cons_append, -o_fdiv, e, d2])
  rw [run_g (F := ⟨1, 4, b_from_places, false⟩) [some (.tup (qs.map fr)), none, none, none] rfl rfl rfl rfl, b_from_places, ss_nx (σ' := [some (.tup (qs.map fr)), some (.int 1), none, none]) (h' := h), ss_nx (σ' := [some (.tup (qs.map fr)), some (.int b), v1, v2]) (h' := h), ss_rt (h' := h)]
  · exact fin_rt
  · have hf1 := hf.1
    rw [List.map_map] at hf1
    have e2 : (fun q : Rat => D.int (q.num * (b / q.den))) = (D.int ∘ fun q => q.num * (b / q.den)) := rfl
    rw [e2] at hc
    have : qs.length + 1 ≤ 100000 := by omega
    simp only [s_ret_, e_cl, e_op, es_cons, es_nil, hc]
    simp [e_var, e_non, e_bl, e_int, e_str, e_ty, e_glob, e_op, e_neg, e_cmp, e_chn, e_bop, e_not, e_ife, e_tup, e_lst, e_ix, e_sl, e_cl, e_ck, e_bt, e_mt, eb_one, eb_cons, es_nil, es_cons, eo_none, eo_some, ec_none, ec_some, et_name, et_tup, et_tupl, et_sub, ets_nil, ets_cons, ei_seq, ei_rng1, ei_rng2, ei_zip, s_asg_, s_par_, s_ex_, s_ret_, s_retN_, s_ite_, ss_nil_, fin_rt, fin_nx, wipeD, lim, isK, testT, isNon, isAny, o_add, o_sub, o_mul, o_fdiv, o_mod, o_pow, o_addt, o_addl, o_mult, k_eq, k_ne, k_lt, k_le, k_gt, k_ge, k_isb, k_isn, k_isnn, k_eqb, k_eql, k_nel, k_in, k_nin, g_tup_, g_lst_, g_frz_, g_cel_, sl_tup_, sl_lst_, sl_frz_, sq_tup, sq_lst, zp_tup, n_lent, n_lenl, n_lenf, n_abs, n_int, n_intb, n_max, n_min, n_sum, n_tupl, n_tupt, n_tupc, n_all, n_any, n_gcd, n_isi, n_isit, y_int, y_bl, y_tup, y_lst, y_non, q_app, this, hf1]
  · rw [s_for_]
    have : evIt (evF FT gl n) gl (.seq (.var 0)) [some (.tup (qs.map fr)), some (.int 1), none, none] h = some ⟨qs.map fr, none, h⟩ := by simp [e_var, e_non, e_bl, e_int, e_str, e_ty, e_glob, e_op, e_neg, e_cmp, e_chn, e_bop, e_not, e_ife, e_tup, e_lst, e_ix, e_sl, e_cl, e_ck, e_bt, e_mt, eb_one, eb_cons, es_nil, es_cons, eo_none, eo_some, ec_none, ec_some, et_name, et_tup, et_tupl, et_sub, ets_nil, ets_cons, ei_seq, ei_rng1, ei_rng2, ei_zip, s_asg_, s_par_, s_ex_, s_ret_, s_retN_, s_ite_, ss_nil_, fin_rt, fin_nx, wipeD, lim, isK, testT, isNon, isAny, o_add, o_sub, o_mul, o_fdiv, o_mod, o_pow, o_addt, o_addl, o_mult, k_eq, k_ne, k_lt, k_le, k_gt, k_ge, k_isb, k_isn, k_isnn, k_eqb, k_eql, k_nel, k_in, k_nin, g_tup_, g_lst_, g_frz_, g_cel_, sl_tup_, sl_lst_, sl_frz_, sq_tup, sq_lst, zp_tup, n_lent, n_lenl, n_lenf, n_abs, n_int, n_intb, n_max, n_min, n_sum, n_tupl, n_tupt, n_tupc, n_all, n_any, n_gcd, n_isi, n_isit, y_int, y_bl, y_tup, y_lst, y_non, q_app]
    rw [this]
    exact hloop
  · simp [e_var, e_non, e_bl, e_int, e_str, e_ty, e_glob, e_op, e_neg, e_cmp, e_chn, e_bop, e_not, e_ife, e_tup, e_lst, e_ix, e_sl, e_cl, e_ck, e_bt, e_mt, eb_one, eb_cons, es_nil, es_cons, eo_none, eo_some, ec_none, ec_some, et_name, et_tup, et_tupl, et_sub, ets_nil, ets_cons, ei_seq, ei_rng1, ei_rng2, ei_zip, s_asg_, s_par_, s_ex_, s_ret_, s_retN_, s_ite_, ss_nil_, fin_rt, fin_nx, wipeD, lim, isK, testT, isNon, isAny, o_add, o_sub, o_mul, o_fdiv, o_mod, o_pow, o_addt, o_addl, o_mult, k_eq, k_ne, k_lt, k_le, k_gt, k_ge, k_isb, k_isn, k_isnn, k_eqb, k_eql, k_nel, k_in, k_nin, g_tup_, g_lst_, g_frz_, g_cel_, sl_tup_, sl_lst_, sl_frz_, sq_tup, sq_lst, zp_tup, n_lent, n_lenl, n_lenf, n_abs, n_int, n_intb, n_max, n_min, n_sum, n_tupl, n_tupt, n_tupc, n_all, n_any, n_gcd, n_isi, n_isit, y_int, y_bl, y_tup, y_lst, y_non, q_app]
theorem r_point_at (qs : List Rat) {k : Nat} (hq : ∀ q ∈ qs, Fq q k) (hl : qs.length = 2 ∨ qs.length = 3) (h0 : 0 < k) (hk : k ≤ 2000) (h : Hs) (m : Nat) (hm : 4 ≤ m) :
    evF FT gl m f_point_at [.tup (qs.map fr)] h = some (pt qs, h) ∧ Ok qs (4 * k + 1) := by
  obtain ⟨n, rfl, hn⟩ := lv hm
  have h1 := r_from_places qs hq (by omega) h0 hk h n (by omega)
  refine ⟨?_, h1.2⟩
  have hc := cp_of (cl := evF FT gl n) (gl := gl) (σ := [some (.tup (qs.map fr)), none]) (h := h) (ce := .cl f_is_fraction (.cons (.var 1) .nil)) (t := .name 1) (it := .seq (.var 0)) (own := [1]) (xs := qs) (mk := fr) (f := fun q => .bl true) (by simp [e_var, e_non, e_bl, e_int, e_str, e_ty, e_glob, e_op, e_neg, e_cmp, e_chn, e_bop, e_not, e_ife, e_tup, e_lst, e_ix, e_sl, e_cl, e_ck, e_bt, e_mt, eb_one, eb_cons, es_nil, es_cons, eo_none, eo_some, ec_none, ec_some, et_name, et_tup, et_tupl, et_sub, ets_nil, ets_cons, ei_seq, ei_rng1, ei_rng2, ei_zip, s_asg_, s_par_, s_ex_, s_ret_, s_retN_, s_ite_, ss_nil_, fin_rt, fin_nx, wipeD, lim, isK, testT, isNon, isAny, o_add, o_sub, o_mul, o_fdiv, o_mod, o_pow, o_addt, o_addl, o_mult, k_eq, k_ne, k_lt, k_le, k_gt, k_ge, k_isb, k_isn, k_isnn, k_eqb, k_eql, k_nel, k_in, k_nin, g_tup_, g_lst_, g_frz_, g_cel_, sl_tup_, sl_lst_, sl_frz_, sq_tup, sq_lst, zp_tup, n_lent, n_lenl, n_lenf, n_abs, n_int, n_intb, n_max, n_min, n_sum, n_tupl, n_tupt, n_tupc, n_all, n_any, n_gcd, n_isi, n_isit, y_int, y_bl, y_tup, y_lst, y_non, q_app]) (by simp [lim]; omega) (by
      intro q hx
      have h2 := r_is_fraction q h n (by omega)
      exact ⟨_, et_name, by simp [e_var, e_non, e_bl, e_int, e_str, e_ty, e_glob, e_op, e_neg, e_cmp, e_chn, e_bop, e_not, e_ife, e_tup, e_lst, e_ix, e_sl, e_cl, e_ck, e_bt, e_mt, eb_one, eb_cons, es_nil, es_cons, eo_none, eo_some, ec_none, ec_some, et_name, et_tup, et_tupl, et_sub, ets_nil, ets_cons, ei_seq, ei_rng1, ei_rng2, ei_zip, s_asg_, s_par_, s_ex_, s_ret_, s_retN_, s_ite_, ss_nil_, fin_rt, fin_nx, wipeD, lim, isK, testT, isNon, isAny, o_add, o_sub, o_mul, o_fdiv, o_mod, o_pow, o_addt, o_addl, o_mult, k_eq, k_ne, k_lt, k_le, k_gt, k_ge, k_isb, k_isn, k_isnn, k_eqb, k_eql, k_nel, k_in, k_nin, g_tup_, g_lst_, g_frz_, g_cel_, sl_tup_, sl_lst_, sl_frz_, sq_tup, sq_lst, zp_tup, n_lent, n_lenl, n_lenf, n_abs, n_int, n_intb, n_max, n_min, n_sum, n_tupl, n_tupt, n_tupc, n_all, n_any, n_gcd, n_isi, n_isit, y_int, y_bl, y_tup, y_lst, y_non, q_app, h2]⟩)
  have hb : boolsD (qs.map fun _ => .bl true) = some (qs.map fun _ => true) := by rw [← bools_map, List.map_map]; rfl
  rw [run_g (F := ⟨1, 2, b_point_at, false⟩) [some (.tup (qs.map fr)), none] rfl rfl rfl rfl, b_point_at, ss_nx (σ' := [some (.tup (qs.map fr)), none]) (h' := h), ss_rt (h' := h)]
  · exact fin_rt
  · simp [e_var, e_non, e_bl, e_int, e_str, e_ty, e_glob, e_op, e_neg, e_cmp, e_chn, e_bop, e_not, e_ife, e_tup, e_lst, e_ix, e_sl, e_cl, e_ck, e_bt, e_mt, eb_one, eb_cons, es_nil, es_cons, eo_none, eo_some, ec_none, ec_some, et_name, et_tup, et_tupl, et_sub, ets_nil, ets_cons, ei_seq, ei_rng1, ei_rng2, ei_zip, s_asg_, s_par_, s_ex_, s_ret_, s_retN_, s_ite_, ss_nil_, fin_rt, fin_nx, wipeD, lim, isK, testT, isNon, isAny, o_add, o_sub, o_mul, o_fdiv, o_mod, o_pow, o_addt, o_addl, o_mult, k_eq, k_ne, k_lt, k_le, k_gt, k_ge, k_isb, k_isn, k_isnn, k_eqb, k_eql, k_nel, k_in, k_nin, g_tup_, g_lst_, g_frz_, g_cel_, sl_tup_, sl_lst_, sl_frz_, sq_tup, sq_lst, zp_tup, n_lent, n_lenl, n_lenf, n_abs, n_int, n_intb, n_max, n_min, n_sum, n_tupl, n_tupt, n_tupc, n_all, n_any, n_gcd, n_isi, n_isit, y_int, y_bl, y_tup, y_lst, y_non, q_app, h1.1]
  · have hin : intsD [.int 2, .int 3] = some [2, 3] := rfl
    have hl' : ([2, 3] : List Int).any (fun j => decide (j = (qs.length : Int))) = true := by rcases hl with e | e <;> rw [e] <;> rfl
    simp only [s_ite_, eb_cons, eb_one, e_bop, e_not, e_bt, es_cons, es_nil, hc, Option.bind_some, Option.map_some, n_all, hb]
    simp [e_var, e_non, e_bl, e_int, e_str, e_ty, e_glob, e_op, e_neg, e_cmp, e_chn, e_bop, e_not, e_ife, e_tup, e_lst, e_ix, e_sl, e_cl, e_ck, e_bt, e_mt, eb_one, eb_cons, es_nil, es_cons, eo_none, eo_some, ec_none, ec_some, et_name, et_tup, et_tupl, et_sub, ets_nil, ets_cons, ei_seq, ei_rng1, ei_rng2, ei_zip, s_asg_, s_par_, s_ex_, s_ret_, s_retN_, s_ite_, ss_nil_, fin_rt, fin_nx, wipeD, lim, isK, testT, isNon, isAny, o_add, o_sub, o_mul, o_fdiv, o_mod, o_pow, o_addt, o_addl, o_mult, k_eq, k_ne, k_lt, k_le, k_gt, k_ge, k_isb, k_isn, k_isnn, k_eqb, k_eql, k_nel, k_in, k_nin, g_tup_, g_lst_, g_frz_, g_cel_, sl_tup_, sl_lst_, sl_frz_, sq_tup, sq_lst, zp_tup, n_lent, n_lenl, n_lenf, n_abs, n_int, n_intb, n_max, n_min, n_sum, n_tupl, n_tupt, n_tupc, n_all, n_any, n_gcd, n_isi, n_isit, y_int, y_bl, y_tup, y_lst, y_non, q_app, hin]
    rcases hl with e | e <;> (simp [e]; rw [hc]; simp [n_all, hb])
end K03

set_option Elab.async false
set_option linter.all false
set_option maxRecDepth 100000
set_option maxHeartbeats 1000000
/-! k03: sides. -/
namespace K03
open PySem L2 Py
structure Sd (as : List Int) (c : Int) (k : Nat) : Prop where
  len : as.length = 2 ∨ as.length = 3
  gcd : gcdL (as ++ [c]) = 1
  some : (as.any fun x => !decide (x = 0)) = true
  sz : ∀ a ∈ as, Sz a k
  szc : Sz c k
def dotI (as ns : List Int) : Int := (List.zipWith (fun a x => a * x) as ns).sum
def overQ (as : List Int) (c : Int) (cs : List Rat) : Rat := (List.zipWith (fun (a : Int) (x : Rat) => (a : Rat) * x) as cs).sum - c
theorem dot_over {w : Int} (hw : 0 < w) (c : Int) : ∀ (as ns : List Int), ((dotI as ns - c * w : Int) : Rat) / w = overQ as c (ov w ns) := by
  have key : ∀ as ns : List Int, ((dotI as ns : Int) : Rat) / w = (List.zipWith (fun (a : Int) (x : Rat) => (a : Rat) * x) as (ov w ns)).sum := by
    intro as
    induction as with
    | nil => intro ns; simp [dotI, Rat.div_def]
    | cons a as ih =>
      intro ns
      cases ns with
      | nil => simp [dotI, ov, Rat.div_def]
      | cons x ns =>
        have := ih ns
        simp only [dotI, ov, List.zipWith_cons_cons, List.map_cons, List.sum_cons] at this ⊢
        rw [← this, Rat.intCast_add, Rat.intCast_mul]
        have := rat0 hw
        grind
  intro as ns
  unfold overQ
  rw [← key, Rat.intCast_sub, Rat.intCast_mul]
  have := rat0 hw
  grind
theorem sum_sz {k : Nat} : ∀ (xs : List Int), (∀ x ∈ xs, Sz x k) → Sz xs.sum (k + xs.length)
  | [], _ => by unfold Sz; simp; exact Nat.two_pow_pos _
  | x :: xs, h => by
    have ih := sum_sz xs fun y hy => h y (List.mem_cons_of_mem _ hy)
    rw [List.sum_cons]
    exact ((h x List.mem_cons_self).mono (Nat.le_add_right _ _)).add ih
theorem dot_sz {as ns : List Int} {i k : Nat} (ha : ∀ a ∈ as, Sz a i) (hn : ∀ n ∈ ns, Sz n k) (hl : as.length ≤ 3) : Sz (dotI as ns) (i + k + 3) := by
  unfold dotI
  refine (sum_sz (k := i + k) _ ?_).mono (by simp; omega)
  intro z hz
  obtain ⟨a, h1, b, h2, rfl⟩ := mem_zip hz
  exact (ha a h1).mul (hn b h2)
theorem r_excess_of (as ns : List Int) (c w : Int) {i k : Nat} (ha : ∀ a ∈ as, Sz a i) (hn : ∀ n ∈ ns, Sz n k) (hc : Sz c i) (hw : Sz w k) (hl : as.length ≤ 3) (hlm : as.length = ns.length) (i0 : 0 < i) (k0 : 0 < k) (ik : i + k ≤ 8000) (h : Hs) (m : Nat) (hm : 1 ≤ m) :
    evF FT gl m f_excess_of [P as c, P ns w] h = some (.int (dotI as ns - c * w), h) := by
  obtain ⟨n, rfl, hn'⟩ := lv hm
  have hcp := cp_zip (cl := evF FT gl n) (gl := gl) (σ := [some (P as c), some (P ns w), none, none]) (h := h) (i := 2) (j := 3) (ce := (.op .mul (.var 2) (.var 3))) (it := (.zip (.sl (.var 0) .none (.some (.neg (.int 1)))) (.sl (.var 1) .none (.some (.neg (.int 1)))))) (as := as) (bs := ns) (ma := D.int) (mb := D.int) (fun x y => .int (x * y)) (by simp [e_var, e_non, e_bl, e_int, e_str, e_ty, e_glob, e_op, e_neg, e_cmp, e_chn, e_bop, e_not, e_ife, e_tup, e_lst, e_ix, e_sl, e_cl, e_ck, e_bt, e_mt, eb_one, eb_cons, es_nil, es_cons, eo_none, eo_some, ec_none, ec_some, et_name, et_tup, et_tupl, et_sub, ets_nil, ets_cons, ei_seq, ei_rng1, ei_rng2, ei_zip, s_asg_, s_par_, s_ex_, s_ret_, s_retN_, s_ite_, ss_nil_, fin_rt, fin_nx, wipeD, lim, isK, testT, isNon, isAny, o_add, o_sub, o_mul, o_fdiv, o_mod, o_pow, o_addt, o_addl, o_mult, k_eq, k_ne, k_lt, k_le, k_gt, k_ge, k_isb, k_isn, k_isnn, k_eqb, k_eql, k_nel, k_in, k_nin, g_tup_, g_lst_, g_frz_, g_cel_, sl_tup_, sl_lst_, sl_frz_, sq_tup, sq_lst, zp_tup, n_lent, n_lenl, n_lenf, n_abs, n_int, n_intb, n_max, n_min, n_sum, n_tupl, n_tupt, n_tupc, n_all, n_any, n_gcd, n_isi, n_isit, y_int, y_bl, y_tup, y_lst, y_non, q_app, P_cut, hlm]) (by simp [lim]; omega) (by
      intro x hx y hy
      have m1 := Sz.ok (ha x hx) (hn y hy) (by omega) k0 (by omega)
      simp [e_var, e_non, e_bl, e_int, e_str, e_ty, e_glob, e_op, e_neg, e_cmp, e_chn, e_bop, e_not, e_ife, e_tup, e_lst, e_ix, e_sl, e_cl, e_ck, e_bt, e_mt, eb_one, eb_cons, es_nil, es_cons, eo_none, eo_some, ec_none, ec_some, et_name, et_tup, et_tupl, et_sub, ets_nil, ets_cons, ei_seq, ei_rng1, ei_rng2, ei_zip, s_asg_, s_par_, s_ex_, s_ret_, s_retN_, s_ite_, ss_nil_, fin_rt, fin_nx, wipeD, lim, isK, testT, isNon, isAny, o_add, o_sub, o_mul, o_fdiv, o_mod, o_pow, o_addt, o_addl, o_mult, k_eq, k_ne, k_lt, k_le, k_gt, k_ge, k_isb, k_isn, k_isnn, k_eqb, k_eql, k_nel, k_in, k_nin, g_tup_, g_lst_, g_frz_, g_cel_, sl_tup_, sl_lst_, sl_frz_, sq_tup, sq_lst, zp_tup, n_lent, n_lenl, n_lenf, n_abs, n_int, n_intb, n_max, n_min, n_sum, n_tupl, n_tupt, n_tupc, n_all, n_any, n_gcd, n_isi, n_isit, y_int, y_bl, y_tup, y_lst, y_non, q_app, m1])
  have e : intsD (List.zipWith (fun x y => D.int (x * y)) as ns) = some (List.zipWith (fun x y => x * y) as ns) := by
    rw [← ints_map, List.map_zipWith]
  have m2 := Sz.ok hc hw i0 k0 (by omega)
  rw [run_g (F := ⟨2, 4, b_excess_of, false⟩) [some (P as c), some (P ns w), none, none] rfl rfl rfl rfl, b_excess_of, ss_rt (h' := h)]
  · exact fin_rt
  · simp only [s_ret_, e_op, e_bt, es_cons, es_nil, hcp, Option.bind_some, Option.map_some, n_sum, e]
    simp [e_var, e_non, e_bl, e_int, e_str, e_ty, e_glob, e_op, e_neg, e_cmp, e_chn, e_bop, e_not, e_ife, e_tup, e_lst, e_ix, e_sl, e_cl, e_ck, e_bt, e_mt, eb_one, eb_cons, es_nil, es_cons, eo_none, eo_some, ec_none, ec_some, et_name, et_tup, et_tupl, et_sub, ets_nil, ets_cons, ei_seq, ei_rng1, ei_rng2, ei_zip, s_asg_, s_par_, s_ex_, s_ret_, s_retN_, s_ite_, ss_nil_, fin_rt, fin_nx, wipeD, lim, isK, testT, isNon, isAny, o_add, o_sub, o_mul, o_fdiv, o_mod, o_pow, o_addt, o_addl, o_mult, k_eq, k_ne, k_lt, k_le, k_gt, k_ge, k_isb, k_isn, k_isnn, k_eqb, k_eql, k_nel, k_in, k_nin, g_tup_, g_lst_, g_frz_, g_cel_, sl_tup_, sl_lst_, sl_frz_, sq_tup, sq_lst, zp_tup, n_lent, n_lenl, n_lenf, n_abs, n_int, n_intb, n_max, n_min, n_sum, n_tupl, n_tupt, n_tupc, n_all, n_any, n_gcd, n_isi, n_isit, y_int, y_bl, y_tup, y_lst, y_non, q_app, P_get, m2, dotI]
theorem r_checkb (as : List Int) (c : Int) (cs : List Rat) {i k : Nat} (hs : Sd as c i) (hp : Ok cs k) (hl : cs.length = as.length) (h : Hs) (m : Nat) (hm : 6 ≤ m) : evF FT gl m f_check_both [P as c, pt cs] h = some (.non, h) := by
  obtain ⟨ns, w, ea, hw, hg, rfl, sa, sw⟩ := hp
  rw [ov_len] at hl
  rw [ea]
  exact r_check_both as ns c w hs.len hl hs.gcd hs.some hw hg h m hm
theorem r_excess (as : List Int) (c : Int) (cs : List Rat) {i k : Nat} (hs : Sd as c i) (hp : Ok cs k) (hl : cs.length = as.length) (i0 : 0 < i) (k0 : 0 < k) (ik : i + k ≤ 8000) (h : Hs) (m : Nat) (hm : 7 ≤ m) :
    evF FT gl m f_excess [P as c, pt cs] h = some (fr (overQ as c cs), h) ∧ Fq (overQ as c cs) (i + k + 4) := by
  obtain ⟨n, rfl, hn⟩ := lv hm
  have h1 := r_checkb as c cs hs hp hl h n hn
  obtain ⟨ns, w, ea, hw, hg, rfl, sa, sw⟩ := hp
  rw [ov_len] at hl
  have hl3 : as.length ≤ 3 := by rcases hs.len with e | e <;> omega
  have h2 := r_excess_of as ns c w hs.sz sa hs.szc sw hl3 hl.symm i0 k0 ik h n (by omega)
  have h3 := r_lowest (dotI as ns - c * w) w hw sw k0 (by omega) h n (by omega)
  rw [dot_over hw] at h3
  refine ⟨?_, ?_⟩
  · rw [ea] at h1 ⊢
    rw [run_f (F := ⟨2, 2, b_excess, false⟩) rfl rfl rfl, b_excess, ss_nx (σ' := [some (P as c), some (P ns w)]) (h' := h), ss_rt (h' := h)]
    · exact fin_rt
    · simp [e_var, e_non, e_bl, e_int, e_str, e_ty, e_glob, e_op, e_neg, e_cmp, e_chn, e_bop, e_not, e_ife, e_tup, e_lst, e_ix, e_sl, e_cl, e_ck, e_bt, e_mt, eb_one, eb_cons, es_nil, es_cons, eo_none, eo_some, ec_none, ec_some, et_name, et_tup, et_tupl, et_sub, ets_nil, ets_cons, ei_seq, ei_rng1, ei_rng2, ei_zip, s_asg_, s_par_, s_ex_, s_ret_, s_retN_, s_ite_, ss_nil_, fin_rt, fin_nx, wipeD, lim, isK, testT, isNon, isAny, o_add, o_sub, o_mul, o_fdiv, o_mod, o_pow, o_addt, o_addl, o_mult, k_eq, k_ne, k_lt, k_le, k_gt, k_ge, k_isb, k_isn, k_isnn, k_eqb, k_eql, k_nel, k_in, k_nin, g_tup_, g_lst_, g_frz_, g_cel_, sl_tup_, sl_lst_, sl_frz_, sq_tup, sq_lst, zp_tup, n_lent, n_lenl, n_lenf, n_abs, n_int, n_intb, n_max, n_min, n_sum, n_tupl, n_tupt, n_tupc, n_all, n_any, n_gcd, n_isi, n_isit, y_int, y_bl, y_tup, y_lst, y_non, q_app, P_get, h2, h3]
    · simp [e_var, e_non, e_bl, e_int, e_str, e_ty, e_glob, e_op, e_neg, e_cmp, e_chn, e_bop, e_not, e_ife, e_tup, e_lst, e_ix, e_sl, e_cl, e_ck, e_bt, e_mt, eb_one, eb_cons, es_nil, es_cons, eo_none, eo_some, ec_none, ec_some, et_name, et_tup, et_tupl, et_sub, ets_nil, ets_cons, ei_seq, ei_rng1, ei_rng2, ei_zip, s_asg_, s_par_, s_ex_, s_ret_, s_retN_, s_ite_, ss_nil_, fin_rt, fin_nx, wipeD, lim, isK, testT, isNon, isAny, o_add, o_sub, o_mul, o_fdiv, o_mod, o_pow, o_addt, o_addl, o_mult, k_eq, k_ne, k_lt, k_le, k_gt, k_ge, k_isb, k_isn, k_isnn, k_eqb, k_eql, k_nel, k_in, k_nin, g_tup_, g_lst_, g_frz_, g_cel_, sl_tup_, sl_lst_, sl_frz_, sq_tup, sq_lst, zp_tup, n_lent, n_lenl, n_lenf, n_abs, n_int, n_intb, n_max, n_min, n_sum, n_tupl, n_tupt, n_tupc, n_all, n_any, n_gcd, n_isi, n_isit, y_int, y_bl, y_tup, y_lst, y_non, q_app, h1]
  · rw [← dot_over hw]
    refine fq_low hw ?_ (sw.mono (by omega))
    have s1 := dot_sz hs.sz sa hl3
    have s2 := (hs.szc.mul sw).mono (j := i + k + 3) (by omega)
    exact s1.sub s2
def sgn (q : Rat) : Int := q.num.sign
theorem sign_div {t w : Int} (hw : 0 < w) : sgn ((t : Rat) / w) = t.sign := by
  unfold sgn
  have := (low_eq t w hw).1
  rw [this]
  have hg : (Nat.gcd t.natAbs w.natAbs : Int) ∣ t := Int.ofNat_dvd_left.mpr (Nat.gcd_dvd_left _ _)
  have hp : (0 : Int) < (Nat.gcd t.natAbs w.natAbs : Int) := by
    have : 0 < Nat.gcd t.natAbs w.natAbs := Nat.gcd_pos_of_pos_right _ (by omega)
    omega
  generalize (Nat.gcd t.natAbs w.natAbs : Int) = g at *
  obtain ⟨x, rfl⟩ := hg
  rw [Int.mul_ediv_cancel_left _ (by omega), Int.sign_mul, Int.sign_eq_one_of_pos hp, Int.one_mul]
theorem r_standing (as : List Int) (c : Int) (cs : List Rat) {i k : Nat} (hs : Sd as c i) (hp : Ok cs k) (hl : cs.length = as.length) (i0 : 0 < i) (k0 : 0 < k) (ik : i + k ≤ 8000) (h : Hs) (m : Nat) (hm : 7 ≤ m) :
    evF FT gl m f_standing [P as c, pt cs] h = some (.int (sgn (overQ as c cs)), h) := by
  obtain ⟨n, rfl, hn⟩ := lv hm
  have h1 := r_checkb as c cs hs hp hl h n hn
  obtain ⟨ns, w, ea, hw, hg, rfl, sa, sw⟩ := hp
  rw [ov_len] at hl
  have hl3 : as.length ≤ 3 := by rcases hs.len with e | e <;> omega
  have h2 := r_excess_of as ns c w hs.sz sa hs.szc sw hl3 hl.symm i0 k0 ik h n (by omega)
  have h3 := r_sign_of (dotI as ns - c * w) h n (by omega)
  rw [← sign_div hw, dot_over hw] at h3
  rw [ea] at h1 ⊢
  rw [run_f (F := ⟨2, 2, b_standing, false⟩) rfl rfl rfl, b_standing, ss_nx (σ' := [some (P as c), some (P ns w)]) (h' := h), ss_rt (h' := h)]
  · exact fin_rt
  · simp [e_var, e_non, e_bl, e_int, e_str, e_ty, e_glob, e_op, e_neg, e_cmp, e_chn, e_bop, e_not, e_ife, e_tup, e_lst, e_ix, e_sl, e_cl, e_ck, e_bt, e_mt, eb_one, eb_cons, es_nil, es_cons, eo_none, eo_some, ec_none, ec_some, et_name, et_tup, et_tupl, et_sub, ets_nil, ets_cons, ei_seq, ei_rng1, ei_rng2, ei_zip, s_asg_, s_par_, s_ex_, s_ret_, s_retN_, s_ite_, ss_nil_, fin_rt, fin_nx, wipeD, lim, isK, testT, isNon, isAny, o_add, o_sub, o_mul, o_fdiv, o_mod, o_pow, o_addt, o_addl, o_mult, k_eq, k_ne, k_lt, k_le, k_gt, k_ge, k_isb, k_isn, k_isnn, k_eqb, k_eql, k_nel, k_in, k_nin, g_tup_, g_lst_, g_frz_, g_cel_, sl_tup_, sl_lst_, sl_frz_, sq_tup, sq_lst, zp_tup, n_lent, n_lenl, n_lenf, n_abs, n_int, n_intb, n_max, n_min, n_sum, n_tupl, n_tupt, n_tupc, n_all, n_any, n_gcd, n_isi, n_isit, y_int, y_bl, y_tup, y_lst, y_non, q_app, P_get, h2, h3]
  · simp [e_var, e_non, e_bl, e_int, e_str, e_ty, e_glob, e_op, e_neg, e_cmp, e_chn, e_bop, e_not, e_ife, e_tup, e_lst, e_ix, e_sl, e_cl, e_ck, e_bt, e_mt, eb_one, eb_cons, es_nil, es_cons, eo_none, eo_some, ec_none, ec_some, et_name, et_tup, et_tupl, et_sub, ets_nil, ets_cons, ei_seq, ei_rng1, ei_rng2, ei_zip, s_asg_, s_par_, s_ex_, s_ret_, s_retN_, s_ite_, ss_nil_, fin_rt, fin_nx, wipeD, lim, isK, testT, isNon, isAny, o_add, o_sub, o_mul, o_fdiv, o_mod, o_pow, o_addt, o_addl, o_mult, k_eq, k_ne, k_lt, k_le, k_gt, k_ge, k_isb, k_isn, k_isnn, k_eqb, k_eql, k_nel, k_in, k_nin, g_tup_, g_lst_, g_frz_, g_cel_, sl_tup_, sl_lst_, sl_frz_, sq_tup, sq_lst, zp_tup, n_lent, n_lenl, n_lenf, n_abs, n_int, n_intb, n_max, n_min, n_sum, n_tupl, n_tupt, n_tupc, n_all, n_any, n_gcd, n_isi, n_isit, y_int, y_bl, y_tup, y_lst, y_non, q_app, h1]
theorem r_turned (as : List Int) (c : Int) (hl : as.length ≤ 10) (h : Hs) (m : Nat) (hm : 1 ≤ m) : evF FT gl m f_turned_side [P as c] h = some (P (as.map (0 - ·)) (0 - c), h) := by
  obtain ⟨n, rfl, hn⟩ := lv hm
  have hcp := cp_ints (cl := evF FT gl n) (gl := gl) (σ := [some (P as c), none]) (h := h) (i := 1) (ce := (.op .sub (.int 0) (.var 1))) (it := .seq (.var 0)) (ns := as ++ [c]) (fun x => .int (0 - x)) (by simp [e_var, e_non, e_bl, e_int, e_str, e_ty, e_glob, e_op, e_neg, e_cmp, e_chn, e_bop, e_not, e_ife, e_tup, e_lst, e_ix, e_sl, e_cl, e_ck, e_bt, e_mt, eb_one, eb_cons, es_nil, es_cons, eo_none, eo_some, ec_none, ec_some, et_name, et_tup, et_tupl, et_sub, ets_nil, ets_cons, ei_seq, ei_rng1, ei_rng2, ei_zip, s_asg_, s_par_, s_ex_, s_ret_, s_retN_, s_ite_, ss_nil_, fin_rt, fin_nx, wipeD, lim, isK, testT, isNon, isAny, o_add, o_sub, o_mul, o_fdiv, o_mod, o_pow, o_addt, o_addl, o_mult, k_eq, k_ne, k_lt, k_le, k_gt, k_ge, k_isb, k_isn, k_isnn, k_eqb, k_eql, k_nel, k_in, k_nin, g_tup_, g_lst_, g_frz_, g_cel_, sl_tup_, sl_lst_, sl_frz_, sq_tup, sq_lst, zp_tup, n_lent, n_lenl, n_lenf, n_abs, n_int, n_intb, n_max, n_min, n_sum, n_tupl, n_tupt, n_tupc, n_all, n_any, n_gcd, n_isi, n_isit, y_int, y_bl, y_tup, y_lst, y_non, q_app, P_seq]) (by simp [lim]; omega) (by
      intro x hx
      simp [e_var, e_non, e_bl, e_int, e_str, e_ty, e_glob, e_op, e_neg, e_cmp, e_chn, e_bop, e_not, e_ife, e_tup, e_lst, e_ix, e_sl, e_cl, e_ck, e_bt, e_mt, eb_one, eb_cons, es_nil, es_cons, eo_none, eo_some, ec_none, ec_some, et_name, et_tup, et_tupl, et_sub, ets_nil, ets_cons, ei_seq, ei_rng1, ei_rng2, ei_zip, s_asg_, s_par_, s_ex_, s_ret_, s_retN_, s_ite_, ss_nil_, fin_rt, fin_nx, wipeD, lim, isK, testT, isNon, isAny, o_add, o_sub, o_mul, o_fdiv, o_mod, o_pow, o_addt, o_addl, o_mult, k_eq, k_ne, k_lt, k_le, k_gt, k_ge, k_isb, k_isn, k_isnn, k_eqb, k_eql, k_nel, k_in, k_nin, g_tup_, g_lst_, g_frz_, g_cel_, sl_tup_, sl_lst_, sl_frz_, sq_tup, sq_lst, zp_tup, n_lent, n_lenl, n_lenf, n_abs, n_int, n_intb, n_max, n_min, n_sum, n_tupl, n_tupt, n_tupc, n_all, n_any, n_gcd, n_isi, n_isit, y_int, y_bl, y_tup, y_lst, y_non, q_app])
  rw [run_g (F := ⟨1, 2, b_turned_side, false⟩) [some (P as c), none] rfl rfl rfl rfl, b_turned_side, ss_rt (h' := h)]
  · exact fin_rt
  · simp only [s_ret_, e_bt, es_cons, es_nil, hcp, Option.bind_some, Option.map_some, n_tupl]
    simp [P_eq]
theorem neg_sum (as : List Int) (c : Int) (cs : List Rat) : overQ (as.map (0 - ·)) (0 - c) cs = - overQ as c cs := by
  have key : ∀ (as : List Int) (cs : List Rat), (List.zipWith (fun (a : Int) (x : Rat) => (a : Rat) * x) (as.map (0 - ·)) cs).sum = - (List.zipWith (fun (a : Int) (x : Rat) => (a : Rat) * x) as cs).sum := by
    intro as
    induction as with
    | nil => intro cs; simp
    | cons a as ih =>
      intro cs
      cases cs with
      | nil => simp
      | cons x cs =>
        simp only [List.map_cons, List.zipWith_cons_cons, List.sum_cons, ih, Rat.intCast_sub]
        grind
  unfold overQ
  rw [key, Rat.intCast_sub]
  grind
theorem Sd.neg {as : List Int} {c : Int} {k : Nat} (h : Sd as c k) : Sd (as.map (0 - ·)) (0 - c) k := by
  refine ⟨by simpa using h.len, ?_, ?_, ?_, ?_⟩
  · have := gcdL_mul (-1) (as ++ [c])
    rw [h.gcd] at this
    have e : (as ++ [c]).map (· * (-1 : Int)) = as.map (0 - ·) ++ [0 - c] := by
      rw [List.map_append]
      congr 1
      · apply List.map_congr_left; intro x _; omega
      · simp
    rw [e] at this
    simpa using this
  · have := h.some
    rw [List.any_map]
    rw [← this]
    congr 1
    funext x
    simp
  · intro x hx
    obtain ⟨a, ha, rfl⟩ := List.mem_map.mp hx
    have := (h.sz a ha).neg
    rwa [Int.zero_sub]
  · have := h.szc.neg
    rwa [Int.zero_sub]
theorem r_opposite (as : List Int) (c : Int) {i : Nat} (hs : Sd as c i) (h : Hs) (m : Nat) (hm : 6 ≤ m) : evF FT gl m f_opposite [P as c] h = some (P (as.map (0 - ·)) (0 - c), h) := by
  obtain ⟨n, rfl, hn⟩ := lv hm
  have h1 := r_check_side as c hs.len hs.gcd hs.some h n hn
  have h2 := r_turned as c (by rcases hs.len with e | e <;> omega) h n (by omega)
  rw [run_f (F := ⟨1, 1, b_opposite, false⟩) rfl rfl rfl, b_opposite, ss_nx (σ' := [some (P as c)]) (h' := h), ss_rt (h' := h)]
  · exact fin_rt
  · simp [e_var, e_non, e_bl, e_int, e_str, e_ty, e_glob, e_op, e_neg, e_cmp, e_chn, e_bop, e_not, e_ife, e_tup, e_lst, e_ix, e_sl, e_cl, e_ck, e_bt, e_mt, eb_one, eb_cons, es_nil, es_cons, eo_none, eo_some, ec_none, ec_some, et_name, et_tup, et_tupl, et_sub, ets_nil, ets_cons, ei_seq, ei_rng1, ei_rng2, ei_zip, s_asg_, s_par_, s_ex_, s_ret_, s_retN_, s_ite_, ss_nil_, fin_rt, fin_nx, wipeD, lim, isK, testT, isNon, isAny, o_add, o_sub, o_mul, o_fdiv, o_mod, o_pow, o_addt, o_addl, o_mult, k_eq, k_ne, k_lt, k_le, k_gt, k_ge, k_isb, k_isn, k_isnn, k_eqb, k_eql, k_nel, k_in, k_nin, g_tup_, g_lst_, g_frz_, g_cel_, sl_tup_, sl_lst_, sl_frz_, sq_tup, sq_lst, zp_tup, n_lent, n_lenl, n_lenf, n_abs, n_int, n_intb, n_max, n_min, n_sum, n_tupl, n_tupt, n_tupc, n_all, n_any, n_gcd, n_isi, n_isit, y_int, y_bl, y_tup, y_lst, y_non, q_app, h2]
  · simp [e_var, e_non, e_bl, e_int, e_str, e_ty, e_glob, e_op, e_neg, e_cmp, e_chn, e_bop, e_not, e_ife, e_tup, e_lst, e_ix, e_sl, e_cl, e_ck, e_bt, e_mt, eb_one, eb_cons, es_nil, es_cons, eo_none, eo_some, ec_none, ec_some, et_name, et_tup, et_tupl, et_sub, ets_nil, ets_cons, ei_seq, ei_rng1, ei_rng2, ei_zip, s_asg_, s_par_, s_ex_, s_ret_, s_retN_, s_ite_, ss_nil_, fin_rt, fin_nx, wipeD, lim, isK, testT, isNon, isAny, o_add, o_sub, o_mul, o_fdiv, o_mod, o_pow, o_addt, o_addl, o_mult, k_eq, k_ne, k_lt, k_le, k_gt, k_ge, k_isb, k_isn, k_isnn, k_eqb, k_eql, k_nel, k_in, k_nin, g_tup_, g_lst_, g_frz_, g_cel_, sl_tup_, sl_lst_, sl_frz_, sq_tup, sq_lst, zp_tup, n_lent, n_lenl, n_lenf, n_abs, n_int, n_intb, n_max, n_min, n_sum, n_tupl, n_tupt, n_tupc, n_all, n_any, n_gcd, n_isi, n_isit, y_int, y_bl, y_tup, y_lst, y_non, q_app, h1]
/-- a side's numbers, divided by what they share -/
theorem sd_div {as : List Int} {c : Int} {k : Nat} (hl : as.length = 2 ∨ as.length = 3) (ha : (as.any fun x => !decide (x = 0)) = true) (hs : ∀ a ∈ as, Sz a k) (hc : Sz c k) : 0 < gcdL (as ++ [c]) ∧ Sz (gcdL (as ++ [c]) : Int) k ∧ Sd (as.map (· / (gcdL (as ++ [c]) : Int))) (c / (gcdL (as ++ [c]) : Int)) k := by
  obtain ⟨x, hx, hx0⟩ := List.any_eq_true.mp ha
  have hx0 : x ≠ 0 := by simpa using hx0
  have hm : x ∈ as ++ [c] := by simp [hx]
  have g1 := gcdL_pos hm hx0
  have g2 := gcdL_le hm hx0
  have g3 : (0 : Int) < (gcdL (as ++ [c]) : Int) := by omega
  have hd := gcdL_div g1
  rw [List.map_append] at hd
  refine ⟨g1, ?_, ⟨by simpa using hl, hd, ?_, ?_, hc.ediv g3⟩⟩
  · have := hs x hx
    unfold Sz at *
    simp only [Int.natAbs_natCast]
    omega
  · rw [List.any_map]
    refine List.any_eq_true.mpr ⟨x, hx, ?_⟩
    have hdv := gcdL_dvd hm
    generalize (gcdL (as ++ [c]) : Int) = g at *
    obtain ⟨y, rfl⟩ := hdv
    simp [Int.mul_ediv_cancel_left _ (show g ≠ 0 by omega)]
    intro e
    subst e
    simp at hx0
  · intro y hy
    obtain ⟨a, h1, rfl⟩ := List.mem_map.mp hy
    exact (hs a h1).ediv g3
theorem r_side_from (as : List Int) (c : Int) {k : Nat} (hl : as.length = 2 ∨ as.length = 3) (ha : (as.any fun x => !decide (x = 0)) = true) (hs : ∀ a ∈ as, Sz a k) (hc : Sz c k) (h0 : 0 < k) (hk : k ≤ 9000) (h : Hs) (m : Nat) (hm : 2 ≤ m) :
    evF FT gl m f_side_from [P as c] h = some (P (as.map (· / (gcdL (as ++ [c]) : Int))) (c / (gcdL (as ++ [c]) : Int)), h) := by
  obtain ⟨n, rfl, hn⟩ := lv hm
  obtain ⟨g1, g2, _⟩ := sd_div hl ha hs hc
  have g4 := g2.div_ok (by omega) h0 hk
  have h1 := r_shared (as ++ [c]) (P as c) (.inl (P_eq as c)) h n (by omega)
  have hcp := cp_ints (cl := evF FT gl n) (gl := gl) (σ := [some (P as c), some (.int (gcdL (as ++ [c]) : Nat)), none]) (h := h) (i := 2) (ce := .op .fdiv (.var 2) (.var 1)) (it := .seq (.var 0)) (ns := as ++ [c]) (fun x => .int (x / (gcdL (as ++ [c]) : Nat))) (by simp [e_var, e_non, e_bl, e_int, e_str, e_ty, e_glob, e_op, e_neg, e_cmp, e_chn, e_bop, e_not, e_ife, e_tup, e_lst, e_ix, e_sl, e_cl, e_ck, e_bt, e_mt, eb_one, eb_cons, es_nil, es_cons, eo_none, eo_some, ec_none, ec_some, et_name, et_tup, et_tupl, et_sub, ets_nil, ets_cons, ei_seq, ei_rng1, ei_rng2, ei_zip, s_asg_, s_par_, s_ex_, s_ret_, s_retN_, s_ite_, ss_nil_, fin_rt, fin_nx, wipeD, lim, isK, testT, isNon, isAny, o_add, o_sub, o_mul, o_fdiv, o_mod, o_pow, o_addt, o_addl, o_mult, k_eq, k_ne, k_lt, k_le, k_gt, k_ge, k_isb, k_isn, k_isnn, k_eqb, k_eql, k_nel, k_in, k_nin, g_tup_, g_lst_, g_frz_, g_cel_, sl_tup_, sl_lst_, sl_frz_, sq_tup, sq_lst, zp_tup, n_lent, n_lenl, n_lenf, n_abs, n_int, n_intb, n_max, n_min, n_sum, n_tupl, n_tupt, n_tupc, n_all, n_any, n_gcd, n_isi, n_isit, y_int, y_bl, y_tup, y_lst, y_non, q_app, P_seq]) (by simp [lim]; omega) (by
      intro x hx
      generalize ((gcdL (as ++ [c]) : Nat) : Int) = g at g4 ⊢
      simp [e_var, e_non, e_bl, e_int, e_str, e_ty, e_glob, e_op, e_neg, e_cmp, e_chn, e_bop, e_not, e_ife, e_tup, e_lst, e_ix, e_sl, e_cl, e_ck, e_bt, e_mt, eb_one, eb_cons, es_nil, es_cons, eo_none, eo_some, ec_none, ec_some, et_name, et_tup, et_tupl, et_sub, ets_nil, ets_cons, ei_seq, ei_rng1, ei_rng2, ei_zip, s_asg_, s_par_, s_ex_, s_ret_, s_retN_, s_ite_, ss_nil_, fin_rt, fin_nx, wipeD, lim, isK, testT, isNon, isAny, o_add, o_sub, o_mul, o_fdiv, o_mod, o_pow, o_addt, o_addl, o_mult, k_eq, k_ne, k_lt, k_le, k_gt, k_ge, k_isb, k_isn, k_isnn, k_eqb, k_eql, k_nel, k_in, k_nin, g_tup_, g_lst_, g_frz_, g_cel_, sl_tup_, sl_lst_, sl_frz_, sq_tup, sq_lst, zp_tup, n_lent, n_lenl, n_lenf, n_abs, n_int, n_intb, n_max, n_min, n_sum, n_tupl, n_tupt, n_tupc, n_all, n_any, n_gcd, n_isi, n_isit, y_int, y_bl, y_tup, y_lst, y_non, q_app, g4])
  rw [run_g (F := ⟨1, 3, b_side_from, false⟩) [some (P as c), none, none] rfl rfl rfl rfl, b_side_from, ss_nx (σ' := [some (P as c), some (.int (gcdL (as ++ [c]) : Nat)), none]) (h' := h), ss_rt (h' := h)]
  · exact fin_rt
  · simp only [s_ret_, e_bt, es_cons, es_nil, hcp, Option.bind_some, Option.map_some, n_tupl]
    simp [P_eq]
  · simp [e_var, e_non, e_bl, e_int, e_str, e_ty, e_glob, e_op, e_neg, e_cmp, e_chn, e_bop, e_not, e_ife, e_tup, e_lst, e_ix, e_sl, e_cl, e_ck, e_bt, e_mt, eb_one, eb_cons, es_nil, es_cons, eo_none, eo_some, ec_none, ec_some, et_name, et_tup, et_tupl, et_sub, ets_nil, ets_cons, ei_seq, ei_rng1, ei_rng2, ei_zip, s_asg_, s_par_, s_ex_, s_ret_, s_retN_, s_ite_, ss_nil_, fin_rt, fin_nx, wipeD, lim, isK, testT, isNon, isAny, o_add, o_sub, o_mul, o_fdiv, o_mod, o_pow, o_addt, o_addl, o_mult, k_eq, k_ne, k_lt, k_le, k_gt, k_ge, k_isb, k_isn, k_isnn, k_eqb, k_eql, k_nel, k_in, k_nin, g_tup_, g_lst_, g_frz_, g_cel_, sl_tup_, sl_lst_, sl_frz_, sq_tup, sq_lst, zp_tup, n_lent, n_lenl, n_lenf, n_abs, n_int, n_intb, n_max, n_min, n_sum, n_tupl, n_tupt, n_tupc, n_all, n_any, n_gcd, n_isi, n_isit, y_int, y_bl, y_tup, y_lst, y_non, q_app, h1]
theorem r_side_of (as : List Int) (c : Int) {k : Nat} (hl : as.length = 2 ∨ as.length = 3) (ha : (as.any fun x => !decide (x = 0)) = true) (hs : ∀ a ∈ as, Sz a k) (hc : Sz c k) (h0 : 0 < k) (hk : k ≤ 9000) (h : Hs) (m : Nat) (hm : 3 ≤ m) :
    evF FT gl m f_side_of [P as c] h = some (P (as.map (· / (gcdL (as ++ [c]) : Int))) (c / (gcdL (as ++ [c]) : Int)), h) := by
  obtain ⟨n, rfl, hn⟩ := lv hm
  have h1 := r_side_from as c hl ha hs hc h0 hk h n (by omega)
  have h3 := r_are_integers (as ++ [c]) 3 h (by simp [lim]; omega) n (by omega)
  have h4 := r_are_integers (as ++ [c]) 4 h (by simp [lim]; omega) n (by omega)
  rw [← P_eq] at h3 h4
  have hcp := cp_ints (cl := evF FT gl n) (gl := gl) (σ := [some (P as c), none]) (h := h) (i := 1) (ce := .cmp .ne (.var 1) (.int 0)) (it := .seq (.sl (.var 0) .none (.some (.neg (.int 1))))) (ns := as) (fun x => .bl (!decide (x = 0))) (by simp [e_var, e_non, e_bl, e_int, e_str, e_ty, e_glob, e_op, e_neg, e_cmp, e_chn, e_bop, e_not, e_ife, e_tup, e_lst, e_ix, e_sl, e_cl, e_ck, e_bt, e_mt, eb_one, eb_cons, es_nil, es_cons, eo_none, eo_some, ec_none, ec_some, et_name, et_tup, et_tupl, et_sub, ets_nil, ets_cons, ei_seq, ei_rng1, ei_rng2, ei_zip, s_asg_, s_par_, s_ex_, s_ret_, s_retN_, s_ite_, ss_nil_, fin_rt, fin_nx, wipeD, lim, isK, testT, isNon, isAny, o_add, o_sub, o_mul, o_fdiv, o_mod, o_pow, o_addt, o_addl, o_mult, k_eq, k_ne, k_lt, k_le, k_gt, k_ge, k_isb, k_isn, k_isnn, k_eqb, k_eql, k_nel, k_in, k_nin, g_tup_, g_lst_, g_frz_, g_cel_, sl_tup_, sl_lst_, sl_frz_, sq_tup, sq_lst, zp_tup, n_lent, n_lenl, n_lenf, n_abs, n_int, n_intb, n_max, n_min, n_sum, n_tupl, n_tupt, n_tupc, n_all, n_any, n_gcd, n_isi, n_isit, y_int, y_bl, y_tup, y_lst, y_non, q_app, P_cut]) (by simp [lim]; omega) (by
      intro x hx
      simp [e_var, e_non, e_bl, e_int, e_str, e_ty, e_glob, e_op, e_neg, e_cmp, e_chn, e_bop, e_not, e_ife, e_tup, e_lst, e_ix, e_sl, e_cl, e_ck, e_bt, e_mt, eb_one, eb_cons, es_nil, es_cons, eo_none, eo_some, ec_none, ec_some, et_name, et_tup, et_tupl, et_sub, ets_nil, ets_cons, ei_seq, ei_rng1, ei_rng2, ei_zip, s_asg_, s_par_, s_ex_, s_ret_, s_retN_, s_ite_, ss_nil_, fin_rt, fin_nx, wipeD, lim, isK, testT, isNon, isAny, o_add, o_sub, o_mul, o_fdiv, o_mod, o_pow, o_addt, o_addl, o_mult, k_eq, k_ne, k_lt, k_le, k_gt, k_ge, k_isb, k_isn, k_isnn, k_eqb, k_eql, k_nel, k_in, k_nin, g_tup_, g_lst_, g_frz_, g_cel_, sl_tup_, sl_lst_, sl_frz_, sq_tup, sq_lst, zp_tup, n_lent, n_lenl, n_lenf, n_abs, n_int, n_intb, n_max, n_min, n_sum, n_tupl, n_tupt, n_tupc, n_all, n_any, n_gcd, n_isi, n_isit, y_int, y_bl, y_tup, y_lst, y_non, q_app])
  have hb := any_bools (fun x => !decide (x = 0)) as
  rw [run_g (F := ⟨1, 2, b_side_of, false⟩) [some (P as c), none] rfl rfl rfl rfl, b_side_of, ss_nx (σ' := [some (P as c), none]) (h' := h), ss_nx (σ' := [some (P as c), none]) (h' := h), ss_rt (h' := h)]
  · exact fin_rt
  · simp [e_var, e_non, e_bl, e_int, e_str, e_ty, e_glob, e_op, e_neg, e_cmp, e_chn, e_bop, e_not, e_ife, e_tup, e_lst, e_ix, e_sl, e_cl, e_ck, e_bt, e_mt, eb_one, eb_cons, es_nil, es_cons, eo_none, eo_some, ec_none, ec_some, et_name, et_tup, et_tupl, et_sub, ets_nil, ets_cons, ei_seq, ei_rng1, ei_rng2, ei_zip, s_asg_, s_par_, s_ex_, s_ret_, s_retN_, s_ite_, ss_nil_, fin_rt, fin_nx, wipeD, lim, isK, testT, isNon, isAny, o_add, o_sub, o_mul, o_fdiv, o_mod, o_pow, o_addt, o_addl, o_mult, k_eq, k_ne, k_lt, k_le, k_gt, k_ge, k_isb, k_isn, k_isnn, k_eqb, k_eql, k_nel, k_in, k_nin, g_tup_, g_lst_, g_frz_, g_cel_, sl_tup_, sl_lst_, sl_frz_, sq_tup, sq_lst, zp_tup, n_lent, n_lenl, n_lenf, n_abs, n_int, n_intb, n_max, n_min, n_sum, n_tupl, n_tupt, n_tupc, n_all, n_any, n_gcd, n_isi, n_isit, y_int, y_bl, y_tup, y_lst, y_non, q_app, h1]
  · have hb' : (as.map fun x => !decide (x = 0)).any id = true := by rw [List.any_map]; exact ha
    simp only [s_ite_, e_not, e_bt, es_cons, es_nil, hcp, Option.bind_some, Option.map_some, n_any, hb, hb']
    simp [e_var, e_non, e_bl, e_int, e_str, e_ty, e_glob, e_op, e_neg, e_cmp, e_chn, e_bop, e_not, e_ife, e_tup, e_lst, e_ix, e_sl, e_cl, e_ck, e_bt, e_mt, eb_one, eb_cons, es_nil, es_cons, eo_none, eo_some, ec_none, ec_some, et_name, et_tup, et_tupl, et_sub, ets_nil, ets_cons, ei_seq, ei_rng1, ei_rng2, ei_zip, s_asg_, s_par_, s_ex_, s_ret_, s_retN_, s_ite_, ss_nil_, fin_rt, fin_nx, wipeD, lim, isK, testT, isNon, isAny, o_add, o_sub, o_mul, o_fdiv, o_mod, o_pow, o_addt, o_addl, o_mult, k_eq, k_ne, k_lt, k_le, k_gt, k_ge, k_isb, k_isn, k_isnn, k_eqb, k_eql, k_nel, k_in, k_nin, g_tup_, g_lst_, g_frz_, g_cel_, sl_tup_, sl_lst_, sl_frz_, sq_tup, sq_lst, zp_tup, n_lent, n_lenl, n_lenf, n_abs, n_int, n_intb, n_max, n_min, n_sum, n_tupl, n_tupt, n_tupc, n_all, n_any, n_gcd, n_isi, n_isit, y_int, y_bl, y_tup, y_lst, y_non, q_app]
  · rcases hl with e | e
    · simp [e] at h3; simp [e_var, e_non, e_bl, e_int, e_str, e_ty, e_glob, e_op, e_neg, e_cmp, e_chn, e_bop, e_not, e_ife, e_tup, e_lst, e_ix, e_sl, e_cl, e_ck, e_bt, e_mt, eb_one, eb_cons, es_nil, es_cons, eo_none, eo_some, ec_none, ec_some, et_name, et_tup, et_tupl, et_sub, ets_nil, ets_cons, ei_seq, ei_rng1, ei_rng2, ei_zip, s_asg_, s_par_, s_ex_, s_ret_, s_retN_, s_ite_, ss_nil_, fin_rt, fin_nx, wipeD, lim, isK, testT, isNon, isAny, o_add, o_sub, o_mul, o_fdiv, o_mod, o_pow, o_addt, o_addl, o_mult, k_eq, k_ne, k_lt, k_le, k_gt, k_ge, k_isb, k_isn, k_isnn, k_eqb, k_eql, k_nel, k_in, k_nin, g_tup_, g_lst_, g_frz_, g_cel_, sl_tup_, sl_lst_, sl_frz_, sq_tup, sq_lst, zp_tup, n_lent, n_lenl, n_lenf, n_abs, n_int, n_intb, n_max, n_min, n_sum, n_tupl, n_tupt, n_tupc, n_all, n_any, n_gcd, n_isi, n_isit, y_int, y_bl, y_tup, y_lst, y_non, q_app, h3]
    · simp [e] at h3 h4; simp [e_var, e_non, e_bl, e_int, e_str, e_ty, e_glob, e_op, e_neg, e_cmp, e_chn, e_bop, e_not, e_ife, e_tup, e_lst, e_ix, e_sl, e_cl, e_ck, e_bt, e_mt, eb_one, eb_cons, es_nil, es_cons, eo_none, eo_some, ec_none, ec_some, et_name, et_tup, et_tupl, et_sub, ets_nil, ets_cons, ei_seq, ei_rng1, ei_rng2, ei_zip, s_asg_, s_par_, s_ex_, s_ret_, s_retN_, s_ite_, ss_nil_, fin_rt, fin_nx, wipeD, lim, isK, testT, isNon, isAny, o_add, o_sub, o_mul, o_fdiv, o_mod, o_pow, o_addt, o_addl, o_mult, k_eq, k_ne, k_lt, k_le, k_gt, k_ge, k_isb, k_isn, k_isnn, k_eqb, k_eql, k_nel, k_in, k_nin, g_tup_, g_lst_, g_frz_, g_cel_, sl_tup_, sl_lst_, sl_frz_, sq_tup, sq_lst, zp_tup, n_lent, n_lenl, n_lenf, n_abs, n_int, n_intb, n_max, n_min, n_sum, n_tupl, n_tupt, n_tupc, n_all, n_any, n_gcd, n_isi, n_isit, y_int, y_bl, y_tup, y_lst, y_non, q_app, h3, h4]
end K03

set_option Elab.async false
set_option linter.all false
set_option maxRecDepth 100000
set_option maxHeartbeats 1000000
/-! k03: the law's own helpers. -/
namespace K03
open PySem L2 Py
theorem cut_ints (ns : List Int) (lo hi : Option Int) : ∃ ms : List Int, cutD (ns.map D.int) lo hi = ms.map D.int := by
  unfold cutD
  simp only [List.length_map]
  rw [← List.map_drop, ← List.map_take]
  exact ⟨_, rfl⟩
theorem r_cell (ns : List Int) (k : Nat) (hk : k ≤ 100) (h : Hs) (m : Nat) (hm : 1 ≤ m) : ∃ v, evF FT gl m f__law_cell [.frz (ns.map D.int), .int k] h = some (.int v, h) := by
  obtain ⟨n, rfl, hn⟩ := lv hm
  obtain ⟨ms, hms⟩ := cut_ints ns none (some 1)
  by_cases hl : k < ns.length
  · refine ⟨ns[k], ?_⟩
    have hl' : (k : Int) < (ns.length : Int) := by omega
    have hg : L2.atI (ns.map D.int) (k : Int) = some (.int ns[k]) := at_nat (by simp [hl])
    rw [run_f (F := ⟨2, 2, b__law_cell, false⟩) rfl rfl rfl, b__law_cell, ss_rt (h' := h)]
    · exact fin_rt
    · simp [e_var, e_non, e_bl, e_int, e_str, e_ty, e_glob, e_op, e_neg, e_cmp, e_chn, e_bop, e_not, e_ife, e_tup, e_lst, e_ix, e_sl, e_cl, e_ck, e_bt, e_mt, eb_one, eb_cons, es_nil, es_cons, eo_none, eo_some, ec_none, ec_some, et_name, et_tup, et_tupl, et_sub, ets_nil, ets_cons, ei_seq, ei_rng1, ei_rng2, ei_zip, s_asg_, s_par_, s_ex_, s_ret_, s_retN_, s_ite_, ss_nil_, fin_rt, fin_nx, wipeD, lim, isK, testT, isNon, isAny, o_add, o_sub, o_mul, o_fdiv, o_mod, o_pow, o_addt, o_addl, o_mult, k_eq, k_ne, k_lt, k_le, k_gt, k_ge, k_isb, k_isn, k_isnn, k_eqb, k_eql, k_nel, k_in, k_nin, g_tup_, g_lst_, g_frz_, g_cel_, sl_tup_, sl_lst_, sl_frz_, sq_tup, sq_lst, zp_tup, n_lent, n_lenl, n_lenf, n_abs, n_int, n_intb, n_max, n_min, n_sum, n_tupl, n_tupt, n_tupc, n_all, n_any, n_gcd, n_isi, n_isit, y_int, y_bl, y_tup, y_lst, y_non, q_app, hl, hg]
  · refine ⟨6229 * k + ms.sum % 1000037, ?_⟩
    have hl' : ¬ (k : Int) < (ns.length : Int) := by omega
    have hmul : mulOk 6229 (k : Int) = true := Sz.ok (i := 20) (j := 20) (by unfold Sz; decide) (Sz.of_nat (by omega)) (by decide) (by decide) (by decide)
    rw [run_f (F := ⟨2, 2, b__law_cell, false⟩) rfl rfl rfl, b__law_cell, ss_rt (h' := h)]
    · exact fin_rt
    · simp [e_var, e_non, e_bl, e_int, e_str, e_ty, e_glob, e_op, e_neg, e_cmp, e_chn, e_bop, e_not, e_ife, e_tup, e_lst, e_ix, e_sl, e_cl, e_ck, e_bt, e_mt, eb_one, eb_cons, es_nil, es_cons, eo_none, eo_some, ec_none, ec_some, et_name, et_tup, et_tupl, et_sub, ets_nil, ets_cons, ei_seq, ei_rng1, ei_rng2, ei_zip, s_asg_, s_par_, s_ex_, s_ret_, s_retN_, s_ite_, ss_nil_, fin_rt, fin_nx, wipeD, lim, isK, testT, isNon, isAny, o_add, o_sub, o_mul, o_fdiv, o_mod, o_pow, o_addt, o_addl, o_mult, k_eq, k_ne, k_lt, k_le, k_gt, k_ge, k_isb, k_isn, k_isnn, k_eqb, k_eql, k_nel, k_in, k_nin, g_tup_, g_lst_, g_frz_, g_cel_, sl_tup_, sl_lst_, sl_frz_, sq_tup, sq_lst, zp_tup, n_lent, n_lenl, n_lenf, n_abs, n_int, n_intb, n_max, n_min, n_sum, n_tupl, n_tupt, n_tupc, n_all, n_any, n_gcd, n_isi, n_isit, y_int, y_bl, y_tup, y_lst, y_non, q_app, hl, hms, ints_map, hmul]
/-- a box: what is left to draw from, and how often it was asked behind that -/
def Bx (B : List D) (t : Nat) : Prop := ∃ (a : Int) (b : Bool) (r c : Int), B = [.int a, .bl b, .int r, .int c] ∧ 0 ≤ r ∧ r < 2147483629 ∧ 0 ≤ c ∧ c ≤ t
theorem Bx.clean {B : List D} {t : Nat} (h : Bx B t) (n : Nat) : cleans n B = true := by
  obtain ⟨a, b, r, c, rfl, _⟩ := h
  simp [cleans, Py.clean]
theorem Bx.mono {B : List D} {t u : Nat} (h : Bx B t) (hu : t ≤ u) : Bx B u := by
  obtain ⟨a, b, r, c, rfl, h1, h2, h3, h4⟩ := h
  exact ⟨a, b, r, c, rfl, h1, h2, h3, by omega⟩
theorem r_box (v : Int) (h : Hs) (m : Nat) (hm : 1 ≤ m) : ∃ B, evF FT gl m f__law_box [.int v] h = some (.cel h.length, h ++ [B]) ∧ Bx B 0 := by
  obtain ⟨n, rfl, hn⟩ := lv hm
  have e : (if v < 0 then -v else v) = (v.natAbs : Int) := by omega
  refine ⟨[.int v.natAbs, .bl (decide ((10 : Int) ^ 18 ≤ v.natAbs)), .int ((v.natAbs : Int) % 2147483629), .int 0], ?_, _, _, _, _, rfl, by omega, by omega, by decide, by decide⟩
  rw [run_f (F := ⟨1, 1, b__law_box, false⟩) rfl rfl rfl, b__law_box, ss_rt (h' := h ++ [[.int v.natAbs, .bl (decide ((10 : Int) ^ 18 ≤ v.natAbs)), .int ((v.natAbs : Int) % 2147483629), .int 0]])]
  · exact fin_rt
  · simp [e_var, e_non, e_bl, e_int, e_str, e_ty, e_glob, e_op, e_neg, e_cmp, e_chn, e_bop, e_not, e_ife, e_tup, e_lst, e_ix, e_sl, e_cl, e_ck, e_bt, e_mt, eb_one, eb_cons, es_nil, es_cons, eo_none, eo_some, ec_none, ec_some, et_name, et_tup, et_tupl, et_sub, ets_nil, ets_cons, ei_seq, ei_rng1, ei_rng2, ei_zip, s_asg_, s_par_, s_ex_, s_ret_, s_retN_, s_ite_, ss_nil_, fin_rt, fin_nx, wipeD, lim, isK, testT, isNon, isAny, o_add, o_sub, o_mul, o_fdiv, o_mod, o_pow, o_addt, o_addl, o_mult, k_eq, k_ne, k_lt, k_le, k_gt, k_ge, k_isb, k_isn, k_isnn, k_eqb, k_eql, k_nel, k_in, k_nin, g_tup_, g_lst_, g_frz_, g_cel_, sl_tup_, sl_lst_, sl_frz_, sq_tup, sq_lst, zp_tup, n_lent, n_lenl, n_lenf, n_abs, n_int, n_intb, n_max, n_min, n_sum, n_tupl, n_tupt, n_tupc, n_all, n_any, n_gcd, n_isi, n_isit, y_int, y_bl, y_tup, y_lst, y_non, q_app, List.getElem?_cons_zero, List.getElem?_cons_succ, List.getElem?_nil, List.set_cons_zero, List.set_cons_succ, Option.bind_some, Option.map_some, Option.bind_none, List.length_cons, List.length_nil, Bool.false_eq_true, if_true, if_false, List.nil_append, List.cons_append, e]
theorem r_take (many : Int) (h : Hs) (i : Nat) (B : List D) (t : Nat) (hi : i < h.length) (hB : Bx B t) (ht : t < 2 ^ 30) (h0 : 0 < many) (h1 : many < 2 ^ 60) (m : Nat) (hm : 1 ≤ m) :
    ∃ d B', evF FT gl m f__law_take [.cel i, .int many] (h.set i B) = some (.int d, h.set i B') ∧ (0 ≤ d ∧ d < many) ∧ Bx B' (t + 1) := by
  obtain ⟨n, rfl, hn⟩ := lv hm
  obtain ⟨a, b, r, c, rfl, r0, r1, c0, c1⟩ := hB
  have hdv : 0 < many ∧ many.natAbs.log2 < 9000 := Sz.div_ok (j := 60) (by unfold Sz; omega) h0 (by decide) (by decide)
  have x3 : L2.ixN 4 3 = some 3 := by decide
  have x0 : L2.ixN 4 0 = some 0 := by decide
  have gt : ∀ B : List D, (h.set i B)[i]? = some B := set_get hi
  by_cases hc : b = true ∧ 0 < a
  · obtain ⟨rfl, ha⟩ := hc
    refine ⟨a % many, [.int (a / many), .bl true, .int r, .int c], ?_, ⟨Int.emod_nonneg _ (by omega), Int.emod_lt_of_pos _ h0⟩, _, _, _, _, rfl, r0, r1, c0, by omega⟩
    rw [run_g (F := ⟨2, 4, b__law_take, false⟩) [some (.cel i), some (.int many), none, none] rfl rfl rfl rfl, b__law_take, ss_rt (d := .int (a % many)) (h' := h.set i [.int (a / many), .bl true, .int r, .int c])]
    · exact fin_rt
    · simp [e_var, e_non, e_bl, e_int, e_str, e_ty, e_glob, e_op, e_neg, e_cmp, e_chn, e_bop, e_not, e_ife, e_tup, e_lst, e_ix, e_sl, e_cl, e_ck, e_bt, e_mt, eb_one, eb_cons, es_nil, es_cons, eo_none, eo_some, ec_none, ec_some, et_name, et_tup, et_tupl, et_sub, ets_nil, ets_cons, ei_seq, ei_rng1, ei_rng2, ei_zip, s_asg_, s_par_, s_ex_, s_ret_, s_retN_, s_ite_, ss_nil_, fin_rt, fin_nx, wipeD, lim, isK, testT, isNon, isAny, o_add, o_sub, o_mul, o_fdiv, o_mod, o_pow, o_addt, o_addl, o_mult, k_eq, k_ne, k_lt, k_le, k_gt, k_ge, k_isb, k_isn, k_isnn, k_eqb, k_eql, k_nel, k_in, k_nin, g_tup_, g_lst_, g_frz_, g_cel_, sl_tup_, sl_lst_, sl_frz_, sq_tup, sq_lst, zp_tup, n_lent, n_lenl, n_lenf, n_abs, n_int, n_intb, n_max, n_min, n_sum, n_tupl, n_tupt, n_tupc, n_all, n_any, n_gcd, n_isi, n_isit, y_int, y_bl, y_tup, y_lst, y_non, q_app, gt, at_0, at_1, at_2, at_3, ha]
      rw [ss_nx (σ' := [some (.cel i), some (.int many), some (.int (a % many)), none]) (h' := h.set i [.int a, .bl true, .int r, .int c]), ss_nx (σ' := [some (.cel i), some (.int many), some (.int (a % many)), none]) (h' := h.set i [.int (a / many), .bl true, .int r, .int c]), ss_rt (d := .int (a % many)) (h' := h.set i [.int (a / many), .bl true, .int r, .int c])]
      · simp [e_var, e_non, e_bl, e_int, e_str, e_ty, e_glob, e_op, e_neg, e_cmp, e_chn, e_bop, e_not, e_ife, e_tup, e_lst, e_ix, e_sl, e_cl, e_ck, e_bt, e_mt, eb_one, eb_cons, es_nil, es_cons, eo_none, eo_some, ec_none, ec_some, et_name, et_tup, et_tupl, et_sub, ets_nil, ets_cons, ei_seq, ei_rng1, ei_rng2, ei_zip, s_asg_, s_par_, s_ex_, s_ret_, s_retN_, s_ite_, ss_nil_, fin_rt, fin_nx, wipeD, lim, isK, testT, isNon, isAny, o_add, o_sub, o_mul, o_fdiv, o_mod, o_pow, o_addt, o_addl, o_mult, k_eq, k_ne, k_lt, k_le, k_gt, k_ge, k_isb, k_isn, k_isnn, k_eqb, k_eql, k_nel, k_in, k_nin, g_tup_, g_lst_, g_frz_, g_cel_, sl_tup_, sl_lst_, sl_frz_, sq_tup, sq_lst, zp_tup, n_lent, n_lenl, n_lenf, n_abs, n_int, n_intb, n_max, n_min, n_sum, n_tupl, n_tupt, n_tupc, n_all, n_any, n_gcd, n_isi, n_isit, y_int, y_bl, y_tup, y_lst, y_non, q_app]
      · simp [e_var, e_non, e_bl, e_int, e_str, e_ty, e_glob, e_op, e_neg, e_cmp, e_chn, e_bop, e_not, e_ife, e_tup, e_lst, e_ix, e_sl, e_cl, e_ck, e_bt, e_mt, eb_one, eb_cons, es_nil, es_cons, eo_none, eo_some, ec_none, ec_some, et_name, et_tup, et_tupl, et_sub, ets_nil, ets_cons, ei_seq, ei_rng1, ei_rng2, ei_zip, s_asg_, s_par_, s_ex_, s_ret_, s_retN_, s_ite_, ss_nil_, fin_rt, fin_nx, wipeD, lim, isK, testT, isNon, isAny, o_add, o_sub, o_mul, o_fdiv, o_mod, o_pow, o_addt, o_addl, o_mult, k_eq, k_ne, k_lt, k_le, k_gt, k_ge, k_isb, k_isn, k_isnn, k_eqb, k_eql, k_nel, k_in, k_nin, g_tup_, g_lst_, g_frz_, g_cel_, sl_tup_, sl_lst_, sl_frz_, sq_tup, sq_lst, zp_tup, n_lent, n_lenl, n_lenf, n_abs, n_int, n_intb, n_max, n_min, n_sum, n_tupl, n_tupt, n_tupc, n_all, n_any, n_gcd, n_isi, n_isit, y_int, y_bl, y_tup, y_lst, y_non, q_app, gt, at_0, hdv, x0]
      · simp [e_var, e_non, e_bl, e_int, e_str, e_ty, e_glob, e_op, e_neg, e_cmp, e_chn, e_bop, e_not, e_ife, e_tup, e_lst, e_ix, e_sl, e_cl, e_ck, e_bt, e_mt, eb_one, eb_cons, es_nil, es_cons, eo_none, eo_some, ec_none, ec_some, et_name, et_tup, et_tupl, et_sub, ets_nil, ets_cons, ei_seq, ei_rng1, ei_rng2, ei_zip, s_asg_, s_par_, s_ex_, s_ret_, s_retN_, s_ite_, ss_nil_, fin_rt, fin_nx, wipeD, lim, isK, testT, isNon, isAny, o_add, o_sub, o_mul, o_fdiv, o_mod, o_pow, o_addt, o_addl, o_mult, k_eq, k_ne, k_lt, k_le, k_gt, k_ge, k_isb, k_isn, k_isnn, k_eqb, k_eql, k_nel, k_in, k_nin, g_tup_, g_lst_, g_frz_, g_cel_, sl_tup_, sl_lst_, sl_frz_, sq_tup, sq_lst, zp_tup, n_lent, n_lenl, n_lenf, n_abs, n_int, n_intb, n_max, n_min, n_sum, n_tupl, n_tupt, n_tupc, n_all, n_any, n_gcd, n_isi, n_isit, y_int, y_bl, y_tup, y_lst, y_non, q_app, gt, at_0, h0]
  · have hmul1 : mulOk 15486209 (c + 1) = true := Sz.ok (i := 60) (j := 60) (by unfold Sz; decide) (by unfold Sz; omega) (by decide) (by decide) (by decide)
    have hp1 : (r + 15486209 * (c + 1) + 179425049).natAbs < 2 ^ 64 := by omega
    let mx : Int := (r + 15486209 * (c + 1) + 179425049) ^ 5 % 2147483647
    have m0 : 0 ≤ mx ∧ mx < 2147483647 := ⟨Int.emod_nonneg _ (by decide), Int.emod_lt_of_pos _ (by decide)⟩
    have hmul2 : mulOk mx 48271 = true := Sz.ok (i := 60) (j := 60) (by unfold Sz; omega) (by unfold Sz; decide) (by decide) (by decide) (by decide)
    have hmul3 : mulOk 104833 (c + 1) = true := Sz.ok (i := 60) (j := 60) (by unfold Sz; decide) (by unfold Sz; omega) (by decide) (by decide) (by decide)
    have hp2 : (mx * 48271 + 104833 * (c + 1)).natAbs < 2 ^ 64 := by omega
    have h64 : (0 : Int) < 64 ∧ (64 : Int).natAbs.log2 < 9000 := by decide
    refine ⟨(mx * 48271 + 104833 * (c + 1)) ^ 3 % 2147483587 / 64 % many, [.int a, .bl b, .int r, .int (c + 1)], ?_, ⟨Int.emod_nonneg _ (by omega), Int.emod_lt_of_pos _ h0⟩, _, _, _, _, rfl, r0, r1, by omega, by omega⟩
    rw [run_g (F := ⟨2, 4, b__law_take, false⟩) [some (.cel i), some (.int many), none, none] rfl rfl rfl rfl, b__law_take,
      ss_nx (σ' := [some (.cel i), some (.int many), none, none]) (h' := h.set i [.int a, .bl b, .int r, .int c]),
      ss_nx (σ' := [some (.cel i), some (.int many), none, none]) (h' := h.set i [.int a, .bl b, .int r, .int (c + 1)]),
      ss_nx (σ' := [some (.cel i), some (.int many), none, some (.int mx)]) (h' := h.set i [.int a, .bl b, .int r, .int (c + 1)]),
      ss_rt (h' := h.set i [.int a, .bl b, .int r, .int (c + 1)])]
    · exact fin_rt
    · generalize mx = mx at *
      have p3 : (0 : Int) ≤ 3 ∧ (3 : Int) ≤ 1000 := by decide
      have l64 : Nat.log2 64 < 9000 := by decide
      simp [e_var, e_non, e_bl, e_int, e_str, e_ty, e_glob, e_op, e_neg, e_cmp, e_chn, e_bop, e_not, e_ife, e_tup, e_lst, e_ix, e_sl, e_cl, e_ck, e_bt, e_mt, eb_one, eb_cons, es_nil, es_cons, eo_none, eo_some, ec_none, ec_some, et_name, et_tup, et_tupl, et_sub, ets_nil, ets_cons, ei_seq, ei_rng1, ei_rng2, ei_zip, s_asg_, s_par_, s_ex_, s_ret_, s_retN_, s_ite_, ss_nil_, fin_rt, fin_nx, wipeD, lim, isK, testT, isNon, isAny, o_add, o_sub, o_mul, o_fdiv, o_mod, o_pow, o_addt, o_addl, o_mult, k_eq, k_ne, k_lt, k_le, k_gt, k_ge, k_isb, k_isn, k_isnn, k_eqb, k_eql, k_nel, k_in, k_nin, g_tup_, g_lst_, g_frz_, g_cel_, sl_tup_, sl_lst_, sl_frz_, sq_tup, sq_lst, zp_tup, n_lent, n_lenl, n_lenf, n_abs, n_int, n_intb, n_max, n_min, n_sum, n_tupl, n_tupt, n_tupc, n_all, n_any, n_gcd, n_isi, n_isit, y_int, y_bl, y_tup, y_lst, y_non, q_app, List.getElem?_cons_zero, List.getElem?_cons_succ, List.getElem?_nil, List.set_cons_zero, List.set_cons_succ, Option.bind_some, Option.map_some, Option.bind_none, List.length_cons, List.length_nil, Bool.false_eq_true, if_true, if_false, List.nil_append, List.cons_append, gt, at_3, hmul2, hmul3, hp2, h0, l64]
    · have p3 : (0 : Int) ≤ 5 ∧ (5 : Int) ≤ 1000 := by decide
      simp [e_var, e_non, e_bl, e_int, e_str, e_ty, e_glob, e_op, e_neg, e_cmp, e_chn, e_bop, e_not, e_ife, e_tup, e_lst, e_ix, e_sl, e_cl, e_ck, e_bt, e_mt, eb_one, eb_cons, es_nil, es_cons, eo_none, eo_some, ec_none, ec_some, et_name, et_tup, et_tupl, et_sub, ets_nil, ets_cons, ei_seq, ei_rng1, ei_rng2, ei_zip, s_asg_, s_par_, s_ex_, s_ret_, s_retN_, s_ite_, ss_nil_, fin_rt, fin_nx, wipeD, lim, isK, testT, isNon, isAny, o_add, o_sub, o_mul, o_fdiv, o_mod, o_pow, o_addt, o_addl, o_mult, k_eq, k_ne, k_lt, k_le, k_gt, k_ge, k_isb, k_isn, k_isnn, k_eqb, k_eql, k_nel, k_in, k_nin, g_tup_, g_lst_, g_frz_, g_cel_, sl_tup_, sl_lst_, sl_frz_, sq_tup, sq_lst, zp_tup, n_lent, n_lenl, n_lenf, n_abs, n_int, n_intb, n_max, n_min, n_sum, n_tupl, n_tupt, n_tupc, n_all, n_any, n_gcd, n_isi, n_isit, y_int, y_bl, y_tup, y_lst, y_non, q_app, List.getElem?_cons_zero, List.getElem?_cons_succ, List.getElem?_nil, List.set_cons_zero, List.set_cons_succ, Option.bind_some, Option.map_some, Option.bind_none, List.length_cons, List.length_nil, Bool.false_eq_true, if_true, if_false, List.nil_append, List.cons_append, gt, at_2, at_3, hmul1, hp1]
      rfl
    · simp [e_var, e_non, e_bl, e_int, e_str, e_ty, e_glob, e_op, e_neg, e_cmp, e_chn, e_bop, e_not, e_ife, e_tup, e_lst, e_ix, e_sl, e_cl, e_ck, e_bt, e_mt, eb_one, eb_cons, es_nil, es_cons, eo_none, eo_some, ec_none, ec_some, et_name, et_tup, et_tupl, et_sub, ets_nil, ets_cons, ei_seq, ei_rng1, ei_rng2, ei_zip, s_asg_, s_par_, s_ex_, s_ret_, s_retN_, s_ite_, ss_nil_, fin_rt, fin_nx, wipeD, lim, isK, testT, isNon, isAny, o_add, o_sub, o_mul, o_fdiv, o_mod, o_pow, o_addt, o_addl, o_mult, k_eq, k_ne, k_lt, k_le, k_gt, k_ge, k_isb, k_isn, k_isnn, k_eqb, k_eql, k_nel, k_in, k_nin, g_tup_, g_lst_, g_frz_, g_cel_, sl_tup_, sl_lst_, sl_frz_, sq_tup, sq_lst, zp_tup, n_lent, n_lenl, n_lenf, n_abs, n_int, n_intb, n_max, n_min, n_sum, n_tupl, n_tupt, n_tupc, n_all, n_any, n_gcd, n_isi, n_isit, y_int, y_bl, y_tup, y_lst, y_non, q_app, List.getElem?_cons_zero, List.getElem?_cons_succ, List.getElem?_nil, List.set_cons_zero, List.set_cons_succ, Option.bind_some, Option.map_some, Option.bind_none, List.length_cons, List.length_nil, Bool.false_eq_true, if_true, if_false, List.nil_append, List.cons_append, gt, at_3, x3]
    · cases b with
      | false => simp [e_var, e_non, e_bl, e_int, e_str, e_ty, e_glob, e_op, e_neg, e_cmp, e_chn, e_bop, e_not, e_ife, e_tup, e_lst, e_ix, e_sl, e_cl, e_ck, e_bt, e_mt, eb_one, eb_cons, es_nil, es_cons, eo_none, eo_some, ec_none, ec_some, et_name, et_tup, et_tupl, et_sub, ets_nil, ets_cons, ei_seq, ei_rng1, ei_rng2, ei_zip, s_asg_, s_par_, s_ex_, s_ret_, s_retN_, s_ite_, ss_nil_, fin_rt, fin_nx, wipeD, lim, isK, testT, isNon, isAny, o_add, o_sub, o_mul, o_fdiv, o_mod, o_pow, o_addt, o_addl, o_mult, k_eq, k_ne, k_lt, k_le, k_gt, k_ge, k_isb, k_isn, k_isnn, k_eqb, k_eql, k_nel, k_in, k_nin, g_tup_, g_lst_, g_frz_, g_cel_, sl_tup_, sl_lst_, sl_frz_, sq_tup, sq_lst, zp_tup, n_lent, n_lenl, n_lenf, n_abs, n_int, n_intb, n_max, n_min, n_sum, n_tupl, n_tupt, n_tupc, n_all, n_any, n_gcd, n_isi, n_isit, y_int, y_bl, y_tup, y_lst, y_non, q_app, List.getElem?_cons_zero, List.getElem?_cons_succ, List.getElem?_nil, List.set_cons_zero, List.set_cons_succ, Option.bind_some, Option.map_some, Option.bind_none, List.length_cons, List.length_nil, Bool.false_eq_true, if_true, if_false, List.nil_append, List.cons_append, gt, at_1]
      | true =>
        have ha : ¬ 0 < a := fun q => hc ⟨rfl, q⟩
        simp [e_var, e_non, e_bl, e_int, e_str, e_ty, e_glob, e_op, e_neg, e_cmp, e_chn, e_bop, e_not, e_ife, e_tup, e_lst, e_ix, e_sl, e_cl, e_ck, e_bt, e_mt, eb_one, eb_cons, es_nil, es_cons, eo_none, eo_some, ec_none, ec_some, et_name, et_tup, et_tupl, et_sub, ets_nil, ets_cons, ei_seq, ei_rng1, ei_rng2, ei_zip, s_asg_, s_par_, s_ex_, s_ret_, s_retN_, s_ite_, ss_nil_, fin_rt, fin_nx, wipeD, lim, isK, testT, isNon, isAny, o_add, o_sub, o_mul, o_fdiv, o_mod, o_pow, o_addt, o_addl, o_mult, k_eq, k_ne, k_lt, k_le, k_gt, k_ge, k_isb, k_isn, k_isnn, k_eqb, k_eql, k_nel, k_in, k_nin, g_tup_, g_lst_, g_frz_, g_cel_, sl_tup_, sl_lst_, sl_frz_, sq_tup, sq_lst, zp_tup, n_lent, n_lenl, n_lenf, n_abs, n_int, n_intb, n_max, n_min, n_sum, n_tupl, n_tupt, n_tupc, n_all, n_any, n_gcd, n_isi, n_isit, y_int, y_bl, y_tup, y_lst, y_non, q_app, List.getElem?_cons_zero, List.getElem?_cons_succ, List.getElem?_nil, List.set_cons_zero, List.set_cons_succ, Option.bind_some, Option.map_some, Option.bind_none, List.length_cons, List.length_nil, Bool.false_eq_true, if_true, if_false, List.nil_append, List.cons_append, gt, at_1, at_0, ha]
end K03

set_option Elab.async false
set_option linter.all false
set_option maxRecDepth 100000
set_option maxHeartbeats 1000000
/-! k03: the law's own numbers: what they share, fractions, points. -/
namespace K03
open PySem L2 Py
theorem l_euclid (cl : Nat → List D → Hs → Option (D × Hs)) (x0 x1 x2 : Option D) (h : Hs) : ∀ (b a n : Nat), b < n →
    loopW (fun σ h => evC cl gl (.some (.cmp .gt (.var 4) (.int 0))) σ h) (fun σ h => evSs cl gl (.cons (.par 3 4 (.var 4) (.op .mod (.bt .int (.cons (.var 3) .nil)) (.var 4))) .nil) σ h) n [x0, x1, x2, some (.int (a : Int)), some (.int (b : Int))] h =
    some (.nx [x0, x1, x2, some (.int (Nat.gcd a b : Nat)), some (.int 0)] h) := by
  intro b
  induction b using Nat.strongRecOn with
  | ind b ih =>
    intro a n hn
    obtain ⟨n, rfl⟩ : ∃ k, n = k + 1 := ⟨n - 1, by omega⟩
    by_cases hb : b = 0
    · subst hb
      rw [lw_end (h1 := h) (by simp [e_var, e_non, e_bl, e_int, e_str, e_ty, e_glob, e_op, e_neg, e_cmp, e_chn, e_bop, e_not, e_ife, e_tup, e_lst, e_ix, e_sl, e_cl, e_ck, e_bt, e_mt, eb_one, eb_cons, es_nil, es_cons, eo_none, eo_some, ec_none, ec_some, et_name, et_tup, et_tupl, et_sub, ets_nil, ets_cons, ei_seq, ei_rng1, ei_rng2, ei_zip, s_asg_, s_par_, s_ex_, s_ret_, s_retN_, s_ite_, ss_nil_, fin_rt, fin_nx, wipeD, lim, isK, testT, isNon, isAny, o_add, o_sub, o_mul, o_fdiv, o_mod, o_pow, o_addt, o_addl, o_mult, k_eq, k_ne, k_lt, k_le, k_gt, k_ge, k_isb, k_isn, k_isnn, k_eqb, k_eql, k_nel, k_in, k_nin, g_tup_, g_lst_, g_frz_, g_cel_, sl_tup_, sl_lst_, sl_frz_, sq_tup, sq_lst, zp_tup, n_lent, n_lenl, n_lenf, n_abs, n_int, n_intb, n_max, n_min, n_sum, n_tupl, n_tupt, n_tupc, n_all, n_any, n_gcd, n_isi, n_isit, y_int, y_bl, y_tup, y_lst, y_non, q_app]), Nat.gcd_zero_right]
      rfl
    · have hp : (0 : Int) < b := by omega
      have hp' : 0 < b := by omega
      have hlt := Nat.mod_lt a hp'
      have := ih (a % b) hlt b n (by omega)
      rw [lw_go (h1 := h) (h2 := h) (σ' := [x0, x1, x2, some (.int (b : Int)), some (.int ((a % b : Nat) : Int))]) (by simp [e_var, e_non, e_bl, e_int, e_str, e_ty, e_glob, e_op, e_neg, e_cmp, e_chn, e_bop, e_not, e_ife, e_tup, e_lst, e_ix, e_sl, e_cl, e_ck, e_bt, e_mt, eb_one, eb_cons, es_nil, es_cons, eo_none, eo_some, ec_none, ec_some, et_name, et_tup, et_tupl, et_sub, ets_nil, ets_cons, ei_seq, ei_rng1, ei_rng2, ei_zip, s_asg_, s_par_, s_ex_, s_ret_, s_retN_, s_ite_, ss_nil_, fin_rt, fin_nx, wipeD, lim, isK, testT, isNon, isAny, o_add, o_sub, o_mul, o_fdiv, o_mod, o_pow, o_addt, o_addl, o_mult, k_eq, k_ne, k_lt, k_le, k_gt, k_ge, k_isb, k_isn, k_isnn, k_eqb, k_eql, k_nel, k_in, k_nin, g_tup_, g_lst_, g_frz_, g_cel_, sl_tup_, sl_lst_, sl_frz_, sq_tup, sq_lst, zp_tup, n_lent, n_lenl, n_lenf, n_abs, n_int, n_intb, n_max, n_min, n_sum, n_tupl, n_tupt, n_tupc, n_all, n_any, n_gcd, n_isi, n_isit, y_int, y_bl, y_tup, y_lst, y_non, q_app, hp']) (by
        rw [ss_nx (σ' := [x0, x1, x2, some (.int (b : Int)), some (.int ((a % b : Nat) : Int))]) (h' := h), ss_nil_]
        simp [e_var, e_non, e_bl, e_int, e_str, e_ty, e_glob, e_op, e_neg, e_cmp, e_chn, e_bop, e_not, e_ife, e_tup, e_lst, e_ix, e_sl, e_cl, e_ck, e_bt, e_mt, eb_one, eb_cons, es_nil, es_cons, eo_none, eo_some, ec_none, ec_some, et_name, et_tup, et_tupl, et_sub, ets_nil, ets_cons, ei_seq, ei_rng1, ei_rng2, ei_zip, s_asg_, s_par_, s_ex_, s_ret_, s_retN_, s_ite_, ss_nil_, fin_rt, fin_nx, wipeD, lim, isK, testT, isNon, isAny, o_add, o_sub, o_mul, o_fdiv, o_mod, o_pow, o_addt, o_addl, o_mult, k_eq, k_ne, k_lt, k_le, k_gt, k_ge, k_isb, k_isn, k_isnn, k_eqb, k_eql, k_nel, k_in, k_nin, g_tup_, g_lst_, g_frz_, g_cel_, sl_tup_, sl_lst_, sl_frz_, sq_tup, sq_lst, zp_tup, n_lent, n_lenl, n_lenf, n_abs, n_int, n_intb, n_max, n_min, n_sum, n_tupl, n_tupt, n_tupc, n_all, n_any, n_gcd, n_isi, n_isit, y_int, y_bl, y_tup, y_lst, y_non, q_app, hp']), this]
      have : Nat.gcd b (a % b) = Nat.gcd a b := by rw [Nat.gcd_comm, ← Nat.gcd_rec, Nat.gcd_comm]
      rw [this]
theorem wf_big {k : Nat} {x : Nat} (hx : x < 2 ^ k) (hk : k ≤ 9000) : x < WF := by
  unfold WF
  exact Nat.lt_of_lt_of_le hx (Nat.pow_le_pow_right (by decide) (by omega))
theorem l_factor (cl : Nat → List D → Hs → Option (D × Hs)) (s0 : D) (all : List D) (src : Option Nat) (h : Hs) (hs : ∀ c, src = some c → h[c]? = some all) {k : Nat} (hk : k ≤ 9000) : ∀ (xs : List Int) (a : Nat) (v u w : Option D), (∀ x ∈ xs, Sz x k) → ∃ v' u' w', loopF (fun d σ h => evTg cl gl (.name 2) d σ h) (fun σ h => evSs cl gl (.cons (.par 3 4 (.var 1) (.bt .abs (.cons (.var 2) .nil))) (.cons (.whl (.cmp .gt (.var 4) (.int 0)) (.cons (.par 3 4 (.var 4) (.op .mod (.bt .int (.cons (.var 3) .nil)) (.var 4))) .nil)) (.cons (.asg (.name 1) (.var 3)) .nil))) σ h) src all (xs.map D.int) [some s0, some (.int (a : Int)), v, u, w] h =
    some (.nx [some s0, some (.int (gcdF a xs : Nat)), v', u', w'] h)
  | [], a, v, u, w, _ => ⟨v, u, w, ls_nil hs⟩
  | x :: xs, a, v, u, w, hx => by
    obtain ⟨v', u', w', ih⟩ := l_factor cl s0 all src h hs hk xs (Nat.gcd a x.natAbs) (some (.int x)) (some (.int (Nat.gcd a x.natAbs : Nat))) (some (.int 0)) fun y hy => hx y (List.mem_cons_of_mem _ hy)
    refine ⟨v', u', w', ?_⟩
    have e : (if x < 0 then -x else x) = (x.natAbs : Int) := by omega
    have he := l_euclid cl (some s0) (some (.int (a : Int))) (some (.int x)) h x.natAbs a WF (wf_big (hx x List.mem_cons_self) hk)
    rw [List.map_cons, ls_cons hs et_name (σ2 := [some s0, some (.int (Nat.gcd a x.natAbs : Nat)), some (.int x), some (.int (Nat.gcd a x.natAbs : Nat)), some (.int 0)]) (h2 := h), ih]
    · rfl
    · rw [ss_nx (σ' := [some s0, some (.int (a : Int)), some (.int x), some (.int (a : Int)), some (.int (x.natAbs : Int))]) (h' := h), ss_nx (σ' := [some s0, some (.int (a : Int)), some (.int x), some (.int (Nat.gcd a x.natAbs : Nat)), some (.int 0)]) (h' := h), ss_nx (σ' := [some s0, some (.int (Nat.gcd a x.natAbs : Nat)), some (.int x), some (.int (Nat.gcd a x.natAbs : Nat)), some (.int 0)]) (h' := h), ss_nil_]
      · simp [e_var, e_non, e_bl, e_int, e_str, e_ty, e_glob, e_op, e_neg, e_cmp, e_chn, e_bop, e_not, e_ife, e_tup, e_lst, e_ix, e_sl, e_cl, e_ck, e_bt, e_mt, eb_one, eb_cons, es_nil, es_cons, eo_none, eo_some, ec_none, ec_some, et_name, et_tup, et_tupl, et_sub, ets_nil, ets_cons, ei_seq, ei_rng1, ei_rng2, ei_zip, s_asg_, s_par_, s_ex_, s_ret_, s_retN_, s_ite_, ss_nil_, fin_rt, fin_nx, wipeD, lim, isK, testT, isNon, isAny, o_add, o_sub, o_mul, o_fdiv, o_mod, o_pow, o_addt, o_addl, o_mult, k_eq, k_ne, k_lt, k_le, k_gt, k_ge, k_isb, k_isn, k_isnn, k_eqb, k_eql, k_nel, k_in, k_nin, g_tup_, g_lst_, g_frz_, g_cel_, sl_tup_, sl_lst_, sl_frz_, sq_tup, sq_lst, zp_tup, n_lent, n_lenl, n_lenf, n_abs, n_int, n_intb, n_max, n_min, n_sum, n_tupl, n_tupt, n_tupc, n_all, n_any, n_gcd, n_isi, n_isit, y_int, y_bl, y_tup, y_lst, y_non, q_app]
      · rw [s_whl_]; exact he
      · simp only [e_var, e_non, e_bl, e_int, e_str, e_ty, e_glob, e_op, e_neg, e_cmp, e_chn, e_bop, e_not, e_ife, e_tup, e_lst, e_ix, e_sl, e_cl, e_ck, e_bt, e_mt, eb_one, eb_cons, es_nil, es_cons, eo_none, eo_some, ec_none, ec_some, et_name, et_tup, et_tupl, et_sub, ets_nil, ets_cons, ei_seq, ei_rng1, ei_rng2, ei_zip, s_asg_, s_par_, s_ex_, s_ret_, s_retN_, s_ite_, ss_nil_, fin_rt, fin_nx, wipeD, lim, isK, testT, isNon, isAny, o_add, o_sub, o_mul, o_fdiv, o_mod, o_pow, o_addt, o_addl, o_mult, k_eq, k_ne, k_lt, k_le, k_gt, k_ge, k_isb, k_isn, k_isnn, k_eqb, k_eql, k_nel, k_in, k_nin, g_tup_, g_lst_, g_frz_, g_cel_, sl_tup_, sl_lst_, sl_frz_, sq_tup, sq_lst, zp_tup, n_lent, n_lenl, n_lenf, n_abs, n_int, n_intb, n_max, n_min, n_sum, n_tupl, n_tupt, n_tupc, n_all, n_any, n_gcd, n_isi, n_isit, y_int, y_bl, y_tup, y_lst, y_non, q_app, List.getElem?_cons_zero, List.getElem?_cons_succ, List.getElem?_nil, List.set_cons_zero, List.set_cons_succ, Option.bind_some, Option.map_some, Option.bind_none, List.length_cons, List.length_nil, Bool.false_eq_true, if_true, if_false, List.nil_append, List.cons_append, e]
theorem r_factor (d : D) (xs : List Int) (src : Option Nat) (h : Hs) (hd : seqI h d = some (xs.map D.int, src)) (hs : ∀ c, src = some c → h[c]? = some (xs.map D.int)) {k : Nat} (hk : k ≤ 9000) (hx : ∀ x ∈ xs, Sz x k) (m : Nat) (hm : 1 ≤ m) : evF FT gl m f__law_factor [d] h = some (.int (gcdL xs : Nat), h) := by
  obtain ⟨n, rfl, hn⟩ := lv hm
  obtain ⟨v', u', w', hl⟩ := l_factor (evF FT gl n) d (xs.map D.int) src h hs hk xs 0 none none none hx
  have hi : evIt (evF FT gl n) gl (.seq (.var 0)) [some d, some (.int 0), none, none, none] h = some ⟨xs.map D.int, src, h⟩ := by
    simp [e_var, e_non, e_bl, e_int, e_str, e_ty, e_glob, e_op, e_neg, e_cmp, e_chn, e_bop, e_not, e_ife, e_tup, e_lst, e_ix, e_sl, e_cl, e_ck, e_bt, e_mt, eb_one, eb_cons, es_nil, es_cons, eo_none, eo_some, ec_none, ec_some, et_name, et_tup, et_tupl, et_sub, ets_nil, ets_cons, ei_seq, ei_rng1, ei_rng2, ei_zip, s_asg_, s_par_, s_ex_, s_ret_, s_retN_, s_ite_, ss_nil_, fin_rt, fin_nx, wipeD, lim, isK, testT, isNon, isAny, o_add, o_sub, o_mul, o_fdiv, o_mod, o_pow, o_addt, o_addl, o_mult, k_eq, k_ne, k_lt, k_le, k_gt, k_ge, k_isb, k_isn, k_isnn, k_eqb, k_eql, k_nel, k_in, k_nin, g_tup_, g_lst_, g_frz_, g_cel_, sl_tup_, sl_lst_, sl_frz_, sq_tup, sq_lst, zp_tup, n_lent, n_lenl, n_lenf, n_abs, n_int, n_intb, n_max, n_min, n_sum, n_tupl, n_tupt, n_tupc, n_all, n_any, n_gcd, n_isi, n_isit, y_int, y_bl, y_tup, y_lst, y_non, q_app, hd]
  rw [run_f (F := ⟨1, 5, b__law_factor, false⟩) rfl rfl rfl, b__law_factor, ss_nx (σ' := [some d, some (.int 0), none, none, none]) (h' := h), ss_nx (σ' := [some d, some (.int (gcdL xs : Nat)), v', u', w']) (h' := h), ss_rt (d := .int (gcdL xs : Nat)) (h' := h)]
  · exact fin_rt
  · simp [e_var, e_non, e_bl, e_int, e_str, e_ty, e_glob, e_op, e_neg, e_cmp, e_chn, e_bop, e_not, e_ife, e_tup, e_lst, e_ix, e_sl, e_cl, e_ck, e_bt, e_mt, eb_one, eb_cons, es_nil, es_cons, eo_none, eo_some, ec_none, ec_some, et_name, et_tup, et_tupl, et_sub, ets_nil, ets_cons, ei_seq, ei_rng1, ei_rng2, ei_zip, s_asg_, s_par_, s_ex_, s_ret_, s_retN_, s_ite_, ss_nil_, fin_rt, fin_nx, wipeD, lim, isK, testT, isNon, isAny, o_add, o_sub, o_mul, o_fdiv, o_mod, o_pow, o_addt, o_addl, o_mult, k_eq, k_ne, k_lt, k_le, k_gt, k_ge, k_isb, k_isn, k_isnn, k_eqb, k_eql, k_nel, k_in, k_nin, g_tup_, g_lst_, g_frz_, g_cel_, sl_tup_, sl_lst_, sl_frz_, sq_tup, sq_lst, zp_tup, n_lent, n_lenl, n_lenf, n_abs, n_int, n_intb, n_max, n_min, n_sum, n_tupl, n_tupt, n_tupc, n_all, n_any, n_gcd, n_isi, n_isit, y_int, y_bl, y_tup, y_lst, y_non, q_app]
  · rw [s_for_, hi, Option.bind_some]; exact hl
  · simp [e_var, e_non, e_bl, e_int, e_str, e_ty, e_glob, e_op, e_neg, e_cmp, e_chn, e_bop, e_not, e_ife, e_tup, e_lst, e_ix, e_sl, e_cl, e_ck, e_bt, e_mt, eb_one, eb_cons, es_nil, es_cons, eo_none, eo_some, ec_none, ec_some, et_name, et_tup, et_tupl, et_sub, ets_nil, ets_cons, ei_seq, ei_rng1, ei_rng2, ei_zip, s_asg_, s_par_, s_ex_, s_ret_, s_retN_, s_ite_, ss_nil_, fin_rt, fin_nx, wipeD, lim, isK, testT, isNon, isAny, o_add, o_sub, o_mul, o_fdiv, o_mod, o_pow, o_addt, o_addl, o_mult, k_eq, k_ne, k_lt, k_le, k_gt, k_ge, k_isb, k_isn, k_isnn, k_eqb, k_eql, k_nel, k_in, k_nin, g_tup_, g_lst_, g_frz_, g_cel_, sl_tup_, sl_lst_, sl_frz_, sq_tup, sq_lst, zp_tup, n_lent, n_lenl, n_lenf, n_abs, n_int, n_intb, n_max, n_min, n_sum, n_tupl, n_tupt, n_tupc, n_all, n_any, n_gcd, n_isi, n_isit, y_int, y_bl, y_tup, y_lst, y_non, q_app]
theorem r_lside (d : D) (as : List Int) (c : Int) (src : Option Nat) (h : Hs) (hd : seqI h d = some ((as ++ [c]).map D.int, src)) (hsr : ∀ e, src = some e → h[e]? = some ((as ++ [c]).map D.int)) {k : Nat} (hl : as.length = 2 ∨ as.length = 3) (ha : (as.any fun x => !decide (x = 0)) = true) (hs : ∀ a ∈ as, Sz a k) (hc : Sz c k) (h0 : 0 < k) (hk : k ≤ 9000) (m : Nat) (hm : 2 ≤ m) :
    evF FT gl m f__law_side [d] h = some (P (as.map (· / (gcdL (as ++ [c]) : Int))) (c / (gcdL (as ++ [c]) : Int)), h) := by
  obtain ⟨n, rfl, hn⟩ := lv hm
  obtain ⟨g1, g2, _⟩ := sd_div hl ha hs hc
  have g4 := g2.div_ok (by omega) h0 hk
  have h1 := r_factor d (as ++ [c]) src h hd hsr hk (by
    intro x hx
    rcases List.mem_append.mp hx with hx | hx
    · exact hs x hx
    · rw [List.mem_singleton.mp hx]; exact hc) n (by omega)
  have hcp := cp_ofs (cl := evF FT gl n) (gl := gl) (σ := [some d, some (.int (gcdL (as ++ [c]) : Nat)), none]) (h := h) (ce := .op .fdiv (.var 2) (.var 1)) (t := .name 2) (own := [2]) (it := .seq (.var 0)) (src := src) (xs := as ++ [c]) (mk := D.int) (f := fun x => .int (x / (gcdL (as ++ [c]) : Nat))) (by simp only [e_var, e_non, e_bl, e_int, e_str, e_ty, e_glob, e_op, e_neg, e_cmp, e_chn, e_bop, e_not, e_ife, e_tup, e_lst, e_ix, e_sl, e_cl, e_ck, e_bt, e_mt, eb_one, eb_cons, es_nil, es_cons, eo_none, eo_some, ec_none, ec_some, et_name, et_tup, et_tupl, et_sub, ets_nil, ets_cons, ei_seq, ei_rng1, ei_rng2, ei_zip, s_asg_, s_par_, s_ex_, s_ret_, s_retN_, s_ite_, ss_nil_, fin_rt, fin_nx, wipeD, lim, isK, testT, isNon, isAny, o_add, o_sub, o_mul, o_fdiv, o_mod, o_pow, o_addt, o_addl, o_mult, k_eq, k_ne, k_lt, k_le, k_gt, k_ge, k_isb, k_isn, k_isnn, k_eqb, k_eql, k_nel, k_in, k_nin, g_tup_, g_lst_, g_frz_, g_cel_, sl_tup_, sl_lst_, sl_frz_, sq_tup, sq_lst, zp_tup, n_lent, n_lenl, n_lenf, n_abs, n_int, n_intb, n_max, n_min, n_sum, n_tupl, n_tupt, n_tupc, n_all, n_any, n_gcd, n_isi, n_isit, y_int, y_bl, y_tup, y_lst, y_non, q_app, List.getElem?_cons_zero, List.getElem?_cons_succ, List.getElem?_nil, List.set_cons_zero, List.set_cons_succ, Option.bind_some, Option.map_some, Option.bind_none, List.length_cons, List.length_nil, Bool.false_eq_true, if_true, if_false, List.nil_append, List.cons_append, hd]) hsr (by simp [lim]; omega) (by
      intro x hx
      refine ⟨[some d, some (.int (gcdL (as ++ [c]) : Nat)), some (.int x)], by simp [e_var, e_non, e_bl, e_int, e_str, e_ty, e_glob, e_op, e_neg, e_cmp, e_chn, e_bop, e_not, e_ife, e_tup, e_lst, e_ix, e_sl, e_cl, e_ck, e_bt, e_mt, eb_one, eb_cons, es_nil, es_cons, eo_none, eo_some, ec_none, ec_some, et_name, et_tup, et_tupl, et_sub, ets_nil, ets_cons, ei_seq, ei_rng1, ei_rng2, ei_zip, s_asg_, s_par_, s_ex_, s_ret_, s_retN_, s_ite_, ss_nil_, fin_rt, fin_nx, wipeD, lim, isK, testT, isNon, isAny, o_add, o_sub, o_mul, o_fdiv, o_mod, o_pow, o_addt, o_addl, o_mult, k_eq, k_ne, k_lt, k_le, k_gt, k_ge, k_isb, k_isn, k_isnn, k_eqb, k_eql, k_nel, k_in, k_nin, g_tup_, g_lst_, g_frz_, g_cel_, sl_tup_, sl_lst_, sl_frz_, sq_tup, sq_lst, zp_tup, n_lent, n_lenl, n_lenf, n_abs, n_int, n_intb, n_max, n_min, n_sum, n_tupl, n_tupt, n_tupc, n_all, n_any, n_gcd, n_isi, n_isit, y_int, y_bl, y_tup, y_lst, y_non, q_app], ?_⟩
      generalize ((gcdL (as ++ [c]) : Nat) : Int) = g at g4 ⊢
      simp [e_var, e_non, e_bl, e_int, e_str, e_ty, e_glob, e_op, e_neg, e_cmp, e_chn, e_bop, e_not, e_ife, e_tup, e_lst, e_ix, e_sl, e_cl, e_ck, e_bt, e_mt, eb_one, eb_cons, es_nil, es_cons, eo_none, eo_some, ec_none, ec_some, et_name, et_tup, et_tupl, et_sub, ets_nil, ets_cons, ei_seq, ei_rng1, ei_rng2, ei_zip, s_asg_, s_par_, s_ex_, s_ret_, s_retN_, s_ite_, ss_nil_, fin_rt, fin_nx, wipeD, lim, isK, testT, isNon, isAny, o_add, o_sub, o_mul, o_fdiv, o_mod, o_pow, o_addt, o_addl, o_mult, k_eq, k_ne, k_lt, k_le, k_gt, k_ge, k_isb, k_isn, k_isnn, k_eqb, k_eql, k_nel, k_in, k_nin, g_tup_, g_lst_, g_frz_, g_cel_, sl_tup_, sl_lst_, sl_frz_, sq_tup, sq_lst, zp_tup, n_lent, n_lenl, n_lenf, n_abs, n_int, n_intb, n_max, n_min, n_sum, n_tupl, n_tupt, n_tupc, n_all, n_any, n_gcd, n_isi, n_isit, y_int, y_bl, y_tup, y_lst, y_non, q_app, g4])
  rw [run_g (F := ⟨1, 3, b__law_side, false⟩) [some d, none, none] rfl rfl rfl rfl, b__law_side, ss_nx (σ' := [some d, some (.int (gcdL (as ++ [c]) : Nat)), none]) (h' := h), ss_rt (h' := h)]
  · exact fin_rt
  · simp only [s_ret_, e_bt, es_cons, es_nil, hcp, Option.bind_some, Option.map_some, n_tupl]
    simp [P_eq]
  · simp [e_var, e_non, e_bl, e_int, e_str, e_ty, e_glob, e_op, e_neg, e_cmp, e_chn, e_bop, e_not, e_ife, e_tup, e_lst, e_ix, e_sl, e_cl, e_ck, e_bt, e_mt, eb_one, eb_cons, es_nil, es_cons, eo_none, eo_some, ec_none, ec_some, et_name, et_tup, et_tupl, et_sub, ets_nil, ets_cons, ei_seq, ei_rng1, ei_rng2, ei_zip, s_asg_, s_par_, s_ex_, s_ret_, s_retN_, s_ite_, ss_nil_, fin_rt, fin_nx, wipeD, lim, isK, testT, isNon, isAny, o_add, o_sub, o_mul, o_fdiv, o_mod, o_pow, o_addt, o_addl, o_mult, k_eq, k_ne, k_lt, k_le, k_gt, k_ge, k_isb, k_isn, k_isnn, k_eqb, k_eql, k_nel, k_in, k_nin, g_tup_, g_lst_, g_frz_, g_cel_, sl_tup_, sl_lst_, sl_frz_, sq_tup, sq_lst, zp_tup, n_lent, n_lenl, n_lenf, n_abs, n_int, n_intb, n_max, n_min, n_sum, n_tupl, n_tupt, n_tupc, n_all, n_any, n_gcd, n_isi, n_isit, y_int, y_bl, y_tup, y_lst, y_non, q_app, h1]
theorem r_lpoint (ns : List Int) (w : Int) {k : Nat} (hl : ns.length ≤ 10) (hw : 0 < w) (hs : ∀ n ∈ ns, Sz n k) (hs' : Sz w k) (h0 : 0 < k) (hk : k ≤ 9000) (h : Hs) (m : Nat) (hm : 2 ≤ m) :
    evF FT gl m f__law_point [.lst (ns.map D.int ++ [.int w])] h = some (pt (ov w ns), h) ∧ Ok (ov w ns) k := by
  have hi := is_div hw hs hs'
  refine ⟨?_, hi.ok⟩
  rw [← hi.eq]
  obtain ⟨n, rfl, hn⟩ := lv hm
  have e : ns.map D.int ++ [.int w] = (ns ++ [w]).map D.int := by simp
  have hsx : ∀ x ∈ ns ++ [w], Sz x k := by
    intro x hx
    rcases List.mem_append.mp hx with hx | hx
    · exact hs x hx
    · rw [List.mem_singleton.mp hx]; exact hs'
  have h1 := r_factor (.lst ((ns ++ [w]).map D.int)) (ns ++ [w]) none h rfl (by simp) hk hsx n (by omega)
  have hmem : w ∈ ns ++ [w] := by simp
  have g1 := gcdL_pos hmem (by omega)
  have g2 := gcdL_le hmem (by omega)
  have g3 : Sz (gcdL (ns ++ [w]) : Int) k := by unfold Sz at *; simp only [Int.natAbs_natCast]; omega
  have g4 := g3.div_ok (by omega) h0 hk
  have g5 : mulOk (gcdL (ns ++ [w]) : Int) 1 = true := Sz.ok (j := 1) g3 (by unfold Sz; decide) h0 (by decide) (by omega)
  have hlast : L2.atI ((ns ++ [w]).map D.int) (-1) = some (.int w) := by rw [← e]; exact at_last _ _
  rw [e]
  rw [run_g (F := ⟨1, 3, b__law_point, false⟩) [some (.lst ((ns ++ [w]).map D.int)), none, none] rfl rfl rfl rfl, b__law_point, ss_nx (σ' := [some (.lst ((ns ++ [w]).map D.int)), some (.int (gcdL (ns ++ [w]) : Nat)), none]) (h' := h), ss_rt (h' := h)]
  · exact fin_rt
  · have hc := cp_ints (cl := evF FT gl n) (gl := gl) (σ := [some (.lst ((ns ++ [w]).map D.int)), some (.int (gcdL (ns ++ [w]) : Nat)), none]) (h := h) (ce := .op .fdiv (.var 2) (.var 1)) (it := .seq (.var 0)) (i := 2) (ns := ns ++ [w]) (fun x => .int (x / (gcdL (ns ++ [w]) : Nat))) (by simp only [e_var, e_non, e_bl, e_int, e_str, e_ty, e_glob, e_op, e_neg, e_cmp, e_chn, e_bop, e_not, e_ife, e_tup, e_lst, e_ix, e_sl, e_cl, e_ck, e_bt, e_mt, eb_one, eb_cons, es_nil, es_cons, eo_none, eo_some, ec_none, ec_some, et_name, et_tup, et_tupl, et_sub, ets_nil, ets_cons, ei_seq, ei_rng1, ei_rng2, ei_zip, s_asg_, s_par_, s_ex_, s_ret_, s_retN_, s_ite_, ss_nil_, fin_rt, fin_nx, wipeD, lim, isK, testT, isNon, isAny, o_add, o_sub, o_mul, o_fdiv, o_mod, o_pow, o_addt, o_addl, o_mult, k_eq, k_ne, k_lt, k_le, k_gt, k_ge, k_isb, k_isn, k_isnn, k_eqb, k_eql, k_nel, k_in, k_nin, g_tup_, g_lst_, g_frz_, g_cel_, sl_tup_, sl_lst_, sl_frz_, sq_tup, sq_lst, zp_tup, n_lent, n_lenl, n_lenf, n_abs, n_int, n_intb, n_max, n_min, n_sum, n_tupl, n_tupt, n_tupc, n_all, n_any, n_gcd, n_isi, n_isit, y_int, y_bl, y_tup, y_lst, y_non, q_app]; rfl) (by simp [lim]; omega) (by
      intro x hx
      generalize ((gcdL (ns ++ [w]) : Nat) : Int) = g at g4 ⊢
      simp [e_var, e_non, e_bl, e_int, e_str, e_ty, e_glob, e_op, e_neg, e_cmp, e_chn, e_bop, e_not, e_ife, e_tup, e_lst, e_ix, e_sl, e_cl, e_ck, e_bt, e_mt, eb_one, eb_cons, es_nil, es_cons, eo_none, eo_some, ec_none, ec_some, et_name, et_tup, et_tupl, et_sub, ets_nil, ets_cons, ei_seq, ei_rng1, ei_rng2, ei_zip, s_asg_, s_par_, s_ex_, s_ret_, s_retN_, s_ite_, ss_nil_, fin_rt, fin_nx, wipeD, lim, isK, testT, isNon, isAny, o_add, o_sub, o_mul, o_fdiv, o_mod, o_pow, o_addt, o_addl, o_mult, k_eq, k_ne, k_lt, k_le, k_gt, k_ge, k_isb, k_isn, k_isnn, k_eqb, k_eql, k_nel, k_in, k_nin, g_tup_, g_lst_, g_frz_, g_cel_, sl_tup_, sl_lst_, sl_frz_, sq_tup, sq_lst, zp_tup, n_lent, n_lenl, n_lenf, n_abs, n_int, n_intb, n_max, n_min, n_sum, n_tupl, n_tupt, n_tupc, n_all, n_any, n_gcd, n_isi, n_isit, y_int, y_bl, y_tup, y_lst, y_non, q_app, g4])
    simp only [s_ret_, e_bt, es_cons, es_nil, hc, Option.bind_some, Option.map_some, n_tupl, P_eq]
    simp
  · simp only [e_var, e_non, e_bl, e_int, e_str, e_ty, e_glob, e_op, e_neg, e_cmp, e_chn, e_bop, e_not, e_ife, e_tup, e_lst, e_ix, e_sl, e_cl, e_ck, e_bt, e_mt, eb_one, eb_cons, es_nil, es_cons, eo_none, eo_some, ec_none, ec_some, et_name, et_tup, et_tupl, et_sub, ets_nil, ets_cons, ei_seq, ei_rng1, ei_rng2, ei_zip, s_asg_, s_par_, s_ex_, s_ret_, s_retN_, s_ite_, ss_nil_, fin_rt, fin_nx, wipeD, lim, isK, testT, isNon, isAny, o_add, o_sub, o_mul, o_fdiv, o_mod, o_pow, o_addt, o_addl, o_mult, k_eq, k_ne, k_lt, k_le, k_gt, k_ge, k_isb, k_isn, k_isnn, k_eqb, k_eql, k_nel, k_in, k_nin, g_tup_, g_lst_, g_frz_, g_cel_, sl_tup_, sl_lst_, sl_frz_, sq_tup, sq_lst, zp_tup, n_lent, n_lenl, n_lenf, n_abs, n_int, n_intb, n_max, n_min, n_sum, n_tupl, n_tupt, n_tupc, n_all, n_any, n_gcd, n_isi, n_isit, y_int, y_bl, y_tup, y_lst, y_non, q_app, List.getElem?_cons_zero, List.getElem?_cons_succ, List.getElem?_nil, List.set_cons_zero, List.set_cons_succ, Option.bind_some, Option.map_some, Option.bind_none, List.length_cons, List.length_nil, Bool.false_eq_true, if_true, if_false, List.nil_append, List.cons_append, h1, hlast, hw, decide_true, g5, Int.mul_one]
theorem r_llow (t b : Int) {k : Nat} (hb : 0 < b) (ht : Sz t k) (hs : Sz b k) (h0 : 0 < k) (hk : k ≤ 9000) (h : Hs) (m : Nat) (hm : 2 ≤ m) : evF FT gl m f__law_low [.int t, .int b] h = some (fr ((t : Rat) / b), h) := by
  obtain ⟨n, rfl, hn⟩ := lv hm
  have hg := gcd_okE (a := t) hb hs hk h0
  have h1 := r_factor (.lst [.int t, .int b]) [t, b] none h rfl (by simp) hk (by simp [ht, hs]) n (by omega)
  rw [gcdL_two] at h1
  have g5 : mulOk (Nat.gcd t.natAbs b.natAbs : Nat) 1 = true := by
    refine Sz.ok (i := k) (j := 1) ?_ (by unfold Sz; decide) h0 (by decide) (by omega)
    have : Nat.gcd t.natAbs b.natAbs ≤ b.natAbs := Nat.gcd_le_right _ (by omega)
    unfold Sz at *; simp only [Int.natAbs_natCast]; omega
  rw [run_g (F := ⟨2, 3, b__law_low, false⟩) [some (.int t), some (.int b), none] rfl rfl rfl rfl, b__law_low, ss_nx (σ' := [some (.int t), some (.int b), some (.int (Nat.gcd t.natAbs b.natAbs : Nat))]) (h' := h), ss_rt (h' := h)]
  · exact fin_rt
  · rw [← fr_low t b hb]
    generalize ((Nat.gcd t.natAbs b.natAbs : Nat) : Int) = g at hg ⊢
    simp [e_var, e_non, e_bl, e_int, e_str, e_ty, e_glob, e_op, e_neg, e_cmp, e_chn, e_bop, e_not, e_ife, e_tup, e_lst, e_ix, e_sl, e_cl, e_ck, e_bt, e_mt, eb_one, eb_cons, es_nil, es_cons, eo_none, eo_some, ec_none, ec_some, et_name, et_tup, et_tupl, et_sub, ets_nil, ets_cons, ei_seq, ei_rng1, ei_rng2, ei_zip, s_asg_, s_par_, s_ex_, s_ret_, s_retN_, s_ite_, ss_nil_, fin_rt, fin_nx, wipeD, lim, isK, testT, isNon, isAny, o_add, o_sub, o_mul, o_fdiv, o_mod, o_pow, o_addt, o_addl, o_mult, k_eq, k_ne, k_lt, k_le, k_gt, k_ge, k_isb, k_isn, k_isnn, k_eqb, k_eql, k_nel, k_in, k_nin, g_tup_, g_lst_, g_frz_, g_cel_, sl_tup_, sl_lst_, sl_frz_, sq_tup, sq_lst, zp_tup, n_lent, n_lenl, n_lenf, n_abs, n_int, n_intb, n_max, n_min, n_sum, n_tupl, n_tupt, n_tupc, n_all, n_any, n_gcd, n_isi, n_isit, y_int, y_bl, y_tup, y_lst, y_non, q_app, hg]
  · have : (0 + 1 + 1 : Nat) ≤ 100000 := by decide
    simp only [e_var, e_non, e_bl, e_int, e_str, e_ty, e_glob, e_op, e_neg, e_cmp, e_chn, e_bop, e_not, e_ife, e_tup, e_lst, e_ix, e_sl, e_cl, e_ck, e_bt, e_mt, eb_one, eb_cons, es_nil, es_cons, eo_none, eo_some, ec_none, ec_some, et_name, et_tup, et_tupl, et_sub, ets_nil, ets_cons, ei_seq, ei_rng1, ei_rng2, ei_zip, s_asg_, s_par_, s_ex_, s_ret_, s_retN_, s_ite_, ss_nil_, fin_rt, fin_nx, wipeD, lim, isK, testT, isNon, isAny, o_add, o_sub, o_mul, o_fdiv, o_mod, o_pow, o_addt, o_addl, o_mult, k_eq, k_ne, k_lt, k_le, k_gt, k_ge, k_isb, k_isn, k_isnn, k_eqb, k_eql, k_nel, k_in, k_nin, g_tup_, g_lst_, g_frz_, g_cel_, sl_tup_, sl_lst_, sl_frz_, sq_tup, sq_lst, zp_tup, n_lent, n_lenl, n_lenf, n_abs, n_int, n_intb, n_max, n_min, n_sum, n_tupl, n_tupt, n_tupc, n_all, n_any, n_gcd, n_isi, n_isit, y_int, y_bl, y_tup, y_lst, y_non, q_app, List.getElem?_cons_zero, List.getElem?_cons_succ, List.getElem?_nil, List.set_cons_zero, List.set_cons_succ, Option.bind_some, Option.map_some, Option.bind_none, List.length_cons, List.length_nil, Bool.false_eq_true, if_true, if_false, List.nil_append, List.cons_append, h1, hb, decide_true, g5, Int.mul_one, this]
end K03

set_option Elab.async false
set_option linter.all false
set_option maxRecDepth 100000
set_option maxHeartbeats 1000000
/-! k03: the law's own fractions and points. -/
namespace K03
open PySem L2 Py
theorem q_add (p q : Rat) : ((p.num * q.den + q.num * p.den : Int) : Rat) / ((p.den * q.den : Int) : Rat) = p + q := by
  have h1 := num_over p
  have h2 := num_over q
  have h3 := den0 p
  have h4 := den0 q
  rw [Rat.intCast_add, Rat.intCast_mul, Rat.intCast_mul, Rat.intCast_mul]
  generalize (p.num : Rat) = a at *
  generalize ((p.den : Int) : Rat) = b at *
  generalize (q.num : Rat) = c at *
  generalize ((q.den : Int) : Rat) = d at *
  subst h1 h2
  grind
theorem q_mul (p q : Rat) : ((p.num * q.num : Int) : Rat) / ((p.den * q.den : Int) : Rat) = p * q := by
  have h1 := num_over p
  have h2 := num_over q
  have h3 := den0 p
  have h4 := den0 q
  rw [Rat.intCast_mul, Rat.intCast_mul]
  generalize (p.num : Rat) = a at *
  generalize ((p.den : Int) : Rat) = b at *
  generalize (q.num : Rat) = c at *
  generalize ((q.den : Int) : Rat) = d at *
  subst h1 h2
  grind
theorem fr_neg (q : Rat) : fr (-q) = .tup [.int (0 - q.num), .int q.den] := by
  unfold fr
  rw [Rat.neg_num, Rat.neg_den, Int.zero_sub]
theorem Fq.neg {q : Rat} {k : Nat} (h : Fq q k) : Fq (-q) k := by
  unfold Fq at *
  rw [Rat.neg_num, Rat.neg_den]
  exact ⟨h.1.neg, h.2⟩
theorem r_plus (p q : Rat) {i j : Nat} (hp : Fq p i) (hq : Fq q j) (i0 : 0 < i) (j0 : 0 < j) (hk : i + j ≤ 8000) (h : Hs) (m : Nat) (hm : 3 ≤ m) :
    evF FT gl m f__law_plus [fr p, fr q] h = some (fr (p + q), h) ∧ Fq (p + q) (i + j + 1) := by
  obtain ⟨n, rfl, hn⟩ := lv hm
  have b0 := Int.mul_pos (den_pos p) (den_pos q)
  have s1 := hp.1.mul hq.2
  have s2 := (hq.1.mul hp.2).mono (j := i + j) (by omega)
  have s3 := s1.add s2
  have s4 := (hp.2.mul hq.2).mono (j := i + j + 1) (by omega)
  have h1 := r_llow (p.num * q.den + q.num * p.den) (p.den * q.den) b0 s3 s4 (by omega) (by omega) h n (by omega)
  have h2 := fq_low b0 s3 s4
  rw [q_add] at h1 h2
  refine ⟨?_, h2⟩
  have o1 := Sz.ok hp.1 hq.2 i0 j0 (by omega)
  have o2 := Sz.ok hq.1 hp.2 j0 i0 (by omega)
  have o3 := Sz.ok hp.2 hq.2 i0 j0 (by omega)
  rw [run_g (F := ⟨2, 2, b__law_plus, false⟩) [some (fr p), some (fr q)] rfl rfl rfl rfl, b__law_plus, ss_rt (h' := h)]
  · exact fin_rt
  · rw [fr, fr]
    simp only [e_var, e_non, e_bl, e_int, e_str, e_ty, e_glob, e_op, e_neg, e_cmp, e_chn, e_bop, e_not, e_ife, e_tup, e_lst, e_ix, e_sl, e_cl, e_ck, e_bt, e_mt, eb_one, eb_cons, es_nil, es_cons, eo_none, eo_some, ec_none, ec_some, et_name, et_tup, et_tupl, et_sub, ets_nil, ets_cons, ei_seq, ei_rng1, ei_rng2, ei_zip, s_asg_, s_par_, s_ex_, s_ret_, s_retN_, s_ite_, ss_nil_, fin_rt, fin_nx, wipeD, lim, isK, testT, isNon, isAny, o_add, o_sub, o_mul, o_fdiv, o_mod, o_pow, o_addt, o_addl, o_mult, k_eq, k_ne, k_lt, k_le, k_gt, k_ge, k_isb, k_isn, k_isnn, k_eqb, k_eql, k_nel, k_in, k_nin, g_tup_, g_lst_, g_frz_, g_cel_, sl_tup_, sl_lst_, sl_frz_, sq_tup, sq_lst, zp_tup, n_lent, n_lenl, n_lenf, n_abs, n_int, n_intb, n_max, n_min, n_sum, n_tupl, n_tupt, n_tupc, n_all, n_any, n_gcd, n_isi, n_isit, y_int, y_bl, y_tup, y_lst, y_non, q_app, List.getElem?_cons_zero, List.getElem?_cons_succ, List.getElem?_nil, List.set_cons_zero, List.set_cons_succ, Option.bind_some, Option.map_some, Option.bind_none, List.length_cons, List.length_nil, Bool.false_eq_true, if_true, if_false, List.nil_append, List.cons_append, at_0, at_1, o1, o2, o3, h1]
theorem r_times (p q : Rat) {i j : Nat} (hp : Fq p i) (hq : Fq q j) (i0 : 0 < i) (j0 : 0 < j) (hk : i + j ≤ 8000) (h : Hs) (m : Nat) (hm : 3 ≤ m) :
    evF FT gl m f__law_times [fr p, fr q] h = some (fr (p * q), h) ∧ Fq (p * q) (i + j + 1) := by
  obtain ⟨n, rfl, hn⟩ := lv hm
  have b0 := Int.mul_pos (den_pos p) (den_pos q)
  have s3 := (hp.1.mul hq.1).mono (j := i + j + 1) (by omega)
  have s4 := (hp.2.mul hq.2).mono (j := i + j + 1) (by omega)
  have h1 := r_llow (p.num * q.num) (p.den * q.den) b0 s3 s4 (by omega) (by omega) h n (by omega)
  have h2 := fq_low b0 s3 s4
  rw [q_mul] at h1 h2
  refine ⟨?_, h2⟩
  have o1 := Sz.ok hp.1 hq.1 i0 j0 (by omega)
  have o3 := Sz.ok hp.2 hq.2 i0 j0 (by omega)
  rw [run_g (F := ⟨2, 2, b__law_times, false⟩) [some (fr p), some (fr q)] rfl rfl rfl rfl, b__law_times, ss_rt (h' := h)]
  · exact fin_rt
  · rw [fr, fr]
    simp only [e_var, e_non, e_bl, e_int, e_str, e_ty, e_glob, e_op, e_neg, e_cmp, e_chn, e_bop, e_not, e_ife, e_tup, e_lst, e_ix, e_sl, e_cl, e_ck, e_bt, e_mt, eb_one, eb_cons, es_nil, es_cons, eo_none, eo_some, ec_none, ec_some, et_name, et_tup, et_tupl, et_sub, ets_nil, ets_cons, ei_seq, ei_rng1, ei_rng2, ei_zip, s_asg_, s_par_, s_ex_, s_ret_, s_retN_, s_ite_, ss_nil_, fin_rt, fin_nx, wipeD, lim, isK, testT, isNon, isAny, o_add, o_sub, o_mul, o_fdiv, o_mod, o_pow, o_addt, o_addl, o_mult, k_eq, k_ne, k_lt, k_le, k_gt, k_ge, k_isb, k_isn, k_isnn, k_eqb, k_eql, k_nel, k_in, k_nin, g_tup_, g_lst_, g_frz_, g_cel_, sl_tup_, sl_lst_, sl_frz_, sq_tup, sq_lst, zp_tup, n_lent, n_lenl, n_lenf, n_abs, n_int, n_intb, n_max, n_min, n_sum, n_tupl, n_tupt, n_tupc, n_all, n_any, n_gcd, n_isi, n_isit, y_int, y_bl, y_tup, y_lst, y_non, q_app, List.getElem?_cons_zero, List.getElem?_cons_succ, List.getElem?_nil, List.set_cons_zero, List.set_cons_succ, Option.bind_some, Option.map_some, Option.bind_none, List.length_cons, List.length_nil, Bool.false_eq_true, if_true, if_false, List.nil_append, List.cons_append, at_0, at_1, o1, o3, h1]
theorem r_less (p q : Rat) {i j : Nat} (hp : Fq p i) (hq : Fq q j) (i0 : 0 < i) (j0 : 0 < j) (hk : i + j ≤ 8000) (h : Hs) (m : Nat) (hm : 4 ≤ m) :
    evF FT gl m f__law_less [fr p, fr q] h = some (fr (p - q), h) ∧ Fq (p - q) (i + j + 1) := by
  obtain ⟨n, rfl, hn⟩ := lv hm
  have h1 := r_plus p (-q) hp hq.neg i0 j0 hk h n (by omega)
  rw [← Rat.sub_eq_add_neg] at h1
  refine ⟨?_, h1.2⟩
  have h2 := h1.1
  rw [fr_neg] at h2
  have l2 : (0 + 1 + 1 : Nat) ≤ 100000 := by decide
  rw [run_g (F := ⟨2, 2, b__law_less, false⟩) [some (fr p), some (fr q)] rfl rfl rfl rfl, b__law_less, ss_rt (h' := h)]
  · exact fin_rt
  · have g0 : getI h (fr q) (.int 0) = some (.int q.num) := at_0 _ _
    have g1 : getI h (fr q) (.int 1) = some (.int q.den) := at_1 _ _ _
    simp only [e_var, e_non, e_bl, e_int, e_str, e_ty, e_glob, e_op, e_neg, e_cmp, e_chn, e_bop, e_not, e_ife, e_tup, e_lst, e_ix, e_sl, e_cl, e_ck, e_bt, e_mt, eb_one, eb_cons, es_nil, es_cons, eo_none, eo_some, ec_none, ec_some, et_name, et_tup, et_tupl, et_sub, ets_nil, ets_cons, ei_seq, ei_rng1, ei_rng2, ei_zip, s_asg_, s_par_, s_ex_, s_ret_, s_retN_, s_ite_, ss_nil_, fin_rt, fin_nx, wipeD, lim, isK, testT, isNon, isAny, o_add, o_sub, o_mul, o_fdiv, o_mod, o_pow, o_addt, o_addl, o_mult, k_eq, k_ne, k_lt, k_le, k_gt, k_ge, k_isb, k_isn, k_isnn, k_eqb, k_eql, k_nel, k_in, k_nin, g_tup_, g_lst_, g_frz_, g_cel_, sl_tup_, sl_lst_, sl_frz_, sq_tup, sq_lst, zp_tup, n_lent, n_lenl, n_lenf, n_abs, n_int, n_intb, n_max, n_min, n_sum, n_tupl, n_tupt, n_tupc, n_all, n_any, n_gcd, n_isi, n_isit, y_int, y_bl, y_tup, y_lst, y_non, q_app, List.getElem?_cons_zero, List.getElem?_cons_succ, List.getElem?_nil, List.set_cons_zero, List.set_cons_succ, Option.bind_some, Option.map_some, Option.bind_none, List.length_cons, List.length_nil, Bool.false_eq_true, if_true, if_false, List.nil_append, List.cons_append, g0, g1, l2, h2]
theorem r_lsign (q : Rat) (h : Hs) (m : Nat) (hm : 1 ≤ m) : evF FT gl m f__law_sign [fr q] h = some (.int (sgn q), h) := by
  obtain ⟨n, rfl, hn⟩ := lv hm
  rw [run_g (F := ⟨1, 1, b__law_sign, false⟩) [some (fr q)] rfl rfl rfl rfl, b__law_sign, ss_rt (h' := h) (d := .int (sgn q))]
  · exact fin_rt
  · unfold fr sgn
    rcases Int.lt_trichotomy q.num 0 with e | e | e
    · have e' : ¬ 0 < q.num := by omega
      simp only [e_var, e_non, e_bl, e_int, e_str, e_ty, e_glob, e_op, e_neg, e_cmp, e_chn, e_bop, e_not, e_ife, e_tup, e_lst, e_ix, e_sl, e_cl, e_ck, e_bt, e_mt, eb_one, eb_cons, es_nil, es_cons, eo_none, eo_some, ec_none, ec_some, et_name, et_tup, et_tupl, et_sub, ets_nil, ets_cons, ei_seq, ei_rng1, ei_rng2, ei_zip, s_asg_, s_par_, s_ex_, s_ret_, s_retN_, s_ite_, ss_nil_, fin_rt, fin_nx, wipeD, lim, isK, testT, isNon, isAny, o_add, o_sub, o_mul, o_fdiv, o_mod, o_pow, o_addt, o_addl, o_mult, k_eq, k_ne, k_lt, k_le, k_gt, k_ge, k_isb, k_isn, k_isnn, k_eqb, k_eql, k_nel, k_in, k_nin, g_tup_, g_lst_, g_frz_, g_cel_, sl_tup_, sl_lst_, sl_frz_, sq_tup, sq_lst, zp_tup, n_lent, n_lenl, n_lenf, n_abs, n_int, n_intb, n_max, n_min, n_sum, n_tupl, n_tupt, n_tupc, n_all, n_any, n_gcd, n_isi, n_isit, y_int, y_bl, y_tup, y_lst, y_non, q_app, List.getElem?_cons_zero, List.getElem?_cons_succ, List.getElem?_nil, List.set_cons_zero, List.set_cons_succ, Option.bind_some, Option.map_some, Option.bind_none, List.length_cons, List.length_nil, Bool.false_eq_true, if_true, if_false, List.nil_append, List.cons_append, at_0, e, e', decide_true, decide_false, Int.sign_eq_neg_one_of_neg e]
    · simp only [e_var, e_non, e_bl, e_int, e_str, e_ty, e_glob, e_op, e_neg, e_cmp, e_chn, e_bop, e_not, e_ife, e_tup, e_lst, e_ix, e_sl, e_cl, e_ck, e_bt, e_mt, eb_one, eb_cons, es_nil, es_cons, eo_none, eo_some, ec_none, ec_some, et_name, et_tup, et_tupl, et_sub, ets_nil, ets_cons, ei_seq, ei_rng1, ei_rng2, ei_zip, s_asg_, s_par_, s_ex_, s_ret_, s_retN_, s_ite_, ss_nil_, fin_rt, fin_nx, wipeD, lim, isK, testT, isNon, isAny, o_add, o_sub, o_mul, o_fdiv, o_mod, o_pow, o_addt, o_addl, o_mult, k_eq, k_ne, k_lt, k_le, k_gt, k_ge, k_isb, k_isn, k_isnn, k_eqb, k_eql, k_nel, k_in, k_nin, g_tup_, g_lst_, g_frz_, g_cel_, sl_tup_, sl_lst_, sl_frz_, sq_tup, sq_lst, zp_tup, n_lent, n_lenl, n_lenf, n_abs, n_int, n_intb, n_max, n_min, n_sum, n_tupl, n_tupt, n_tupc, n_all, n_any, n_gcd, n_isi, n_isit, y_int, y_bl, y_tup, y_lst, y_non, q_app, List.getElem?_cons_zero, List.getElem?_cons_succ, List.getElem?_nil, List.set_cons_zero, List.set_cons_succ, Option.bind_some, Option.map_some, Option.bind_none, List.length_cons, List.length_nil, Bool.false_eq_true, if_true, if_false, List.nil_append, List.cons_append, at_0, e]; rfl
    · simp only [e_var, e_non, e_bl, e_int, e_str, e_ty, e_glob, e_op, e_neg, e_cmp, e_chn, e_bop, e_not, e_ife, e_tup, e_lst, e_ix, e_sl, e_cl, e_ck, e_bt, e_mt, eb_one, eb_cons, es_nil, es_cons, eo_none, eo_some, ec_none, ec_some, et_name, et_tup, et_tupl, et_sub, ets_nil, ets_cons, ei_seq, ei_rng1, ei_rng2, ei_zip, s_asg_, s_par_, s_ex_, s_ret_, s_retN_, s_ite_, ss_nil_, fin_rt, fin_nx, wipeD, lim, isK, testT, isNon, isAny, o_add, o_sub, o_mul, o_fdiv, o_mod, o_pow, o_addt, o_addl, o_mult, k_eq, k_ne, k_lt, k_le, k_gt, k_ge, k_isb, k_isn, k_isnn, k_eqb, k_eql, k_nel, k_in, k_nin, g_tup_, g_lst_, g_frz_, g_cel_, sl_tup_, sl_lst_, sl_frz_, sq_tup, sq_lst, zp_tup, n_lent, n_lenl, n_lenf, n_abs, n_int, n_intb, n_max, n_min, n_sum, n_tupl, n_tupt, n_tupc, n_all, n_any, n_gcd, n_isi, n_isit, y_int, y_bl, y_tup, y_lst, y_non, q_app, List.getElem?_cons_zero, List.getElem?_cons_succ, List.getElem?_nil, List.set_cons_zero, List.set_cons_succ, Option.bind_some, Option.map_some, Option.bind_none, List.length_cons, List.length_nil, Bool.false_eq_true, if_true, if_false, List.nil_append, List.cons_append, at_0, e, decide_true, Int.sign_eq_one_of_pos e]
theorem r_lplaces (a : List Rat) {k : Nat} (ha : Ok a k) (hl : a.length ≤ 10) (h0 : 0 < k) (hk : k ≤ 2000) (h : Hs) (m : Nat) (hm : 3 ≤ m) :
    evF FT gl m f__law_places [pt a] h = some (.tup (a.map fr), h) := by
  obtain ⟨n, rfl, hn⟩ := lv hm
  obtain ⟨ns, w, ea, hw, _, rfl, sa, sw⟩ := ha
  rw [ov_len] at hl
  have hc := cp_ints (cl := evF FT gl n) (gl := gl) (σ := [some (P ns w), none]) (h := h) (i := 1) (ce := (.cl f__law_low (.cons (.var 1) (.cons (.ix (.var 0) (.neg (.int 1))) .nil)))) (it := (.seq (.sl (.var 0) .none (.some (.neg (.int 1)))))) (ns := ns) (fun x => fr ((x : Rat) / w)) (by simp [e_var, e_non, e_bl, e_int, e_str, e_ty, e_glob, e_op, e_neg, e_cmp, e_chn, e_bop, e_not, e_ife, e_tup, e_lst, e_ix, e_sl, e_cl, e_ck, e_bt, e_mt, eb_one, eb_cons, es_nil, es_cons, eo_none, eo_some, ec_none, ec_some, et_name, et_tup, et_tupl, et_sub, ets_nil, ets_cons, ei_seq, ei_rng1, ei_rng2, ei_zip, s_asg_, s_par_, s_ex_, s_ret_, s_retN_, s_ite_, ss_nil_, fin_rt, fin_nx, wipeD, lim, isK, testT, isNon, isAny, o_add, o_sub, o_mul, o_fdiv, o_mod, o_pow, o_addt, o_addl, o_mult, k_eq, k_ne, k_lt, k_le, k_gt, k_ge, k_isb, k_isn, k_isnn, k_eqb, k_eql, k_nel, k_in, k_nin, g_tup_, g_lst_, g_frz_, g_cel_, sl_tup_, sl_lst_, sl_frz_, sq_tup, sq_lst, zp_tup, n_lent, n_lenl, n_lenf, n_abs, n_int, n_intb, n_max, n_min, n_sum, n_tupl, n_tupt, n_tupc, n_all, n_any, n_gcd, n_isi, n_isit, y_int, y_bl, y_tup, y_lst, y_non, q_app, P_cut]) (by simp [lim]; omega) (by
      intro x hx
      have h1 := r_llow x w hw (sa x hx) sw h0 (by omega) h n (by omega)
      simp [e_var, e_non, e_bl, e_int, e_str, e_ty, e_glob, e_op, e_neg, e_cmp, e_chn, e_bop, e_not, e_ife, e_tup, e_lst, e_ix, e_sl, e_cl, e_ck, e_bt, e_mt, eb_one, eb_cons, es_nil, es_cons, eo_none, eo_some, ec_none, ec_some, et_name, et_tup, et_tupl, et_sub, ets_nil, ets_cons, ei_seq, ei_rng1, ei_rng2, ei_zip, s_asg_, s_par_, s_ex_, s_ret_, s_retN_, s_ite_, ss_nil_, fin_rt, fin_nx, wipeD, lim, isK, testT, isNon, isAny, o_add, o_sub, o_mul, o_fdiv, o_mod, o_pow, o_addt, o_addl, o_mult, k_eq, k_ne, k_lt, k_le, k_gt, k_ge, k_isb, k_isn, k_isnn, k_eqb, k_eql, k_nel, k_in, k_nin, g_tup_, g_lst_, g_frz_, g_cel_, sl_tup_, sl_lst_, sl_frz_, sq_tup, sq_lst, zp_tup, n_lent, n_lenl, n_lenf, n_abs, n_int, n_intb, n_max, n_min, n_sum, n_tupl, n_tupt, n_tupc, n_all, n_any, n_gcd, n_isi, n_isit, y_int, y_bl, y_tup, y_lst, y_non, q_app, P_get, h1])
  rw [ea, run_g (F := ⟨1, 2, b__law_places, false⟩) [some (P ns w), none] rfl rfl rfl rfl, b__law_places, ss_rt (h' := h)]
  · exact fin_rt
  · simp only [s_ret_, e_bt, es_cons, es_nil, hc, Option.bind_some, Option.map_some, n_tupl, ov, List.map_map]
    rfl
theorem div_mul_eq {b d g : Int} (hg : g ∣ b) (h0 : 0 < g) : b / g * d = b * d / g := by
  obtain ⟨x, rfl⟩ := hg
  rw [Int.mul_ediv_cancel_left _ (by omega), Int.mul_assoc, Int.mul_ediv_cancel_left _ (by omega)]
theorem l_at (n : Nat) (hn : 1 ≤ n) (all : List D) (src : Option Nat) (h : Hs) (hsr : ∀ c, src = some c → h[c]? = some all) (s0 : D) {k : Nat} (h0 : 0 < k) (hk : k ≤ 2000) : ∀ (qs : List Rat) (b : Int) (j : Nat) (v1 v2 : Option D), 0 < b → Sz b j → 0 < j → j + k * qs.length ≤ 9000 → (∀ q ∈ qs, Fq q k) →
    ∃ b' v1' v2', loopF (fun d σ h => evTg (evF FT gl n) gl (.tup (.cons (.name 2) (.cons (.name 3) .nil))) d σ h) (fun σ h => evSs (evF FT gl n) gl (.cons (.asg (.name 1) (.op .mul (.op .fdiv (.var 1) (.cl f__law_factor (.cons (.lst false (.cons (.var 1) (.cons (.var 3) .nil))) .nil))) (.var 3))) .nil) σ h) src all (qs.map fr) [some s0, some (.int b), v1, v2] h =
    some (.nx [some s0, some (.int b'), v1', v2'] h) ∧ 0 < b' ∧ Sz b' (j + k * qs.length) ∧ b ∣ b' ∧ ∀ q ∈ qs, (q.den : Int) ∣ b'
  | [], b, j, v1, v2, hb, hs, hj, hjk, hq => ⟨b, v1, v2, ls_nil hsr, hb, by simpa using hs, Int.dvd_refl b, fun q hq => by cases hq⟩
  | q :: qs, b, j, v1, v2, hb, hs, hj, hjk, hq => by
    have hd := den_pos q
    obtain ⟨c1, c2, c3⟩ := lcm_step hb hd
    have hk' : j + k + k * qs.length = j + k * (q :: qs).length := by simp [Nat.mul_add]; omega
    have hqq := hq q List.mem_cons_self
    have hjk2 : j + k ≤ 9000 := by
      have := Nat.le_trans (Nat.le_add_right _ (k * qs.length)) (Nat.le_of_eq hk')
      omega
    have hg := gcd_okE (a := b) hd hqq.2 (by omega) h0
    have sm := hs.mul hqq.2
    have hdv : (Nat.gcd b.natAbs (q.den : Int).natAbs : Int) ∣ b := Int.ofNat_dvd_left.mpr (Nat.gcd_dvd_left _ _)
    have om := Sz.ok (hs.ediv hg.1) hqq.2 hj h0 (by omega)
    have h1 := r_factor (.lst [.int b, .int q.den]) [b, (q.den : Int)] none h rfl (by simp) (k := j + k) (by omega) (by
      intro x hx
      rcases List.mem_cons.mp hx with rfl | hx
      · exact hs.mono (by omega)
      · rw [List.mem_singleton.mp hx]; exact hqq.2.mono (by omega)) n (by omega)
    rw [gcdL_two] at h1
    obtain ⟨b', v1', v2', ih, i1, i2, i3, i4⟩ := l_at n hn all src h hsr s0 h0 hk qs (b * q.den / (Nat.gcd b.natAbs (q.den : Int).natAbs : Nat)) (j + k) (some (.int q.num)) (some (.int q.den)) c1 (sm.ediv hg.1) (by omega) (by omega) fun x hx => hq x (List.mem_cons_of_mem _ hx)
    refine ⟨b', v1', v2', ?_, i1, by rw [← hk']; exact i2, Int.dvd_trans c2 i3, ?_⟩
    · rw [List.map_cons, ls_cons (σ1 := [some s0, some (.int b), some (.int q.num), some (.int q.den)]) (h1 := h) hsr (by simp [e_var, e_non, e_bl, e_int, e_str, e_ty, e_glob, e_op, e_neg, e_cmp, e_chn, e_bop, e_not, e_ife, e_tup, e_lst, e_ix, e_sl, e_cl, e_ck, e_bt, e_mt, eb_one, eb_cons, es_nil, es_cons, eo_none, eo_some, ec_none, ec_some, et_name, et_tup, et_tupl, et_sub, ets_nil, ets_cons, ei_seq, ei_rng1, ei_rng2, ei_zip, s_asg_, s_par_, s_ex_, s_ret_, s_retN_, s_ite_, ss_nil_, fin_rt, fin_nx, wipeD, lim, isK, testT, isNon, isAny, o_add, o_sub, o_mul, o_fdiv, o_mod, o_pow, o_addt, o_addl, o_mult, k_eq, k_ne, k_lt, k_le, k_gt, k_ge, k_isb, k_isn, k_isnn, k_eqb, k_eql, k_nel, k_in, k_nin, g_tup_, g_lst_, g_frz_, g_cel_, sl_tup_, sl_lst_, sl_frz_, sq_tup, sq_lst, zp_tup, n_lent, n_lenl, n_lenf, n_abs, n_int, n_intb, n_max, n_min, n_sum, n_tupl, n_tupt, n_tupc, n_all, n_any, n_gcd, n_isi, n_isit, y_int, y_bl, y_tup, y_lst, y_non, q_app, fr]) (σ2 := [some s0, some (.int (b * q.den / (Nat.gcd b.natAbs (q.den : Int).natAbs : Nat))), some (.int q.num), some (.int q.den)]) (h2 := h), ih]
      rw [ss_nx (σ' := [some s0, some (.int (b * q.den / (Nat.gcd b.natAbs (q.den : Int).natAbs : Nat))), some (.int q.num), some (.int q.den)]) (h' := h), ss_nil_]
      have l2 : (0 + 1 + 1 : Nat) ≤ 100000 := by decide
      have e : binop .fdiv (.int b) (.int (Nat.gcd b.natAbs (q.den : Int).natAbs : Nat)) = some (.int (b / (Nat.gcd b.natAbs (q.den : Int).natAbs : Nat))) := by rw [o_fdiv, if_pos hg]
      rw [← div_mul_eq hdv hg.1]
      simp only [e_var, e_non, e_bl, e_int, e_str, e_ty, e_glob, e_op, e_neg, e_cmp, e_chn, e_bop, e_not, e_ife, e_tup, e_lst, e_ix, e_sl, e_cl, e_ck, e_bt, e_mt, eb_one, eb_cons, es_nil, es_cons, eo_none, eo_some, ec_none, ec_some, et_name, et_tup, et_tupl, et_sub, ets_nil, ets_cons, ei_seq, ei_rng1, ei_rng2, ei_zip, s_asg_, s_par_, s_ex_, s_ret_, s_retN_, s_ite_, ss_nil_, fin_rt, fin_nx, wipeD, lim, isK, testT, isNon, isAny, o_add, o_sub, o_mul, o_fdiv, o_mod, o_pow, o_addt, o_addl, o_mult, k_eq, k_ne, k_lt, k_le, k_gt, k_ge, k_isb, k_isn, k_isnn, k_eqb, k_eql, k_nel, k_in, k_nin, g_tup_, g_lst_, g_frz_, g_cel_, sl_tup_, sl_lst_, sl_frz_, sq_tup, sq_lst, zp_tup, n_lent, n_lenl, n_lenf, n_abs, n_int, n_intb, n_max, n_min, n_sum, n_tupl, n_tupt, n_tupc, n_all, n_any, n_gcd, n_isi, n_isit, y_int, y_bl, y_tup, y_lst, y_non, q_app, List.getElem?_cons_zero, List.getElem?_cons_succ, List.getElem?_nil, List.set_cons_zero, List.set_cons_succ, Option.bind_some, Option.map_some, Option.bind_none, List.length_cons, List.length_nil, Bool.false_eq_true, if_true, if_false, List.nil_append, List.cons_append, -o_fdiv, l2, h1, e, om]
    · intro x hx
      rcases List.mem_cons.mp hx with rfl | hx
      · exact Int.dvd_trans c3 i3
      · exact i4 x hx
theorem r_lat (d : D) (qs : List Rat) (src : Option Nat) (h : Hs) (hd : seqI h d = some (qs.map fr, src)) (hsr : ∀ c, src = some c → h[c]? = some (qs.map fr)) {k : Nat} (hq : ∀ q ∈ qs, Fq q k) (hl : qs.length ≤ 3) (h0 : 0 < k) (hk : k ≤ 2000) (m : Nat) (hm : 3 ≤ m) :
    evF FT gl m f__law_at [d] h = some (pt qs, h) ∧ Ok qs (4 * k + 1) := by
  obtain ⟨n, rfl, hn⟩ := lv hm
  have hkl : 1 + k * qs.length ≤ 3 * k + 1 := by
    have := Nat.mul_le_mul_left k hl
    omega
  obtain ⟨b, v1, v2, hloop, b0, bs, _, bd⟩ := l_at n (by omega) (qs.map fr) src h hsr d h0 hk qs 1 1 none none (by decide) (by unfold Sz; decide) (by decide) (by omega) hq
  have bs := bs.mono hkl
  have sx : ∀ q ∈ qs, Sz (b / (q.den : Int)) (3 * k + 1) := fun q hx => bs.ediv (den_pos q)
  have hf := r_lpoint (qs.map fun q => q.num * (b / q.den)) b (k := 4 * k + 1) (by simp; omega) b0 (by
    intro z hz
    obtain ⟨q, hx, rfl⟩ := List.mem_map.mp hz
    exact ((hq q hx).1.mul (sx q hx)).mono (by omega)) (bs.mono (by omega)) (by omega) (by omega) h n (by omega)
  rw [ov_base b0 qs bd] at hf
  refine ⟨?_, hf.2⟩
  have hc := cp_ofs (cl := evF FT gl n) (gl := gl) (σ := [some d, some (.int b), v1, v2]) (h := h) (ce := .op .mul (.var 2) (.op .fdiv (.var 1) (.var 3))) (t := (.tup (.cons (.name 2) (.cons (.name 3) .nil)))) (it := (.seq (.var 0))) (own := [2, 3]) (xs := qs) (mk := fr) (f := fun q => .int (q.num * (b / q.den))) (src := src) (by simp [e_var, e_non, e_bl, e_int, e_str, e_ty, e_glob, e_op, e_neg, e_cmp, e_chn, e_bop, e_not, e_ife, e_tup, e_lst, e_ix, e_sl, e_cl, e_ck, e_bt, e_mt, eb_one, eb_cons, es_nil, es_cons, eo_none, eo_some, ec_none, ec_some, et_name, et_tup, et_tupl, et_sub, ets_nil, ets_cons, ei_seq, ei_rng1, ei_rng2, ei_zip, s_asg_, s_par_, s_ex_, s_ret_, s_retN_, s_ite_, ss_nil_, fin_rt, fin_nx, wipeD, lim, isK, testT, isNon, isAny, o_add, o_sub, o_mul, o_fdiv, o_mod, o_pow, o_addt, o_addl, o_mult, k_eq, k_ne, k_lt, k_le, k_gt, k_ge, k_isb, k_isn, k_isnn, k_eqb, k_eql, k_nel, k_in, k_nin, g_tup_, g_lst_, g_frz_, g_cel_, sl_tup_, sl_lst_, sl_frz_, sq_tup, sq_lst, zp_tup, n_lent, n_lenl, n_lenf, n_abs, n_int, n_intb, n_max, n_min, n_sum, n_tupl, n_tupt, n_tupc, n_all, n_any, n_gcd, n_isi, n_isit, y_int, y_bl, y_tup, y_lst, y_non, q_app, hd]) hsr (by simp [lim]; omega) (by
      intro q hx
      have d1 := (hq q hx).2.div_ok (den_pos q) h0 (by omega)
      have d2 := Sz.ok (hq q hx).1 (sx q hx) h0 (by omega) (by omega)
      refine ⟨[some d, some (.int b), some (.int q.num), some (.int q.den)], by simp [e_var, e_non, e_bl, e_int, e_str, e_ty, e_glob, e_op, e_neg, e_cmp, e_chn, e_bop, e_not, e_ife, e_tup, e_lst, e_ix, e_sl, e_cl, e_ck, e_bt, e_mt, eb_one, eb_cons, es_nil, es_cons, eo_none, eo_some, ec_none, ec_some, et_name, et_tup, et_tupl, et_sub, ets_nil, ets_cons, ei_seq, ei_rng1, ei_rng2, ei_zip, s_asg_, s_par_, s_ex_, s_ret_, s_retN_, s_ite_, ss_nil_, fin_rt, fin_nx, wipeD, lim, isK, testT, isNon, isAny, o_add, o_sub, o_mul, o_fdiv, o_mod, o_pow, o_addt, o_addl, o_mult, k_eq, k_ne, k_lt, k_le, k_gt, k_ge, k_isb, k_isn, k_isnn, k_eqb, k_eql, k_nel, k_in, k_nin, g_tup_, g_lst_, g_frz_, g_cel_, sl_tup_, sl_lst_, sl_frz_, sq_tup, sq_lst, zp_tup, n_lent, n_lenl, n_lenf, n_abs, n_int, n_intb, n_max, n_min, n_sum, n_tupl, n_tupt, n_tupc, n_all, n_any, n_gcd, n_isi, n_isit, y_int, y_bl, y_tup, y_lst, y_non, q_app, fr], ?_⟩
      have e : binop .fdiv (.int b) (.int q.den) = some (.int (b / q.den)) := by rw [o_fdiv, if_pos d1]
      simp only [e_var, e_non, e_bl, e_int, e_str, e_ty, e_glob, e_op, e_neg, e_cmp, e_chn, e_bop, e_not, e_ife, e_tup, e_lst, e_ix, e_sl, e_cl, e_ck, e_bt, e_mt, eb_one, eb_cons, es_nil, es_cons, eo_none, eo_some, ec_none, ec_some, et_name, et_tup, et_tupl, et_sub, ets_nil, ets_cons, ei_seq, ei_rng1, ei_rng2, ei_zip, s_asg_, s_par_, s_ex_, s_ret_, s_retN_, s_ite_, ss_nil_, fin_rt, fin_nx, wipeD, lim, isK, testT, isNon, isAny, o_add, o_sub, o_mul, o_fdiv, o_mod, o_pow, o_addt, o_addl, o_mult, k_eq, k_ne, k_lt, k_le, k_gt, k_ge, k_isb, k_isn, k_isnn, k_eqb, k_eql, k_nel, k_in, k_nin, g_tup_, g_lst_, g_frz_, g_cel_, sl_tup_, sl_lst_, sl_frz_, sq_tup, sq_lst, zp_tup, n_lent, n_lenl, n_lenf, n_abs, n_int, n_intb, n_max, n_min, n_sum, n_tupl, n_tupt, n_tupc, n_all, n_any, n_gcd, n_isi, n_isit, y_int, y_bl, y_tup, y_lst, y_non, q_app, List.getElem?_cons_zero, List.getElem?_cons_succ, List.getElem?_nil, List.set_cons_zero, List.set_cons_succ, Option.bind_some, Option.map_some, Option.bind_none, List.length_cons, List.length_nil, Bool.false_eq_true, if_true, if_false, List.nil_append, List.cons_append, -o_fdiv, e, d2])
  rw [run_g (F := ⟨1, 4, b__law_at, false⟩) [some d, none, none, none] rfl rfl rfl rfl, b__law_at, ss_nx (σ' := [some d, some (.int 1), none, none]) (h' := h), ss_nx (σ' := [some d, some (.int b), v1, v2]) (h' := h), ss_rt (h' := h)]
  · exact fin_rt
  · have hf1 := hf.1
    rw [List.map_map] at hf1
    have e2 : (fun q : Rat => D.int (q.num * (b / q.den))) = (D.int ∘ fun q => q.num * (b / q.den)) := rfl
    rw [e2] at hc
    have : qs.length + 1 ≤ 100000 := by omega
    simp only [s_ret_, e_cl, e_op, es_cons, es_nil, hc]
    simp [e_var, e_non, e_bl, e_int, e_str, e_ty, e_glob, e_op, e_neg, e_cmp, e_chn, e_bop, e_not, e_ife, e_tup, e_lst, e_ix, e_sl, e_cl, e_ck, e_bt, e_mt, eb_one, eb_cons, es_nil, es_cons, eo_none, eo_some, ec_none, ec_some, et_name, et_tup, et_tupl, et_sub, ets_nil, ets_cons, ei_seq, ei_rng1, ei_rng2, ei_zip, s_asg_, s_par_, s_ex_, s_ret_, s_retN_, s_ite_, ss_nil_, fin_rt, fin_nx, wipeD, lim, isK, testT, isNon, isAny, o_add, o_sub, o_mul, o_fdiv, o_mod, o_pow, o_addt, o_addl, o_mult, k_eq, k_ne, k_lt, k_le, k_gt, k_ge, k_isb, k_isn, k_isnn, k_eqb, k_eql, k_nel, k_in, k_nin, g_tup_, g_lst_, g_frz_, g_cel_, sl_tup_, sl_lst_, sl_frz_, sq_tup, sq_lst, zp_tup, n_lent, n_lenl, n_lenf, n_abs, n_int, n_intb, n_max, n_min, n_sum, n_tupl, n_tupt, n_tupc, n_all, n_any, n_gcd, n_isi, n_isit, y_int, y_bl, y_tup, y_lst, y_non, q_app, this, hf1]
  · rw [s_for_]
    have : evIt (evF FT gl n) gl (.seq (.var 0)) [some d, some (.int 1), none, none] h = some ⟨qs.map fr, src, h⟩ := by simp [e_var, e_non, e_bl, e_int, e_str, e_ty, e_glob, e_op, e_neg, e_cmp, e_chn, e_bop, e_not, e_ife, e_tup, e_lst, e_ix, e_sl, e_cl, e_ck, e_bt, e_mt, eb_one, eb_cons, es_nil, es_cons, eo_none, eo_some, ec_none, ec_some, et_name, et_tup, et_tupl, et_sub, ets_nil, ets_cons, ei_seq, ei_rng1, ei_rng2, ei_zip, s_asg_, s_par_, s_ex_, s_ret_, s_retN_, s_ite_, ss_nil_, fin_rt, fin_nx, wipeD, lim, isK, testT, isNon, isAny, o_add, o_sub, o_mul, o_fdiv, o_mod, o_pow, o_addt, o_addl, o_mult, k_eq, k_ne, k_lt, k_le, k_gt, k_ge, k_isb, k_isn, k_isnn, k_eqb, k_eql, k_nel, k_in, k_nin, g_tup_, g_lst_, g_frz_, g_cel_, sl_tup_, sl_lst_, sl_frz_, sq_tup, sq_lst, zp_tup, n_lent, n_lenl, n_lenf, n_abs, n_int, n_intb, n_max, n_min, n_sum, n_tupl, n_tupt, n_tupc, n_all, n_any, n_gcd, n_isi, n_isit, y_int, y_bl, y_tup, y_lst, y_non, q_app, hd]
    rw [this]
    exact hloop
  · simp [e_var, e_non, e_bl, e_int, e_str, e_ty, e_glob, e_op, e_neg, e_cmp, e_chn, e_bop, e_not, e_ife, e_tup, e_lst, e_ix, e_sl, e_cl, e_ck, e_bt, e_mt, eb_one, eb_cons, es_nil, es_cons, eo_none, eo_some, ec_none, ec_some, et_name, et_tup, et_tupl, et_sub, ets_nil, ets_cons, ei_seq, ei_rng1, ei_rng2, ei_zip, s_asg_, s_par_, s_ex_, s_ret_, s_retN_, s_ite_, ss_nil_, fin_rt, fin_nx, wipeD, lim, isK, testT, isNon, isAny, o_add, o_sub, o_mul, o_fdiv, o_mod, o_pow, o_addt, o_addl, o_mult, k_eq, k_ne, k_lt, k_le, k_gt, k_ge, k_isb, k_isn, k_isnn, k_eqb, k_eql, k_nel, k_in, k_nin, g_tup_, g_lst_, g_frz_, g_cel_, sl_tup_, sl_lst_, sl_frz_, sq_tup, sq_lst, zp_tup, n_lent, n_lenl, n_lenf, n_abs, n_int, n_intb, n_max, n_min, n_sum, n_tupl, n_tupt, n_tupc, n_all, n_any, n_gcd, n_isi, n_isit, y_int, y_bl, y_tup, y_lst, y_non, q_app]
end K03

set_option Elab.async false
set_option linter.all false
set_option maxRecDepth 100000
set_option maxHeartbeats 1000000
/-! k03: the law's own mix, excess and comparison. -/
namespace K03
open PySem L2 Py
theorem eq_nil (h : Hs) (xs : List Int) (hl : xs.length ≤ 4) : eqD h (.lst (xs.map D.int)) (.lst []) = some xs.isEmpty := by
  match xs, hl with
  | [], _ => simp [eqD, rd, toP, toPs, SeqAt.shaped, PyData.canLay0, PyData.depth, PyData.eqv, PyData.depthAll, PyData.canLayAll0, PyData.eqvAll]
  | [a], _ => simp [eqD, rd, toP, toPs, SeqAt.shaped, PyData.canLay0, PyData.depth, PyData.eqv, PyData.depthAll, PyData.canLayAll0, PyData.eqvAll]
  | [a, b], _ => simp [eqD, rd, toP, toPs, SeqAt.shaped, PyData.canLay0, PyData.depth, PyData.eqv, PyData.depthAll, PyData.canLayAll0, PyData.eqvAll]
  | [a, b, c], _ => simp [eqD, rd, toP, toPs, SeqAt.shaped, PyData.canLay0, PyData.depth, PyData.eqv, PyData.depthAll, PyData.canLayAll0, PyData.eqvAll]
  | [a, b, c, d], _ => simp [eqD, rd, toP, toPs, SeqAt.shaped, PyData.canLay0, PyData.depth, PyData.eqv, PyData.depthAll, PyData.canLayAll0, PyData.eqvAll]
theorem k_neb {h : Hs} {a b : Bool} : cmpop h .ne (.bl a) (.bl b) = some (!(a == b)) := by
  simp [cmpop, eqD, rd, toP, SeqAt.shaped, PyData.canLay0, PyData.depth, PyData.eqv]
/-! the same -/
def SameOk : Nat → D → Prop
  | _, .int _ => True
  | n + 1, .tup ds => ds.length ≤ lim ∧ ∀ d ∈ ds, SameOk n d
  | n + 1, .lst ds => ds.length ≤ lim ∧ ∀ d ∈ ds, SameOk n d
  | _, _ => False
theorem r_same_seq (n : Nat) (d : D) (ds : List D) (hd : d = .tup ds ∨ d = .lst ds) (hl : ds.length ≤ lim) (h : Hs) (ih : ∀ x ∈ ds, evF FT gl n f__law_same [x, x] h = some (.bl true, h)) : evF FT gl (n + 1) f__law_same [d, d] h = some (.bl true, h) := by
  have hlen : blt .len [d] h = some (.int ds.length, h) := by rcases hd with rfl | rfl <;> rfl
  have hget : ∀ i, i < ds.length → ∃ x ∈ ds, getI h d (.int (i : Nat)) = some x := by
    intro i hi
    refine ⟨ds[i], List.getElem_mem hi, ?_⟩
    have : L2.atI ds (i : Nat) = some ds[i] := at_nat (by simp [hi])
    rcases hd with rfl | rfl <;> exact this
  have hc := cp_nothing (cl := evF FT gl n) (gl := gl) (σ := [some d, some d, none, none]) (h := h) (ce := .var 2) (ci := .not (.cl f__law_same (.cons (.ix (.var 0) (.var 2)) (.cons (.ix (.var 1) (.var 2)) .nil)))) (t := .name 2) (it := .rng1 (.bt .len (.cons (.var 1) .nil))) (own := [2]) (src := none) (xs := List.range ds.length) (mk := fun i : Nat => .int (i : Nat)) (by
      rw [ei_rng1n (n := ds.length) (h' := h) (by simp only [e_var, e_non, e_bl, e_int, e_str, e_ty, e_glob, e_op, e_neg, e_cmp, e_chn, e_bop, e_not, e_ife, e_tup, e_lst, e_ix, e_sl, e_cl, e_ck, e_bt, e_mt, eb_one, eb_cons, es_nil, es_cons, eo_none, eo_some, ec_none, ec_some, et_name, et_tup, et_tupl, et_sub, ets_nil, ets_cons, ei_seq, ei_rng1, ei_rng2, ei_zip, s_asg_, s_par_, s_ex_, s_ret_, s_retN_, s_ite_, ss_nil_, fin_rt, fin_nx, wipeD, lim, isK, testT, isNon, isAny, o_add, o_sub, o_mul, o_fdiv, o_mod, o_pow, o_addt, o_addl, o_mult, k_eq, k_ne, k_lt, k_le, k_gt, k_ge, k_isb, k_isn, k_isnn, k_eqb, k_eql, k_nel, k_in, k_nin, g_tup_, g_lst_, g_frz_, g_cel_, sl_tup_, sl_lst_, sl_frz_, sq_tup, sq_lst, zp_tup, n_lent, n_lenl, n_lenf, n_abs, n_int, n_intb, n_max, n_min, n_sum, n_tupl, n_tupt, n_tupc, n_all, n_any, n_gcd, n_isi, n_isit, y_int, y_bl, y_tup, y_lst, y_non, q_app, List.getElem?_cons_zero, List.getElem?_cons_succ, List.getElem?_nil, List.set_cons_zero, List.set_cons_succ, Option.bind_some, Option.map_some, Option.bind_none, List.length_cons, List.length_nil, Bool.false_eq_true, if_true, if_false, List.nil_append, List.cons_append, hlen]) hl, rngL_map]) (by simp) (by
      intro i hi
      obtain ⟨x, hx, hg⟩ := hget i (List.mem_range.mp hi)
      refine ⟨[some d, some d, some (.int (i : Nat)), none], by simp only [e_var, e_non, e_bl, e_int, e_str, e_ty, e_glob, e_op, e_neg, e_cmp, e_chn, e_bop, e_not, e_ife, e_tup, e_lst, e_ix, e_sl, e_cl, e_ck, e_bt, e_mt, eb_one, eb_cons, es_nil, es_cons, eo_none, eo_some, ec_none, ec_some, et_name, et_tup, et_tupl, et_sub, ets_nil, ets_cons, ei_seq, ei_rng1, ei_rng2, ei_zip, s_asg_, s_par_, s_ex_, s_ret_, s_retN_, s_ite_, ss_nil_, fin_rt, fin_nx, wipeD, lim, isK, testT, isNon, isAny, o_add, o_sub, o_mul, o_fdiv, o_mod, o_pow, o_addt, o_addl, o_mult, k_eq, k_ne, k_lt, k_le, k_gt, k_ge, k_isb, k_isn, k_isnn, k_eqb, k_eql, k_nel, k_in, k_nin, g_tup_, g_lst_, g_frz_, g_cel_, sl_tup_, sl_lst_, sl_frz_, sq_tup, sq_lst, zp_tup, n_lent, n_lenl, n_lenf, n_abs, n_int, n_intb, n_max, n_min, n_sum, n_tupl, n_tupt, n_tupc, n_all, n_any, n_gcd, n_isi, n_isit, y_int, y_bl, y_tup, y_lst, y_non, q_app, List.getElem?_cons_zero, List.getElem?_cons_succ, List.getElem?_nil, List.set_cons_zero, List.set_cons_succ, Option.bind_some, Option.map_some, Option.bind_none, List.length_cons, List.length_nil, Bool.false_eq_true, if_true, if_false, List.nil_append, List.cons_append], ?_⟩
      simp only [e_var, e_non, e_bl, e_int, e_str, e_ty, e_glob, e_op, e_neg, e_cmp, e_chn, e_bop, e_not, e_ife, e_tup, e_lst, e_ix, e_sl, e_cl, e_ck, e_bt, e_mt, eb_one, eb_cons, es_nil, es_cons, eo_none, eo_some, ec_none, ec_some, et_name, et_tup, et_tupl, et_sub, ets_nil, ets_cons, ei_seq, ei_rng1, ei_rng2, ei_zip, s_asg_, s_par_, s_ex_, s_ret_, s_retN_, s_ite_, ss_nil_, fin_rt, fin_nx, wipeD, lim, isK, testT, isNon, isAny, o_add, o_sub, o_mul, o_fdiv, o_mod, o_pow, o_addt, o_addl, o_mult, k_eq, k_ne, k_lt, k_le, k_gt, k_ge, k_isb, k_isn, k_isnn, k_eqb, k_eql, k_nel, k_in, k_nin, g_tup_, g_lst_, g_frz_, g_cel_, sl_tup_, sl_lst_, sl_frz_, sq_tup, sq_lst, zp_tup, n_lent, n_lenl, n_lenf, n_abs, n_int, n_intb, n_max, n_min, n_sum, n_tupl, n_tupt, n_tupc, n_all, n_any, n_gcd, n_isi, n_isit, y_int, y_bl, y_tup, y_lst, y_non, q_app, List.getElem?_cons_zero, List.getElem?_cons_succ, List.getElem?_nil, List.set_cons_zero, List.set_cons_succ, Option.bind_some, Option.map_some, Option.bind_none, List.length_cons, List.length_nil, Bool.false_eq_true, if_true, if_false, List.nil_append, List.cons_append, hg, ih x hx]; rfl)
  have hn : eqD h (.lst []) (.lst []) = some true := eq_nil h [] (by decide)
  have hty : tyOf d = some "tuple" ∨ tyOf d = some "list" := by rcases hd with rfl | rfl; exact .inl rfl; exact .inr rfl
  have hnn : isNon d = false := by rcases hd with rfl | rfl <;> rfl
  rw [run_g (F := ⟨2, 4, b__law_same, false⟩) [some d, some d, none, none] rfl rfl rfl rfl, b__law_same, ss_nx (σ' := [some d, some d, none, none]) (h' := h), ss_nx (σ' := [some d, some d, none, none]) (h' := h), ss_nx (σ' := [some d, some d, none, none]) (h' := h), ss_nx (σ' := [some d, some d, none, none]) (h' := h), ss_nx (σ' := [some d, some d, none, none]) (h' := h), ss_nx (σ' := [some d, some d, none, none]) (h' := h), ss_rt (h' := h) (d := .bl true)]
  · exact fin_rt
  · simp only [s_ret_, e_cmp, hc, Option.bind_some, e_lst, es_nil]
    simp [lim, k_eql, hn]
  · rcases hty with e | e <;> simp [e_var, e_non, e_bl, e_int, e_str, e_ty, e_glob, e_op, e_neg, e_cmp, e_chn, e_bop, e_not, e_ife, e_tup, e_lst, e_ix, e_sl, e_cl, e_ck, e_bt, e_mt, eb_one, eb_cons, es_nil, es_cons, eo_none, eo_some, ec_none, ec_some, et_name, et_tup, et_tupl, et_sub, ets_nil, ets_cons, ei_seq, ei_rng1, ei_rng2, ei_zip, s_asg_, s_par_, s_ex_, s_ret_, s_retN_, s_ite_, ss_nil_, fin_rt, fin_nx, wipeD, lim, isK, testT, isNon, isAny, o_add, o_sub, o_mul, o_fdiv, o_mod, o_pow, o_addt, o_addl, o_mult, k_eq, k_ne, k_lt, k_le, k_gt, k_ge, k_isb, k_isn, k_isnn, k_eqb, k_eql, k_nel, k_in, k_nin, g_tup_, g_lst_, g_frz_, g_cel_, sl_tup_, sl_lst_, sl_frz_, sq_tup, sq_lst, zp_tup, n_lent, n_lenl, n_lenf, n_abs, n_int, n_intb, n_max, n_min, n_sum, n_tupl, n_tupt, n_tupc, n_all, n_any, n_gcd, n_isi, n_isit, y_int, y_bl, y_tup, y_lst, y_non, q_app, e, hlen, k_neb]
  · rcases hty with e | e <;> simp [e_var, e_non, e_bl, e_int, e_str, e_ty, e_glob, e_op, e_neg, e_cmp, e_chn, e_bop, e_not, e_ife, e_tup, e_lst, e_ix, e_sl, e_cl, e_ck, e_bt, e_mt, eb_one, eb_cons, es_nil, es_cons, eo_none, eo_some, ec_none, ec_some, et_name, et_tup, et_tupl, et_sub, ets_nil, ets_cons, ei_seq, ei_rng1, ei_rng2, ei_zip, s_asg_, s_par_, s_ex_, s_ret_, s_retN_, s_ite_, ss_nil_, fin_rt, fin_nx, wipeD, lim, isK, testT, isNon, isAny, o_add, o_sub, o_mul, o_fdiv, o_mod, o_pow, o_addt, o_addl, o_mult, k_eq, k_ne, k_lt, k_le, k_gt, k_ge, k_isb, k_isn, k_isnn, k_eqb, k_eql, k_nel, k_in, k_nin, g_tup_, g_lst_, g_frz_, g_cel_, sl_tup_, sl_lst_, sl_frz_, sq_tup, sq_lst, zp_tup, n_lent, n_lenl, n_lenf, n_abs, n_int, n_intb, n_max, n_min, n_sum, n_tupl, n_tupt, n_tupc, n_all, n_any, n_gcd, n_isi, n_isit, y_int, y_bl, y_tup, y_lst, y_non, q_app, e]
  · rcases hty with e | e <;> simp [e_var, e_non, e_bl, e_int, e_str, e_ty, e_glob, e_op, e_neg, e_cmp, e_chn, e_bop, e_not, e_ife, e_tup, e_lst, e_ix, e_sl, e_cl, e_ck, e_bt, e_mt, eb_one, eb_cons, es_nil, es_cons, eo_none, eo_some, ec_none, ec_some, et_name, et_tup, et_tupl, et_sub, ets_nil, ets_cons, ei_seq, ei_rng1, ei_rng2, ei_zip, s_asg_, s_par_, s_ex_, s_ret_, s_retN_, s_ite_, ss_nil_, fin_rt, fin_nx, wipeD, lim, isK, testT, isNon, isAny, o_add, o_sub, o_mul, o_fdiv, o_mod, o_pow, o_addt, o_addl, o_mult, k_eq, k_ne, k_lt, k_le, k_gt, k_ge, k_isb, k_isn, k_isnn, k_eqb, k_eql, k_nel, k_in, k_nin, g_tup_, g_lst_, g_frz_, g_cel_, sl_tup_, sl_lst_, sl_frz_, sq_tup, sq_lst, zp_tup, n_lent, n_lenl, n_lenf, n_abs, n_int, n_intb, n_max, n_min, n_sum, n_tupl, n_tupt, n_tupc, n_all, n_any, n_gcd, n_isi, n_isit, y_int, y_bl, y_tup, y_lst, y_non, q_app, e]
  · rcases hty with e | e <;> simp [e_var, e_non, e_bl, e_int, e_str, e_ty, e_glob, e_op, e_neg, e_cmp, e_chn, e_bop, e_not, e_ife, e_tup, e_lst, e_ix, e_sl, e_cl, e_ck, e_bt, e_mt, eb_one, eb_cons, es_nil, es_cons, eo_none, eo_some, ec_none, ec_some, et_name, et_tup, et_tupl, et_sub, ets_nil, ets_cons, ei_seq, ei_rng1, ei_rng2, ei_zip, s_asg_, s_par_, s_ex_, s_ret_, s_retN_, s_ite_, ss_nil_, fin_rt, fin_nx, wipeD, lim, isK, testT, isNon, isAny, o_add, o_sub, o_mul, o_fdiv, o_mod, o_pow, o_addt, o_addl, o_mult, k_eq, k_ne, k_lt, k_le, k_gt, k_ge, k_isb, k_isn, k_isnn, k_eqb, k_eql, k_nel, k_in, k_nin, g_tup_, g_lst_, g_frz_, g_cel_, sl_tup_, sl_lst_, sl_frz_, sq_tup, sq_lst, zp_tup, n_lent, n_lenl, n_lenf, n_abs, n_int, n_intb, n_max, n_min, n_sum, n_tupl, n_tupt, n_tupc, n_all, n_any, n_gcd, n_isi, n_isit, y_int, y_bl, y_tup, y_lst, y_non, q_app, e]
  · rcases hty with e | e <;> simp [e_var, e_non, e_bl, e_int, e_str, e_ty, e_glob, e_op, e_neg, e_cmp, e_chn, e_bop, e_not, e_ife, e_tup, e_lst, e_ix, e_sl, e_cl, e_ck, e_bt, e_mt, eb_one, eb_cons, es_nil, es_cons, eo_none, eo_some, ec_none, ec_some, et_name, et_tup, et_tupl, et_sub, ets_nil, ets_cons, ei_seq, ei_rng1, ei_rng2, ei_zip, s_asg_, s_par_, s_ex_, s_ret_, s_retN_, s_ite_, ss_nil_, fin_rt, fin_nx, wipeD, lim, isK, testT, isNon, isAny, o_add, o_sub, o_mul, o_fdiv, o_mod, o_pow, o_addt, o_addl, o_mult, k_eq, k_ne, k_lt, k_le, k_gt, k_ge, k_isb, k_isn, k_isnn, k_eqb, k_eql, k_nel, k_in, k_nin, g_tup_, g_lst_, g_frz_, g_cel_, sl_tup_, sl_lst_, sl_frz_, sq_tup, sq_lst, zp_tup, n_lent, n_lenl, n_lenf, n_abs, n_int, n_intb, n_max, n_min, n_sum, n_tupl, n_tupt, n_tupc, n_all, n_any, n_gcd, n_isi, n_isit, y_int, y_bl, y_tup, y_lst, y_non, q_app, e]
  · rcases hty with e | e <;> simp [e_bop, eb_cons, eb_one, s_ite_, e_cmp, e_var, e_non, k_isn, hnn, e_bt, es_cons, es_nil, e_ty, n_isi, e, isK, testT, ss_nil_]
theorem r_same_int (i : Int) (h : Hs) (m : Nat) (hm : 1 ≤ m) : evF FT gl m f__law_same [.int i, .int i] h = some (.bl true, h) := by
  obtain ⟨n, rfl, hn⟩ := lv hm
  rw [run_g (F := ⟨2, 4, b__law_same, false⟩) [some (.int i), some (.int i), none, none] rfl rfl rfl rfl, b__law_same, ss_nx (σ' := [some (.int i), some (.int i), none, none]) (h' := h), ss_rt (h' := h) (d := .bl true)]
  · exact fin_rt
  · simp [e_var, e_non, e_bl, e_int, e_str, e_ty, e_glob, e_op, e_neg, e_cmp, e_chn, e_bop, e_not, e_ife, e_tup, e_lst, e_ix, e_sl, e_cl, e_ck, e_bt, e_mt, eb_one, eb_cons, es_nil, es_cons, eo_none, eo_some, ec_none, ec_some, et_name, et_tup, et_tupl, et_sub, ets_nil, ets_cons, ei_seq, ei_rng1, ei_rng2, ei_zip, s_asg_, s_par_, s_ex_, s_ret_, s_retN_, s_ite_, ss_nil_, fin_rt, fin_nx, wipeD, lim, isK, testT, isNon, isAny, o_add, o_sub, o_mul, o_fdiv, o_mod, o_pow, o_addt, o_addl, o_mult, k_eq, k_ne, k_lt, k_le, k_gt, k_ge, k_isb, k_isn, k_isnn, k_eqb, k_eql, k_nel, k_in, k_nin, g_tup_, g_lst_, g_frz_, g_cel_, sl_tup_, sl_lst_, sl_frz_, sq_tup, sq_lst, zp_tup, n_lent, n_lenl, n_lenf, n_abs, n_int, n_intb, n_max, n_min, n_sum, n_tupl, n_tupt, n_tupc, n_all, n_any, n_gcd, n_isi, n_isit, y_int, y_bl, y_tup, y_lst, y_non, q_app, ss_cons_]
  · simp [e_var, e_non, e_bl, e_int, e_str, e_ty, e_glob, e_op, e_neg, e_cmp, e_chn, e_bop, e_not, e_ife, e_tup, e_lst, e_ix, e_sl, e_cl, e_ck, e_bt, e_mt, eb_one, eb_cons, es_nil, es_cons, eo_none, eo_some, ec_none, ec_some, et_name, et_tup, et_tupl, et_sub, ets_nil, ets_cons, ei_seq, ei_rng1, ei_rng2, ei_zip, s_asg_, s_par_, s_ex_, s_ret_, s_retN_, s_ite_, ss_nil_, fin_rt, fin_nx, wipeD, lim, isK, testT, isNon, isAny, o_add, o_sub, o_mul, o_fdiv, o_mod, o_pow, o_addt, o_addl, o_mult, k_eq, k_ne, k_lt, k_le, k_gt, k_ge, k_isb, k_isn, k_isnn, k_eqb, k_eql, k_nel, k_in, k_nin, g_tup_, g_lst_, g_frz_, g_cel_, sl_tup_, sl_lst_, sl_frz_, sq_tup, sq_lst, zp_tup, n_lent, n_lenl, n_lenf, n_abs, n_int, n_intb, n_max, n_min, n_sum, n_tupl, n_tupt, n_tupc, n_all, n_any, n_gcd, n_isi, n_isit, y_int, y_bl, y_tup, y_lst, y_non, q_app]
theorem r_same (h : Hs) : ∀ (n : Nat) (d : D), SameOk n d → ∀ m, n + 1 ≤ m → evF FT gl m f__law_same [d, d] h = some (.bl true, h)
  | n, .int i, _, m, hm => r_same_int i h m (by omega)
  | n + 1, .tup ds, hd, m, hm => by
    obtain ⟨k, rfl, hk⟩ := lv hm
    obtain ⟨hl, hx⟩ : ds.length ≤ lim ∧ ∀ d ∈ ds, SameOk n d := hd
    exact r_same_seq k _ ds (.inl rfl) hl h fun x hx' => r_same h n x (hx x hx') k hk
  | n + 1, .lst ds, hd, m, hm => by
    obtain ⟨k, rfl, hk⟩ := lv hm
    obtain ⟨hl, hx⟩ : ds.length ≤ lim ∧ ∀ d ∈ ds, SameOk n d := hd
    exact r_same_seq k _ ds (.inr rfl) hl h fun x hx' => r_same h n x (hx x hx') k hk
  | n, .non, hd, _, _ => by cases n <;> exact False.elim hd
  | n, .bl _, hd, _, _ => by cases n <;> exact False.elim hd
  | n, .str _, hd, _, _ => by cases n <;> exact False.elim hd
  | n, .ty _, hd, _, _ => by cases n <;> exact False.elim hd
  | n, .frz _, hd, _, _ => by cases n <;> exact False.elim hd
  | n, .cel _, hd, _, _ => by cases n <;> exact False.elim hd
  | 0, .tup _, hd, _, _ => False.elim hd
  | 0, .lst _, hd, _, _ => False.elim hd
theorem same_fr (q : Rat) (n : Nat) : SameOk (n + 1) (fr q) := by
  refine ⟨by simp [lim], ?_⟩
  intro d hd
  simp at hd
  rcases hd with rfl | rfl <;> (cases n <;> exact trivial)
theorem same_int (i : Int) (n : Nat) : SameOk n (.int i) := by cases n <;> exact trivial
theorem same_P (ns : List Int) (w : Int) (hl : ns.length ≤ 10) (n : Nat) : SameOk (n + 1) (P ns w) := by
  rw [P_eq]
  refine ⟨by simp [lim]; omega, ?_⟩
  intro d hd
  obtain ⟨i, _, rfl⟩ := List.mem_map.mp hd
  exact same_int i n
theorem same_pt {cs : List Rat} {k : Nat} (h : Ok cs k) (hl : cs.length ≤ 10) (n : Nat) : SameOk (n + 1) (pt cs) := by
  obtain ⟨ns, w, e, _, _, rfl, _⟩ := h
  rw [ov_len] at hl
  rw [e]
  exact same_P ns w hl n
theorem clean_ints (n : Nat) : ∀ xs : List Int, cleans n (xs.map D.int) = true
  | [] => by simp [cleans]
  | x :: xs => by simp [cleans, Py.clean, clean_ints n xs]
theorem clean_P (n : Nat) (ns : List Int) (w : Int) : Py.clean n (P ns w) = true := by
  rw [P_eq, Py.clean]
  exact clean_ints n _
theorem clean_pt (n : Nat) {cs : List Rat} {k : Nat} (h : Ok cs k) : Py.clean n (pt cs) = true ∧ ∀ c, pt cs ≠ .cel c := by
  obtain ⟨ns, w, e, _⟩ := h
  rw [e]
  refine ⟨clean_P n ns w, fun c => ?_⟩
  rw [P]
  intro x; cases x
/-! the excess -/
theorem r_lover (as : List Int) (c : Int) (cs : List Rat) {i k : Nat} (hs : Sd as c i) (hp : Ok cs k) (hl : cs.length = as.length) (i0 : 0 < i) (k0 : 0 < k) (ik : i + k ≤ 8000) (h : Hs) (m : Nat) (hm : 3 ≤ m) :
    evF FT gl m f__law_over [P as c, pt cs] h = some (fr (overQ as c cs), h) ∧ Fq (overQ as c cs) (i + k + 4) := by
  obtain ⟨n, rfl, hn⟩ := lv hm
  obtain ⟨ns, w, ea, hw, hg, rfl, sa, sw⟩ := hp
  rw [ov_len] at hl
  have hl3 : as.length ≤ 3 := by rcases hs.len with e | e <;> omega
  have s1 := dot_sz hs.sz sa hl3
  have s2 := (hs.szc.mul sw).mono (j := i + k + 3) (by omega)
  have s3 := s1.sub s2
  have h3 := r_llow (dotI as ns - c * w) w hw s3 (sw.mono (by omega)) (by omega) (by omega) h n (by omega)
  have h4 := fq_low hw s3 (sw.mono (j := i + k + 4) (by omega))
  rw [dot_over hw] at h3 h4
  refine ⟨?_, h4⟩
  have gP : ∀ (as : List Int) (c : Int) (x : Nat) (hx : x < as.length), getI h (P as c) (.int x) = some (.int as[x]) := by
    intro as c x hx
    rw [P, g_tup_]
    exact at_nat (by simp [hx, List.getElem?_append_left])
  have hc := cp_rng (cl := evF FT gl n) (gl := gl) (σ := [some (P as c), some (P ns w), none]) (h := h) (i := 2) (ce := (.op .mul (.ix (.var 0) (.var 2)) (.ix (.var 1) (.var 2)))) (it := (.rng1 (.op .sub (.bt .len (.cons (.var 1) .nil)) (.int 1)))) (n := ns.length) (fun x => .int (as[x]?.getD 0 * ns[x]?.getD 0)) (by
      refine ei_rng1n (n := ns.length) ?_ (by simp [lim]; omega)
      simp only [e_var, e_non, e_bl, e_int, e_str, e_ty, e_glob, e_op, e_neg, e_cmp, e_chn, e_bop, e_not, e_ife, e_tup, e_lst, e_ix, e_sl, e_cl, e_ck, e_bt, e_mt, eb_one, eb_cons, es_nil, es_cons, eo_none, eo_some, ec_none, ec_some, et_name, et_tup, et_tupl, et_sub, ets_nil, ets_cons, ei_seq, ei_rng1, ei_rng2, ei_zip, s_asg_, s_par_, s_ex_, s_ret_, s_retN_, s_ite_, ss_nil_, fin_rt, fin_nx, wipeD, lim, isK, testT, isNon, isAny, o_add, o_sub, o_mul, o_fdiv, o_mod, o_pow, o_addt, o_addl, o_mult, k_eq, k_ne, k_lt, k_le, k_gt, k_ge, k_isb, k_isn, k_isnn, k_eqb, k_eql, k_nel, k_in, k_nin, g_tup_, g_lst_, g_frz_, g_cel_, sl_tup_, sl_lst_, sl_frz_, sq_tup, sq_lst, zp_tup, n_lent, n_lenl, n_lenf, n_abs, n_int, n_intb, n_max, n_min, n_sum, n_tupl, n_tupt, n_tupc, n_all, n_any, n_gcd, n_isi, n_isit, y_int, y_bl, y_tup, y_lst, y_non, q_app, List.getElem?_cons_zero, List.getElem?_cons_succ, List.getElem?_nil, List.set_cons_zero, List.set_cons_succ, Option.bind_some, Option.map_some, Option.bind_none, List.length_cons, List.length_nil, Bool.false_eq_true, if_true, if_false, List.nil_append, List.cons_append, P_len, Int.add_sub_cancel]) (by simp [lim]; omega) (by
      intro x hx
      have m1 := Sz.ok (hs.sz as[x] (List.getElem_mem (by omega))) (sa ns[x] (List.getElem_mem hx)) i0 k0 (by omega)
      simp [e_var, e_non, e_bl, e_int, e_str, e_ty, e_glob, e_op, e_neg, e_cmp, e_chn, e_bop, e_not, e_ife, e_tup, e_lst, e_ix, e_sl, e_cl, e_ck, e_bt, e_mt, eb_one, eb_cons, es_nil, es_cons, eo_none, eo_some, ec_none, ec_some, et_name, et_tup, et_tupl, et_sub, ets_nil, ets_cons, ei_seq, ei_rng1, ei_rng2, ei_zip, s_asg_, s_par_, s_ex_, s_ret_, s_retN_, s_ite_, ss_nil_, fin_rt, fin_nx, wipeD, lim, isK, testT, isNon, isAny, o_add, o_sub, o_mul, o_fdiv, o_mod, o_pow, o_addt, o_addl, o_mult, k_eq, k_ne, k_lt, k_le, k_gt, k_ge, k_isb, k_isn, k_isnn, k_eqb, k_eql, k_nel, k_in, k_nin, g_tup_, g_lst_, g_frz_, g_cel_, sl_tup_, sl_lst_, sl_frz_, sq_tup, sq_lst, zp_tup, n_lent, n_lenl, n_lenf, n_abs, n_int, n_intb, n_max, n_min, n_sum, n_tupl, n_tupt, n_tupc, n_all, n_any, n_gcd, n_isi, n_isit, y_int, y_bl, y_tup, y_lst, y_non, q_app, gP as c x (by omega), gP ns w x hx, m1, hx, show x < as.length by omega])
  have e : (List.range ns.length).map (fun x => as[x]?.getD 0 * ns[x]?.getD 0) = List.zipWith (fun a x => a * x) as ns := by
    apply List.ext_getElem
    · simp [hl]
    · intro x h1 h2
      simp at h1
      simp [h1, show x < as.length by omega]
  have e2 : intsD ((List.range ns.length).map (fun x => D.int (as[x]?.getD 0 * ns[x]?.getD 0))) = some (List.zipWith (fun a x => a * x) as ns) := by
    rw [← e, ← ints_map, List.map_map]; rfl
  have m2 := Sz.ok hs.szc sw i0 k0 (by omega)
  rw [ea, run_g (F := ⟨2, 3, b__law_over, false⟩) [some (P as c), some (P ns w), none] rfl rfl rfl rfl, b__law_over, ss_rt (h' := h)]
  · exact fin_rt
  · simp only [s_ret_, e_cl, e_op, e_bt, es_cons, es_nil, hc, Option.bind_some, Option.map_some, n_sum, e2]
    have h5 : evF FT gl n f__law_low [.int ((List.zipWith (fun a x => a * x) as ns).sum - c * w), .int w] h = some (fr (overQ as c (ov w ns)), h) := h3
    simp only [e_var, e_non, e_bl, e_int, e_str, e_ty, e_glob, e_op, e_neg, e_cmp, e_chn, e_bop, e_not, e_ife, e_tup, e_lst, e_ix, e_sl, e_cl, e_ck, e_bt, e_mt, eb_one, eb_cons, es_nil, es_cons, eo_none, eo_some, ec_none, ec_some, et_name, et_tup, et_tupl, et_sub, ets_nil, ets_cons, ei_seq, ei_rng1, ei_rng2, ei_zip, s_asg_, s_par_, s_ex_, s_ret_, s_retN_, s_ite_, ss_nil_, fin_rt, fin_nx, wipeD, lim, isK, testT, isNon, isAny, o_add, o_sub, o_mul, o_fdiv, o_mod, o_pow, o_addt, o_addl, o_mult, k_eq, k_ne, k_lt, k_le, k_gt, k_ge, k_isb, k_isn, k_isnn, k_eqb, k_eql, k_nel, k_in, k_nin, g_tup_, g_lst_, g_frz_, g_cel_, sl_tup_, sl_lst_, sl_frz_, sq_tup, sq_lst, zp_tup, n_lent, n_lenl, n_lenf, n_abs, n_int, n_intb, n_max, n_min, n_sum, n_tupl, n_tupt, n_tupc, n_all, n_any, n_gcd, n_isi, n_isit, y_int, y_bl, y_tup, y_lst, y_non, q_app, List.getElem?_cons_zero, List.getElem?_cons_succ, List.getElem?_nil, List.set_cons_zero, List.set_cons_succ, Option.bind_some, Option.map_some, Option.bind_none, List.length_cons, List.length_nil, Bool.false_eq_true, if_true, if_false, List.nil_append, List.cons_append, P_get, m2, h5]
/-! the mix -/
theorem l_mix (n : Nat) (hn : 4 ≤ n) (s0 s1 : D) (s : Rat) (h : Hs) (all : List D) {k : Nat} (h0 : 0 < k) (hk : k ≤ 1000) (hs : Fq s k) : ∀ (xs ys zs : List Rat) (v u : Option D), xs.length = ys.length → zs.length + xs.length ≤ 10 → (∀ x ∈ xs, Fq x k) → (∀ y ∈ ys, Fq y k) →
    ∃ v' u', loopF (fun d σ h => evTg (evF FT gl n) gl (.tup (.cons (.name 4) (.cons (.name 5) .nil))) d σ h) (fun σ h => evSs (evF FT gl n) gl (.cons (.ex (.mt .append (.var 3) (.cons (.cl f__law_plus (.cons (.var 4) (.cons (.cl f__law_times (.cons (.var 2) (.cons (.cl f__law_less (.cons (.var 5) (.cons (.var 4) .nil))) .nil))) .nil))) .nil))) .nil) σ h) none all ((xs.map fr).zipWith (fun x y => .tup [x, y]) (ys.map fr)) [some s0, some s1, some (fr s), some (.cel h.length), v, u] (h ++ [zs.map fr]) =
    some (.nx [some s0, some s1, some (fr s), some (.cel h.length), v', u'] (h ++ [(zs ++ mixQ s xs ys).map fr]))
  | [], [], zs, v, u, _, _, _, _ => ⟨v, u, by simp [mixQ, lf_nil]⟩
  | [], _ :: _, zs, v, u, hl, _, _, _ => by simp at hl
  | _ :: _, [], zs, v, u, hl, _, _, _ => by simp at hl
  | x :: xs, y :: ys, zs, v, u, hl, hz, hx, hy => by
    have hx0 := hx x List.mem_cons_self
    have hy0 := hy y List.mem_cons_self
    have h1 := r_less y x hy0 hx0 h0 h0 (by omega) (h ++ [zs.map fr]) n (by omega)
    have h2 := r_times s (y - x) hs h1.2 h0 (by omega) (by omega) (h ++ [zs.map fr]) n (by omega)
    have h3 := r_plus x (s * (y - x)) hx0 h2.2 h0 (by omega) (by omega) (h ++ [zs.map fr]) n (by omega)
    obtain ⟨v', u', ih⟩ := l_mix n hn s0 s1 s h all h0 hk hs xs ys (zs ++ [x + s * (y - x)]) (some (fr x)) (some (fr y)) (by simpa using hl) (by simp at hz ⊢; omega) (fun z hz => hx z (List.mem_cons_of_mem _ hz)) (fun z hz => hy z (List.mem_cons_of_mem _ hz))
    refine ⟨v', u', ?_⟩
    rw [List.map_cons, List.map_cons, List.zipWith_cons_cons, lf_cons (σ1 := [some s0, some s1, some (fr s), some (.cel h.length), some (fr x), some (fr y)]) (h1 := h ++ [zs.map fr]) (by simp [e_var, e_non, e_bl, e_int, e_str, e_ty, e_glob, e_op, e_neg, e_cmp, e_chn, e_bop, e_not, e_ife, e_tup, e_lst, e_ix, e_sl, e_cl, e_ck, e_bt, e_mt, eb_one, eb_cons, es_nil, es_cons, eo_none, eo_some, ec_none, ec_some, et_name, et_tup, et_tupl, et_sub, ets_nil, ets_cons, ei_seq, ei_rng1, ei_rng2, ei_zip, s_asg_, s_par_, s_ex_, s_ret_, s_retN_, s_ite_, ss_nil_, fin_rt, fin_nx, wipeD, lim, isK, testT, isNon, isAny, o_add, o_sub, o_mul, o_fdiv, o_mod, o_pow, o_addt, o_addl, o_mult, k_eq, k_ne, k_lt, k_le, k_gt, k_ge, k_isb, k_isn, k_isnn, k_eqb, k_eql, k_nel, k_in, k_nin, g_tup_, g_lst_, g_frz_, g_cel_, sl_tup_, sl_lst_, sl_frz_, sq_tup, sq_lst, zp_tup, n_lent, n_lenl, n_lenf, n_abs, n_int, n_intb, n_max, n_min, n_sum, n_tupl, n_tupt, n_tupc, n_all, n_any, n_gcd, n_isi, n_isit, y_int, y_bl, y_tup, y_lst, y_non, q_app]) (σ2 := [some s0, some s1, some (fr s), some (.cel h.length), some (fr x), some (fr y)]) (h2 := h ++ [(zs ++ [x + s * (y - x)]).map fr]), ih]
    · simp [mixQ]
    · rw [ss_nx (σ' := [some s0, some s1, some (fr s), some (.cel h.length), some (fr x), some (fr y)]) (h' := h ++ [(zs ++ [x + s * (y - x)]).map fr]), ss_nil_]
      have g : (h ++ [zs.map fr])[h.length]? = some (zs.map fr) := by simp
      have hz' : zs.length < 100000 := by simp at hz; omega
      simp [e_var, e_non, e_bl, e_int, e_str, e_ty, e_glob, e_op, e_neg, e_cmp, e_chn, e_bop, e_not, e_ife, e_tup, e_lst, e_ix, e_sl, e_cl, e_ck, e_bt, e_mt, eb_one, eb_cons, es_nil, es_cons, eo_none, eo_some, ec_none, ec_some, et_name, et_tup, et_tupl, et_sub, ets_nil, ets_cons, ei_seq, ei_rng1, ei_rng2, ei_zip, s_asg_, s_par_, s_ex_, s_ret_, s_retN_, s_ite_, ss_nil_, fin_rt, fin_nx, wipeD, lim, isK, testT, isNon, isAny, o_add, o_sub, o_mul, o_fdiv, o_mod, o_pow, o_addt, o_addl, o_mult, k_eq, k_ne, k_lt, k_le, k_gt, k_ge, k_isb, k_isn, k_isnn, k_eqb, k_eql, k_nel, k_in, k_nin, g_tup_, g_lst_, g_frz_, g_cel_, sl_tup_, sl_lst_, sl_frz_, sq_tup, sq_lst, zp_tup, n_lent, n_lenl, n_lenf, n_abs, n_int, n_intb, n_max, n_min, n_sum, n_tupl, n_tupt, n_tupc, n_all, n_any, n_gcd, n_isi, n_isit, y_int, y_bl, y_tup, y_lst, y_non, q_app, h1.1, h2.1, h3.1, g, hz']
theorem ok_fq {cs : List Rat} {k : Nat} (h : Ok cs k) : ∀ q ∈ cs, Fq q k := by
  obtain ⟨ns, w, _, hw, _, rfl, sa, sw⟩ := h
  intro q hq
  obtain ⟨x, hx, rfl⟩ := List.mem_map.mp hq
  exact fq_low hw (sa x hx) sw
theorem fq_mix {a b : List Rat} {s : Rat} {k : Nat} (ha : ∀ q ∈ a, Fq q k) (hb : ∀ q ∈ b, Fq q k) (hs : Fq s k) (h0 : 0 < k) (hk : k ≤ 1000) : ∀ q ∈ mixQ s a b, Fq q (4 * k + 3) := by
  intro q hq
  obtain ⟨x, hx, y, hy, rfl⟩ := mem_zip hq
  have h1 := (r_less y x (hb y hy) (ha x hx) h0 h0 (by omega) [] 4 (by omega)).2
  have h2 := (r_times s (y - x) hs h1 h0 (by omega) (by omega) [] 4 (by omega)).2
  exact (r_plus x (s * (y - x)) (ha x hx) h2 h0 (by omega) (by omega) [] 4 (by omega)).2.mono (by omega)
theorem r_lmix (a b : List Rat) (s : Rat) {k : Nat} (ha : Ok a k) (hb : Ok b k) (hs : Fq s k) (hl : a.length ≤ 3) (hab : a.length = b.length) (h0 : 0 < k) (hk : k ≤ 400) (h : Hs) (m : Nat) (hm : 5 ≤ m) :
    evF FT gl m f__law_mix [pt a, pt b, fr s] h = some (pt (mixQ s a b), h) := by
  obtain ⟨n, rfl, hn⟩ := lv hm
  have h1 := r_lplaces a ha (by omega) h0 (by omega) (h ++ [[]]) n (by omega)
  have h2 := r_lplaces b hb (by omega) h0 (by omega) (h ++ [[]]) n (by omega)
  obtain ⟨v, u, hloop⟩ := l_mix n hn (pt a) (pt b) s h ((a.map fr).zipWith (fun x y => .tup [x, y]) (b.map fr)) h0 (by omega) hs a b [] none none hab (by simp; omega) (ok_fq ha) (ok_fq hb)
  have g : (h ++ [(mixQ s a b).map fr])[h.length]? = some ((mixQ s a b).map fr) := by simp
  have h3 := r_lat (.cel h.length) (mixQ s a b) (some h.length) (h ++ [(mixQ s a b).map fr]) (by simp [seqI]) (by intro c hc; cases hc; exact g) (fq_mix (ok_fq ha) (ok_fq hb) hs h0 (by omega)) (by simp [mixQ]; omega) (by omega) (by omega) n (by omega)
  have hcl := clean_pt h.length h3.2
  have hle := leave_ok' (h0 := h) (own := [(mixQ s a b).map fr]) (i := h.length) (B := []) (d := pt (mixQ s a b)) rfl hcl.1 hcl.2
  rw [List.set_eq_of_length_le (Nat.le_refl _)] at hle
  rw [run_gl (F := ⟨3, 6, b__law_mix, true⟩) [some (pt a), some (pt b), some (fr s), none, none, none] rfl rfl rfl rfl, b__law_mix, ss_nx (σ' := [some (pt a), some (pt b), some (fr s), some (.cel h.length), none, none]) (h' := h ++ [[]]), ss_nx (σ' := [some (pt a), some (pt b), some (fr s), some (.cel h.length), v, u]) (h' := h ++ [(mixQ s a b).map fr]), ss_rt (h' := h ++ [(mixQ s a b).map fr]) (d := pt (mixQ s a b))]
  · exact hle
  · simp only [e_var, e_non, e_bl, e_int, e_str, e_ty, e_glob, e_op, e_neg, e_cmp, e_chn, e_bop, e_not, e_ife, e_tup, e_lst, e_ix, e_sl, e_cl, e_ck, e_bt, e_mt, eb_one, eb_cons, es_nil, es_cons, eo_none, eo_some, ec_none, ec_some, et_name, et_tup, et_tupl, et_sub, ets_nil, ets_cons, ei_seq, ei_rng1, ei_rng2, ei_zip, s_asg_, s_par_, s_ex_, s_ret_, s_retN_, s_ite_, ss_nil_, fin_rt, fin_nx, wipeD, lim, isK, testT, isNon, isAny, o_add, o_sub, o_mul, o_fdiv, o_mod, o_pow, o_addt, o_addl, o_mult, k_eq, k_ne, k_lt, k_le, k_gt, k_ge, k_isb, k_isn, k_isnn, k_eqb, k_eql, k_nel, k_in, k_nin, g_tup_, g_lst_, g_frz_, g_cel_, sl_tup_, sl_lst_, sl_frz_, sq_tup, sq_lst, zp_tup, n_lent, n_lenl, n_lenf, n_abs, n_int, n_intb, n_max, n_min, n_sum, n_tupl, n_tupt, n_tupc, n_all, n_any, n_gcd, n_isi, n_isit, y_int, y_bl, y_tup, y_lst, y_non, q_app, List.getElem?_cons_zero, List.getElem?_cons_succ, List.getElem?_nil, List.set_cons_zero, List.set_cons_succ, Option.bind_some, Option.map_some, Option.bind_none, List.length_cons, List.length_nil, Bool.false_eq_true, if_true, if_false, List.nil_append, List.cons_append, h3.1]
  · have : evIt (evF FT gl n) gl (.zip (.cl f__law_places (.cons (.var 0) .nil)) (.cl f__law_places (.cons (.var 1) .nil))) [some (pt a), some (pt b), some (fr s), some (.cel h.length), none, none] (h ++ [[]]) = some ⟨(a.map fr).zipWith (fun x y => .tup [x, y]) (b.map fr), none, h ++ [[]]⟩ := by
      simp only [e_var, e_non, e_bl, e_int, e_str, e_ty, e_glob, e_op, e_neg, e_cmp, e_chn, e_bop, e_not, e_ife, e_tup, e_lst, e_ix, e_sl, e_cl, e_ck, e_bt, e_mt, eb_one, eb_cons, es_nil, es_cons, eo_none, eo_some, ec_none, ec_some, et_name, et_tup, et_tupl, et_sub, ets_nil, ets_cons, ei_seq, ei_rng1, ei_rng2, ei_zip, s_asg_, s_par_, s_ex_, s_ret_, s_retN_, s_ite_, ss_nil_, fin_rt, fin_nx, wipeD, lim, isK, testT, isNon, isAny, o_add, o_sub, o_mul, o_fdiv, o_mod, o_pow, o_addt, o_addl, o_mult, k_eq, k_ne, k_lt, k_le, k_gt, k_ge, k_isb, k_isn, k_isnn, k_eqb, k_eql, k_nel, k_in, k_nin, g_tup_, g_lst_, g_frz_, g_cel_, sl_tup_, sl_lst_, sl_frz_, sq_tup, sq_lst, zp_tup, n_lent, n_lenl, n_lenf, n_abs, n_int, n_intb, n_max, n_min, n_sum, n_tupl, n_tupt, n_tupc, n_all, n_any, n_gcd, n_isi, n_isit, y_int, y_bl, y_tup, y_lst, y_non, q_app, List.getElem?_cons_zero, List.getElem?_cons_succ, List.getElem?_nil, List.set_cons_zero, List.set_cons_succ, Option.bind_some, Option.map_some, Option.bind_none, List.length_cons, List.length_nil, Bool.false_eq_true, if_true, if_false, List.nil_append, List.cons_append, h1, h2]
      simp [hab]
    rw [s_for_, this]
    exact hloop
  · have : (0 : Nat) ≤ 100000 := by decide
    simp only [e_var, e_non, e_bl, e_int, e_str, e_ty, e_glob, e_op, e_neg, e_cmp, e_chn, e_bop, e_not, e_ife, e_tup, e_lst, e_ix, e_sl, e_cl, e_ck, e_bt, e_mt, eb_one, eb_cons, es_nil, es_cons, eo_none, eo_some, ec_none, ec_some, et_name, et_tup, et_tupl, et_sub, ets_nil, ets_cons, ei_seq, ei_rng1, ei_rng2, ei_zip, s_asg_, s_par_, s_ex_, s_ret_, s_retN_, s_ite_, ss_nil_, fin_rt, fin_nx, wipeD, lim, isK, testT, isNon, isAny, o_add, o_sub, o_mul, o_fdiv, o_mod, o_pow, o_addt, o_addl, o_mult, k_eq, k_ne, k_lt, k_le, k_gt, k_ge, k_isb, k_isn, k_isnn, k_eqb, k_eql, k_nel, k_in, k_nin, g_tup_, g_lst_, g_frz_, g_cel_, sl_tup_, sl_lst_, sl_frz_, sq_tup, sq_lst, zp_tup, n_lent, n_lenl, n_lenf, n_abs, n_int, n_intb, n_max, n_min, n_sum, n_tupl, n_tupt, n_tupc, n_all, n_any, n_gcd, n_isi, n_isit, y_int, y_bl, y_tup, y_lst, y_non, q_app, List.getElem?_cons_zero, List.getElem?_cons_succ, List.getElem?_nil, List.set_cons_zero, List.set_cons_succ, Option.bind_some, Option.map_some, Option.bind_none, List.length_cons, List.length_nil, Bool.false_eq_true, if_true, if_false, List.nil_append, List.cons_append, this]
end K03

set_option Elab.async false
set_option linter.all false
set_option maxRecDepth 100000
set_option maxHeartbeats 1000000
/-! k03: what the law draws. -/
namespace K03
open PySem L2 Py
theorem r_lshare (h : Hs) (i : Nat) (B : List D) (t : Nat) (hi : i < h.length) (hB : Bx B t) (ht : t + 2 < 2 ^ 30) (m : Nat) (hm : 3 ≤ m) :
    ∃ s B', evF FT gl m f__law_share [.cel i] (h.set i B) = some (fr s, h.set i B') ∧ (0 ≤ s ∧ s ≤ 1) ∧ Fq s 5 ∧ Bx B' (t + 2) := by
  obtain ⟨n, rfl, hn⟩ := lv hm
  obtain ⟨d, B1, e1, ⟨d0, d1⟩, b1⟩ := r_take 9 h i B t hi hB (by omega) (by decide) (by decide) n (by omega)
  obtain ⟨e, B2, e2, ⟨d2, d3⟩, b2⟩ := r_take (1 + d + 1) h i B1 (t + 1) hi b1 (by omega) (by omega) (by omega) n (by omega)
  have hd : 0 < 1 + d := by omega
  have s1 : Sz e 5 := by unfold Sz; omega
  have s2 : Sz (1 + d) 5 := by unfold Sz; omega
  have h3 := r_llow e (1 + d) hd s1 s2 (by decide) (by decide) (h.set i B2) n (by omega)
  refine ⟨(e : Rat) / ((1 + d : Int) : Rat), B2, ?_, ⟨?_, ?_⟩, fq_low hd s1 s2, b2⟩
  · rw [run_g (F := ⟨1, 2, b__law_share, false⟩) [some (.cel i), none] rfl rfl rfl rfl, b__law_share, ss_nx (σ' := [some (.cel i), some (.int (1 + d))]) (h' := h.set i B1), ss_rt (h' := h.set i B2)]
    · exact fin_rt
    · simp only [e_var, e_non, e_bl, e_int, e_str, e_ty, e_glob, e_op, e_neg, e_cmp, e_chn, e_bop, e_not, e_ife, e_tup, e_lst, e_ix, e_sl, e_cl, e_ck, e_bt, e_mt, eb_one, eb_cons, es_nil, es_cons, eo_none, eo_some, ec_none, ec_some, et_name, et_tup, et_tupl, et_sub, ets_nil, ets_cons, ei_seq, ei_rng1, ei_rng2, ei_zip, s_asg_, s_par_, s_ex_, s_ret_, s_retN_, s_ite_, ss_nil_, fin_rt, fin_nx, wipeD, lim, isK, testT, isNon, isAny, o_add, o_sub, o_mul, o_fdiv, o_mod, o_pow, o_addt, o_addl, o_mult, k_eq, k_ne, k_lt, k_le, k_gt, k_ge, k_isb, k_isn, k_isnn, k_eqb, k_eql, k_nel, k_in, k_nin, g_tup_, g_lst_, g_frz_, g_cel_, sl_tup_, sl_lst_, sl_frz_, sq_tup, sq_lst, zp_tup, n_lent, n_lenl, n_lenf, n_abs, n_int, n_intb, n_max, n_min, n_sum, n_tupl, n_tupt, n_tupc, n_all, n_any, n_gcd, n_isi, n_isit, y_int, y_bl, y_tup, y_lst, y_non, q_app, List.getElem?_cons_zero, List.getElem?_cons_succ, List.getElem?_nil, List.set_cons_zero, List.set_cons_succ, Option.bind_some, Option.map_some, Option.bind_none, List.length_cons, List.length_nil, Bool.false_eq_true, if_true, if_false, List.nil_append, List.cons_append, e2, h3]
    · simp only [e_var, e_non, e_bl, e_int, e_str, e_ty, e_glob, e_op, e_neg, e_cmp, e_chn, e_bop, e_not, e_ife, e_tup, e_lst, e_ix, e_sl, e_cl, e_ck, e_bt, e_mt, eb_one, eb_cons, es_nil, es_cons, eo_none, eo_some, ec_none, ec_some, et_name, et_tup, et_tupl, et_sub, ets_nil, ets_cons, ei_seq, ei_rng1, ei_rng2, ei_zip, s_asg_, s_par_, s_ex_, s_ret_, s_retN_, s_ite_, ss_nil_, fin_rt, fin_nx, wipeD, lim, isK, testT, isNon, isAny, o_add, o_sub, o_mul, o_fdiv, o_mod, o_pow, o_addt, o_addl, o_mult, k_eq, k_ne, k_lt, k_le, k_gt, k_ge, k_isb, k_isn, k_isnn, k_eqb, k_eql, k_nel, k_in, k_nin, g_tup_, g_lst_, g_frz_, g_cel_, sl_tup_, sl_lst_, sl_frz_, sq_tup, sq_lst, zp_tup, n_lent, n_lenl, n_lenf, n_abs, n_int, n_intb, n_max, n_min, n_sum, n_tupl, n_tupt, n_tupc, n_all, n_any, n_gcd, n_isi, n_isit, y_int, y_bl, y_tup, y_lst, y_non, q_app, List.getElem?_cons_zero, List.getElem?_cons_succ, List.getElem?_nil, List.set_cons_zero, List.set_cons_succ, Option.bind_some, Option.map_some, Option.bind_none, List.length_cons, List.length_nil, Bool.false_eq_true, if_true, if_false, List.nil_append, List.cons_append, e1]
  · refine Rat.num_nonneg.mp ?_
    rw [(low_eq e (1 + d) hd).1]
    exact Int.ediv_nonneg d2 (by omega)
  · rw [Rat.le_iff, (low_eq e (1 + d) hd).1, (low_eq e (1 + d) hd).2]
    show e / _ * 1 ≤ 1 * ((1 + d) / _)
    rw [Int.mul_one, Int.one_mul]
    exact Int.ediv_le_ediv (by have := (gcd_okE (a := e) hd s2 (by decide) (by decide)).1; exact this) (by omega)
theorem ints_of {k : Nat} : ∀ ds : List D, (∀ d ∈ ds, ∃ x : Int, d = .int x ∧ Sz x k) → ∃ xs : List Int, ds = xs.map D.int ∧ ∀ x ∈ xs, Sz x k
  | [], _ => ⟨[], rfl, by simp⟩
  | d :: ds, h => by
    obtain ⟨x, rfl, hx⟩ := h d List.mem_cons_self
    obtain ⟨xs, rfl, hxs⟩ := ints_of ds fun y hy => h y (List.mem_cons_of_mem _ hy)
    exact ⟨x :: xs, rfl, by
      intro y hy
      rcases List.mem_cons.mp hy with rfl | hy
      · exact hx
      · exact hxs y hy⟩
theorem r_anyp (size : Nat) (hsz : size ≤ 3) (h : Hs) (i : Nat) (B : List D) (t : Nat) (hi : i < h.length) (hB : Bx B t) (ht : t + 4 < 2 ^ 30) (m : Nat) (hm : 3 ≤ m) :
    ∃ cs B', evF FT gl m f__law_any_point [.cel i, .int size, .int 4, .bl false] (h.set i B) = some (pt cs, h.set i B') ∧ Ok cs 6 ∧ cs.length = size ∧ Bx B' (t + 4) := by
  obtain ⟨n, rfl, hn⟩ := lv hm
  obtain ⟨d, B1, e1, ⟨d0, d1⟩, b1⟩ := r_take 4 h i B t hi hB (by omega) (by decide) (by decide) n (by omega)
  obtain ⟨w, hw0, hw1, hget⟩ : ∃ w : Int, 1 ≤ w ∧ w ≤ 3 ∧ L2.atI [D.int 1, .int 1, .int 2, .int 3] d = some (.int w) := by
    have : d = 0 ∨ d = 1 ∨ d = 2 ∨ d = 3 := by omega
    rcases this with rfl | rfl | rfl | rfl
    · exact ⟨1, by decide, by decide, at_0 _ _⟩
    · exact ⟨1, by decide, by decide, at_1 _ _ _⟩
    · exact ⟨2, by decide, by decide, at_2 _ _ _ _⟩
    · exact ⟨3, by decide, by decide, at_3 _ _ _ _ _⟩
  have m1 : mulOk 2 4 = true := by decide
  have m2 : mulOk (2 * 4) w = true := Sz.ok (i := 4) (j := 4) (by unfold Sz; decide) (by unfold Sz; omega) (by decide) (by decide) (by decide)
  have m3 : mulOk 4 w = true := Sz.ok (i := 4) (j := 4) (by unfold Sz; decide) (by unfold Sz; omega) (by decide) (by decide) (by decide)
  obtain ⟨ds, B2, e2, l2, q2, b2⟩ := cp_cell (cl := evF FT gl n) (gl := gl) (Bx := Bx) (Q := fun d => ∃ x : Int, d = .int x ∧ Sz x 6) (T := t + 4) (c := 1) (h := h) (i := i) (σ := [some (.cel i), some (.int size), some (.int 4), some (.bl false), some (.int w), none]) (ce := (.op .sub (.cl f__law_take (.cons (.var 0) (.cons (.op .add (.op .mul (.op .mul (.int 2) (.var 2)) (.var 4)) (.int 1)) .nil))) (.op .mul (.var 2) (.var 4)))) (t := .name 5) (own := [5]) (it := .rng1 (.var 1)) (xs := rngL 0 size) (mu := false) (B := B1) (t0 := t + 1)
    (ei_rng1n (by simp only [e_var, e_non, e_bl, e_int, e_str, e_ty, e_glob, e_op, e_neg, e_cmp, e_chn, e_bop, e_not, e_ife, e_tup, e_lst, e_ix, e_sl, e_cl, e_ck, e_bt, e_mt, eb_one, eb_cons, es_nil, es_cons, eo_none, eo_some, ec_none, ec_some, et_name, et_tup, et_tupl, et_sub, ets_nil, ets_cons, ei_seq, ei_rng1, ei_rng2, ei_zip, s_asg_, s_par_, s_ex_, s_ret_, s_retN_, s_ite_, ss_nil_, fin_rt, fin_nx, wipeD, lim, isK, testT, isNon, isAny, o_add, o_sub, o_mul, o_fdiv, o_mod, o_pow, o_addt, o_addl, o_mult, k_eq, k_ne, k_lt, k_le, k_gt, k_ge, k_isb, k_isn, k_isnn, k_eqb, k_eql, k_nel, k_in, k_nin, g_tup_, g_lst_, g_frz_, g_cel_, sl_tup_, sl_lst_, sl_frz_, sq_tup, sq_lst, zp_tup, n_lent, n_lenl, n_lenf, n_abs, n_int, n_intb, n_max, n_min, n_sum, n_tupl, n_tupt, n_tupc, n_all, n_any, n_gcd, n_isi, n_isit, y_int, y_bl, y_tup, y_lst, y_non, q_app, List.getElem?_cons_zero, List.getElem?_cons_succ, List.getElem?_nil, List.set_cons_zero, List.set_cons_succ, Option.bind_some, Option.map_some, Option.bind_none, List.length_cons, List.length_nil, Bool.false_eq_true, if_true, if_false, List.nil_append, List.cons_append]) (by unfold lim; omega)) (by simp [rngL, lim]; omega) (by
      intro x hx B3 t3 b3 ht3
      obtain ⟨e, B4, e4, ⟨d4, d5⟩, b4⟩ := r_take (2 * 4 * w + 1) h i B3 t3 hi b3 (by omega) (by omega) (by omega) n (by omega)
      refine ⟨_, .int (e - 4 * w), B4, et_name, ?_, ⟨_, rfl, by unfold Sz; omega⟩, b4⟩
      simp only [e_var, e_non, e_bl, e_int, e_str, e_ty, e_glob, e_op, e_neg, e_cmp, e_chn, e_bop, e_not, e_ife, e_tup, e_lst, e_ix, e_sl, e_cl, e_ck, e_bt, e_mt, eb_one, eb_cons, es_nil, es_cons, eo_none, eo_some, ec_none, ec_some, et_name, et_tup, et_tupl, et_sub, ets_nil, ets_cons, ei_seq, ei_rng1, ei_rng2, ei_zip, s_asg_, s_par_, s_ex_, s_ret_, s_retN_, s_ite_, ss_nil_, fin_rt, fin_nx, wipeD, lim, isK, testT, isNon, isAny, o_add, o_sub, o_mul, o_fdiv, o_mod, o_pow, o_addt, o_addl, o_mult, k_eq, k_ne, k_lt, k_le, k_gt, k_ge, k_isb, k_isn, k_isnn, k_eqb, k_eql, k_nel, k_in, k_nin, g_tup_, g_lst_, g_frz_, g_cel_, sl_tup_, sl_lst_, sl_frz_, sq_tup, sq_lst, zp_tup, n_lent, n_lenl, n_lenf, n_abs, n_int, n_intb, n_max, n_min, n_sum, n_tupl, n_tupt, n_tupc, n_all, n_any, n_gcd, n_isi, n_isit, y_int, y_bl, y_tup, y_lst, y_non, q_app, List.getElem?_cons_zero, List.getElem?_cons_succ, List.getElem?_nil, List.set_cons_zero, List.set_cons_succ, Option.bind_some, Option.map_some, Option.bind_none, List.length_cons, List.length_nil, Bool.false_eq_true, if_true, if_false, List.nil_append, List.cons_append, m1, m2, m3, e4]) b1 (by simp [rngL]; omega)
  obtain ⟨xs, rfl, hxs⟩ := ints_of ds q2
  have l2' : xs.length = size := by simpa [rngL] using l2
  have hf := r_lpoint xs w (k := 6) (by omega) (by omega) hxs (by unfold Sz; omega) (by decide) (by decide) (h.set i B2) n (by omega)
  refine ⟨ov w xs, B2, ?_, hf.2, by rw [ov_len, l2'], b2.mono (by simp [rngL]; omega)⟩
  have e2' : evE (evF FT gl n) gl (.cp false (.op .sub (.cl f__law_take (.cons (.var 0) (.cons (.op .add (.op .mul (.op .mul (.int 2) (.var 2)) (.var 4)) (.int 1)) .nil))) (.op .mul (.var 2) (.var 4))) (.name 5) (.rng1 (.var 1)) .none [5]) [some (.cel i), some (.int size), some (.int 4), some (.bl false), some (.int w), none] (h.set i B1) = some (.lst (xs.map D.int), h.set i B2) := e2
  have l4 : (0 + 1 + 1 + 1 + 1 : Nat) ≤ 100000 := by decide
  have l1 : xs.length + (0 + 1) ≤ 100000 := by omega
  have l0 : (0 + 1 : Nat) ≤ 100000 := by decide
  rw [run_g (F := ⟨4, 6, b__law_any_point, false⟩) [some (.cel i), some (.int size), some (.int 4), some (.bl false), none, none] rfl rfl rfl rfl, b__law_any_point, ss_nx (σ' := [some (.cel i), some (.int size), some (.int 4), some (.bl false), some (.int w), none]) (h' := h.set i B1), ss_rt (h' := h.set i B2)]
  · exact fin_rt
  · simp only [s_ret_, e_cl, e_op, es_cons, es_nil, e2', Option.bind_some, Option.map_some]
    simp only [e_var, e_non, e_bl, e_int, e_str, e_ty, e_glob, e_op, e_neg, e_cmp, e_chn, e_bop, e_not, e_ife, e_tup, e_lst, e_ix, e_sl, e_cl, e_ck, e_bt, e_mt, eb_one, eb_cons, es_nil, es_cons, eo_none, eo_some, ec_none, ec_some, et_name, et_tup, et_tupl, et_sub, ets_nil, ets_cons, ei_seq, ei_rng1, ei_rng2, ei_zip, s_asg_, s_par_, s_ex_, s_ret_, s_retN_, s_ite_, ss_nil_, fin_rt, fin_nx, wipeD, lim, isK, testT, isNon, isAny, o_add, o_sub, o_mul, o_fdiv, o_mod, o_pow, o_addt, o_addl, o_mult, k_eq, k_ne, k_lt, k_le, k_gt, k_ge, k_isb, k_isn, k_isnn, k_eqb, k_eql, k_nel, k_in, k_nin, g_tup_, g_lst_, g_frz_, g_cel_, sl_tup_, sl_lst_, sl_frz_, sq_tup, sq_lst, zp_tup, n_lent, n_lenl, n_lenf, n_abs, n_int, n_intb, n_max, n_min, n_sum, n_tupl, n_tupt, n_tupc, n_all, n_any, n_gcd, n_isi, n_isit, y_int, y_bl, y_tup, y_lst, y_non, q_app, List.getElem?_cons_zero, List.getElem?_cons_succ, List.getElem?_nil, List.set_cons_zero, List.set_cons_succ, Option.bind_some, Option.map_some, Option.bind_none, List.length_cons, List.length_nil, Bool.false_eq_true, if_true, if_false, List.nil_append, List.cons_append, l0, l1, List.length_map, hf.1]
  · simp only [e_var, e_non, e_bl, e_int, e_str, e_ty, e_glob, e_op, e_neg, e_cmp, e_chn, e_bop, e_not, e_ife, e_tup, e_lst, e_ix, e_sl, e_cl, e_ck, e_bt, e_mt, eb_one, eb_cons, es_nil, es_cons, eo_none, eo_some, ec_none, ec_some, et_name, et_tup, et_tupl, et_sub, ets_nil, ets_cons, ei_seq, ei_rng1, ei_rng2, ei_zip, s_asg_, s_par_, s_ex_, s_ret_, s_retN_, s_ite_, ss_nil_, fin_rt, fin_nx, wipeD, lim, isK, testT, isNon, isAny, o_add, o_sub, o_mul, o_fdiv, o_mod, o_pow, o_addt, o_addl, o_mult, k_eq, k_ne, k_lt, k_le, k_gt, k_ge, k_isb, k_isn, k_isnn, k_eqb, k_eql, k_nel, k_in, k_nin, g_tup_, g_lst_, g_frz_, g_cel_, sl_tup_, sl_lst_, sl_frz_, sq_tup, sq_lst, zp_tup, n_lent, n_lenl, n_lenf, n_abs, n_int, n_intb, n_max, n_min, n_sum, n_tupl, n_tupt, n_tupc, n_all, n_any, n_gcd, n_isi, n_isit, y_int, y_bl, y_tup, y_lst, y_non, q_app, List.getElem?_cons_zero, List.getElem?_cons_succ, List.getElem?_nil, List.set_cons_zero, List.set_cons_succ, Option.bind_some, Option.map_some, Option.bind_none, List.length_cons, List.length_nil, Bool.false_eq_true, if_true, if_false, List.nil_append, List.cons_append, e1, l4, hget]
end K03

set_option Elab.async false
set_option linter.all false
set_option maxRecDepth 100000
set_option maxHeartbeats 1000000
/-! k03: the side that the law draws. -/
namespace K03
open PySem L2 Py
theorem r_take2 (many : Int) (h own : Hs) (i : Nat) (B : List D) (t : Nat) (hi : i < h.length) (hB : Bx B t) (ht : t < 2 ^ 30) (h0 : 0 < many) (h1 : many < 2 ^ 60) (m : Nat) (hm : 1 ≤ m) :
    ∃ d B', evF FT gl m f__law_take [.cel i, .int many] (h.set i B ++ own) = some (.int d, h.set i B' ++ own) ∧ (0 ≤ d ∧ d < many) ∧ Bx B' (t + 1) := by
  obtain ⟨d, B', e, hd, hb⟩ := r_take many (h ++ own) i B t (by simp; omega) hB ht h0 h1 m hm
  rw [List.set_append_left _ _ hi, List.set_append_left _ _ hi] at e
  exact ⟨d, B', e, hd, hb⟩
theorem get_own {h : Hs} {i : Nat} {B X : List D} : (h.set i B ++ [X])[h.length]? = some X := by simp
theorem set_own {h : Hs} {i : Nat} {B X Y : List D} : (h.set i B ++ [X]).set h.length Y = h.set i B ++ [Y] := by simp
theorem list_last {α : Type} : ∀ (xs : List α) (n : Nat), xs.length = n + 1 → ∃ ys c, xs = ys ++ [c] ∧ ys.length = n
  | xs, n, h => by
    have hne : xs ≠ [] := by intro e; subst e; simp at h
    refine ⟨xs.dropLast, xs.getLast hne, (List.dropLast_concat_getLast hne).symm, by simp [h]⟩
theorem r_drawn (size : Nat) (hsz : size = 2 ∨ size = 3) (h : Hs) (i : Nat) (B : List D) (t : Nat) (hi : i < h.length) (hB : Bx B t) (ht : t + 10 < 2 ^ 30) (m : Nat) (hm : 3 ≤ m) :
    ∃ as c B', evF FT gl m f__law_drawn_side [.cel i, .int size] (h.set i B) = some (.lst [P as c, P (as.map (· / (gcdL (as ++ [c]) : Int))) (c / (gcdL (as ++ [c]) : Int))], h.set i B') ∧ as.length = size ∧ (as.any fun x => !decide (x = 0)) = true ∧ (∀ a ∈ as, Sz a 8) ∧ Sz c 8 ∧ Bx B' (t + 10) := by
  obtain ⟨n, rfl, hn⟩ := lv hm
  -- the numbers
  obtain ⟨ds, B1, e1, l1, q1, b1⟩ := cp_cell (cl := evF FT gl n) (gl := gl) (Bx := Bx) (Q := fun d => ∃ x : Int, d = .int x ∧ Sz x 4) (T := t + 4) (c := 1) (h := h) (i := i) (σ := [some (.cel i), some (.int size), none, none, none, none, none]) (ce := (.op .sub (.cl f__law_take (.cons (.var 0) (.cons (.int 11) .nil))) (.int 5))) (t := .name 5) (own := [5]) (it := .rng1 (.op .add (.var 1) (.int 1))) (xs := rngL 0 (size + 1)) (mu := true) (B := B) (t0 := t)
    (ei_rng1n (n := size + 1) (by simp only [e_var, e_non, e_bl, e_int, e_str, e_ty, e_glob, e_op, e_neg, e_cmp, e_chn, e_bop, e_not, e_ife, e_tup, e_lst, e_ix, e_sl, e_cl, e_ck, e_bt, e_mt, eb_one, eb_cons, es_nil, es_cons, eo_none, eo_some, ec_none, ec_some, et_name, et_tup, et_tupl, et_sub, ets_nil, ets_cons, ei_seq, ei_rng1, ei_rng2, ei_zip, s_asg_, s_par_, s_ex_, s_ret_, s_retN_, s_ite_, ss_nil_, fin_rt, fin_nx, wipeD, lim, isK, testT, isNon, isAny, o_add, o_sub, o_mul, o_fdiv, o_mod, o_pow, o_addt, o_addl, o_mult, k_eq, k_ne, k_lt, k_le, k_gt, k_ge, k_isb, k_isn, k_isnn, k_eqb, k_eql, k_nel, k_in, k_nin, g_tup_, g_lst_, g_frz_, g_cel_, sl_tup_, sl_lst_, sl_frz_, sq_tup, sq_lst, zp_tup, n_lent, n_lenl, n_lenf, n_abs, n_int, n_intb, n_max, n_min, n_sum, n_tupl, n_tupt, n_tupc, n_all, n_any, n_gcd, n_isi, n_isit, y_int, y_bl, y_tup, y_lst, y_non, q_app, List.getElem?_cons_zero, List.getElem?_cons_succ, List.getElem?_nil, List.set_cons_zero, List.set_cons_succ, Option.bind_some, Option.map_some, Option.bind_none, List.length_cons, List.length_nil, Bool.false_eq_true, if_true, if_false, List.nil_append, List.cons_append]; rfl) (by unfold lim; omega)) (by simp [rngL, lim]; omega) (by
      intro x hx B3 t3 b3 ht3
      obtain ⟨e, B4, e4, ⟨d4, d5⟩, b4⟩ := r_take 11 h i B3 t3 hi b3 (by omega) (by decide) (by decide) n (by omega)
      refine ⟨_, .int (e - 5), B4, et_name, ?_, ⟨_, rfl, by unfold Sz; omega⟩, b4⟩
      simp only [e_var, e_non, e_bl, e_int, e_str, e_ty, e_glob, e_op, e_neg, e_cmp, e_chn, e_bop, e_not, e_ife, e_tup, e_lst, e_ix, e_sl, e_cl, e_ck, e_bt, e_mt, eb_one, eb_cons, es_nil, es_cons, eo_none, eo_some, ec_none, ec_some, et_name, et_tup, et_tupl, et_sub, ets_nil, ets_cons, ei_seq, ei_rng1, ei_rng2, ei_zip, s_asg_, s_par_, s_ex_, s_ret_, s_retN_, s_ite_, ss_nil_, fin_rt, fin_nx, wipeD, lim, isK, testT, isNon, isAny, o_add, o_sub, o_mul, o_fdiv, o_mod, o_pow, o_addt, o_addl, o_mult, k_eq, k_ne, k_lt, k_le, k_gt, k_ge, k_isb, k_isn, k_isnn, k_eqb, k_eql, k_nel, k_in, k_nin, g_tup_, g_lst_, g_frz_, g_cel_, sl_tup_, sl_lst_, sl_frz_, sq_tup, sq_lst, zp_tup, n_lent, n_lenl, n_lenf, n_abs, n_int, n_intb, n_max, n_min, n_sum, n_tupl, n_tupt, n_tupc, n_all, n_any, n_gcd, n_isi, n_isit, y_int, y_bl, y_tup, y_lst, y_non, q_app, List.getElem?_cons_zero, List.getElem?_cons_succ, List.getElem?_nil, List.set_cons_zero, List.set_cons_succ, Option.bind_some, Option.map_some, Option.bind_none, List.length_cons, List.length_nil, Bool.false_eq_true, if_true, if_false, List.nil_append, List.cons_append, e4]) hB (by simp [rngL]; omega)
  obtain ⟨xs, rfl, hxs⟩ := ints_of ds q1
  have l1' : xs.length = size + 1 := by simpa [rngL] using l1
  obtain ⟨ys, c, rfl, hyl⟩ := list_last xs size l1'
  have b1 := b1.mono (u := t + 4) (by simp [rngL]; omega)
  have e1' : evE (evF FT gl n) gl (.cp true (.op .sub (.cl f__law_take (.cons (.var 0) (.cons (.int 11) .nil))) (.int 5)) (.name 5) (.rng1 (.op .add (.var 1) (.int 1))) .none [5]) [some (.cel i), some (.int size), none, none, none, none, none] (h.set i B) = some (.cel h.length, h.set i B1 ++ [(ys ++ [c]).map D.int]) := e1
  -- where to mend
  obtain ⟨a, B2, e2, ⟨a0, a1⟩, b2⟩ := r_take2 size h [(ys ++ [c]).map D.int] i B1 (t + 4) hi b1 (by omega) (by omega) (by omega) n (by omega)
  obtain ⟨k, rfl⟩ : ∃ k : Nat, a = k := ⟨a.toNat, by omega⟩
  have hk : k < ys.length := by omega
  -- mended
  obtain ⟨zs, B3, e3, lz, az, sz, b3⟩ : ∃ zs B3, evS (evF FT gl n) gl (.asg (.sub (.var 2) (.var 3)) (.ife (.cmp .ne (.cp false (.var 6) (.name 6) (.seq (.sl (.var 2) .none (.some (.neg (.int 1))))) (.some (.cmp .ne (.var 6) (.int 0))) [6]) (.lst false .nil)) (.ix (.var 2) (.var 3)) (.op .add (.int 1) (.cl f__law_take (.cons (.var 0) (.cons (.int 4) .nil)))))) [some (.cel i), some (.int size), some (.cel h.length), some (.int k), none, none, none] (h.set i B2 ++ [(ys ++ [c]).map D.int]) = some (.nx [some (.cel i), some (.int size), some (.cel h.length), some (.int k), none, none, none] (h.set i B3 ++ [(zs ++ [c]).map D.int])) ∧ zs.length = size ∧ (zs.any fun x => !decide (x = 0)) = true ∧ (∀ z ∈ zs, Sz z 4) ∧ Bx B3 (t + 6) := by
    have hc := cp_keep (cl := evF FT gl n) (gl := gl) (σ := [some (.cel i), some (.int size), some (.cel h.length), some (.int k), none, none, none]) (h := h.set i B2 ++ [(ys ++ [c]).map D.int]) (ce := .var 6) (ci := .cmp .ne (.var 6) (.int 0)) (t := .name 6) (it := (.seq (.sl (.var 2) .none (.some (.neg (.int 1)))))) (own := [6]) (src := none) (xs := ys) (mk := D.int) (f := D.int) (k := fun x => !decide (x = 0)) (by
        have : slI (h.set i B2 ++ [(ys ++ [c]).map D.int]) (.cel h.length) none (some (-1)) = some (.lst (ys.map D.int)) := by
          simp only [slI, get_own, Option.map_some, List.map_append, List.map_cons, List.map_nil, cut_last]
        simp only [e_var, e_non, e_bl, e_int, e_str, e_ty, e_glob, e_op, e_neg, e_cmp, e_chn, e_bop, e_not, e_ife, e_tup, e_lst, e_ix, e_sl, e_cl, e_ck, e_bt, e_mt, eb_one, eb_cons, es_nil, es_cons, eo_none, eo_some, ec_none, ec_some, et_name, et_tup, et_tupl, et_sub, ets_nil, ets_cons, ei_seq, ei_rng1, ei_rng2, ei_zip, s_asg_, s_par_, s_ex_, s_ret_, s_retN_, s_ite_, ss_nil_, fin_rt, fin_nx, wipeD, lim, isK, testT, isNon, isAny, o_add, o_sub, o_mul, o_fdiv, o_mod, o_pow, o_addt, o_addl, o_mult, k_eq, k_ne, k_lt, k_le, k_gt, k_ge, k_isb, k_isn, k_isnn, k_eqb, k_eql, k_nel, k_in, k_nin, g_tup_, g_lst_, g_frz_, g_cel_, sl_tup_, sl_lst_, sl_frz_, sq_tup, sq_lst, zp_tup, n_lent, n_lenl, n_lenf, n_abs, n_int, n_intb, n_max, n_min, n_sum, n_tupl, n_tupt, n_tupc, n_all, n_any, n_gcd, n_isi, n_isit, y_int, y_bl, y_tup, y_lst, y_non, q_app, List.getElem?_cons_zero, List.getElem?_cons_succ, List.getElem?_nil, List.set_cons_zero, List.set_cons_succ, Option.bind_some, Option.map_some, Option.bind_none, List.length_cons, List.length_nil, Bool.false_eq_true, if_true, if_false, List.nil_append, List.cons_append, this]) (by simp) (by unfold lim; omega) (by
        intro x hx
        exact ⟨[some (.cel i), some (.int size), some (.cel h.length), some (.int k), none, none, some (.int x)], by simp only [e_var, e_non, e_bl, e_int, e_str, e_ty, e_glob, e_op, e_neg, e_cmp, e_chn, e_bop, e_not, e_ife, e_tup, e_lst, e_ix, e_sl, e_cl, e_ck, e_bt, e_mt, eb_one, eb_cons, es_nil, es_cons, eo_none, eo_some, ec_none, ec_some, et_name, et_tup, et_tupl, et_sub, ets_nil, ets_cons, ei_seq, ei_rng1, ei_rng2, ei_zip, s_asg_, s_par_, s_ex_, s_ret_, s_retN_, s_ite_, ss_nil_, fin_rt, fin_nx, wipeD, lim, isK, testT, isNon, isAny, o_add, o_sub, o_mul, o_fdiv, o_mod, o_pow, o_addt, o_addl, o_mult, k_eq, k_ne, k_lt, k_le, k_gt, k_ge, k_isb, k_isn, k_isnn, k_eqb, k_eql, k_nel, k_in, k_nin, g_tup_, g_lst_, g_frz_, g_cel_, sl_tup_, sl_lst_, sl_frz_, sq_tup, sq_lst, zp_tup, n_lent, n_lenl, n_lenf, n_abs, n_int, n_intb, n_max, n_min, n_sum, n_tupl, n_tupt, n_tupc, n_all, n_any, n_gcd, n_isi, n_isit, y_int, y_bl, y_tup, y_lst, y_non, q_app, List.getElem?_cons_zero, List.getElem?_cons_succ, List.getElem?_nil, List.set_cons_zero, List.set_cons_succ, Option.bind_some, Option.map_some, Option.bind_none, List.length_cons, List.length_nil, Bool.false_eq_true, if_true, if_false, List.nil_append, List.cons_append], by simp only [e_var, e_non, e_bl, e_int, e_str, e_ty, e_glob, e_op, e_neg, e_cmp, e_chn, e_bop, e_not, e_ife, e_tup, e_lst, e_ix, e_sl, e_cl, e_ck, e_bt, e_mt, eb_one, eb_cons, es_nil, es_cons, eo_none, eo_some, ec_none, ec_some, et_name, et_tup, et_tupl, et_sub, ets_nil, ets_cons, ei_seq, ei_rng1, ei_rng2, ei_zip, s_asg_, s_par_, s_ex_, s_ret_, s_retN_, s_ite_, ss_nil_, fin_rt, fin_nx, wipeD, lim, isK, testT, isNon, isAny, o_add, o_sub, o_mul, o_fdiv, o_mod, o_pow, o_addt, o_addl, o_mult, k_eq, k_ne, k_lt, k_le, k_gt, k_ge, k_isb, k_isn, k_isnn, k_eqb, k_eql, k_nel, k_in, k_nin, g_tup_, g_lst_, g_frz_, g_cel_, sl_tup_, sl_lst_, sl_frz_, sq_tup, sq_lst, zp_tup, n_lent, n_lenl, n_lenf, n_abs, n_int, n_intb, n_max, n_min, n_sum, n_tupl, n_tupt, n_tupc, n_all, n_any, n_gcd, n_isi, n_isit, y_int, y_bl, y_tup, y_lst, y_non, q_app, List.getElem?_cons_zero, List.getElem?_cons_succ, List.getElem?_nil, List.set_cons_zero, List.set_cons_succ, Option.bind_some, Option.map_some, Option.bind_none, List.length_cons, List.length_nil, Bool.false_eq_true, if_true, if_false, List.nil_append, List.cons_append], fun _ => by simp only [e_var, e_non, e_bl, e_int, e_str, e_ty, e_glob, e_op, e_neg, e_cmp, e_chn, e_bop, e_not, e_ife, e_tup, e_lst, e_ix, e_sl, e_cl, e_ck, e_bt, e_mt, eb_one, eb_cons, es_nil, es_cons, eo_none, eo_some, ec_none, ec_some, et_name, et_tup, et_tupl, et_sub, ets_nil, ets_cons, ei_seq, ei_rng1, ei_rng2, ei_zip, s_asg_, s_par_, s_ex_, s_ret_, s_retN_, s_ite_, ss_nil_, fin_rt, fin_nx, wipeD, lim, isK, testT, isNon, isAny, o_add, o_sub, o_mul, o_fdiv, o_mod, o_pow, o_addt, o_addl, o_mult, k_eq, k_ne, k_lt, k_le, k_gt, k_ge, k_isb, k_isn, k_isnn, k_eqb, k_eql, k_nel, k_in, k_nin, g_tup_, g_lst_, g_frz_, g_cel_, sl_tup_, sl_lst_, sl_frz_, sq_tup, sq_lst, zp_tup, n_lent, n_lenl, n_lenf, n_abs, n_int, n_intb, n_max, n_min, n_sum, n_tupl, n_tupt, n_tupc, n_all, n_any, n_gcd, n_isi, n_isit, y_int, y_bl, y_tup, y_lst, y_non, q_app, List.getElem?_cons_zero, List.getElem?_cons_succ, List.getElem?_nil, List.set_cons_zero, List.set_cons_succ, Option.bind_some, Option.map_some, Option.bind_none, List.length_cons, List.length_nil, Bool.false_eq_true, if_true, if_false, List.nil_append, List.cons_append]⟩)
    have hfl : (ys.filter fun x => !decide (x = 0)).length ≤ 4 := by
      have : (ys.filter fun x => !decide (x = 0)).length ≤ ys.length := List.length_filter_le _ _
      omega
    have he := eq_nil (h.set i B2 ++ [(ys ++ [c]).map D.int]) _ hfl
    have l0 : (0 : Nat) ≤ 100000 := by decide
    have hix : ∀ zs : List Int, zs.length = size → L2.ixN ((zs ++ [c]).map D.int).length k = some k := by
      intro zs hz
      have : ((zs ++ [c]).map D.int).length = size + 1 := by simp [hz]
      rw [this]
      unfold L2.ixN
      rw [if_pos (by omega), if_pos (by omega)]
      simp
    by_cases hE : (ys.any fun x => !decide (x = 0)) = true
    · have hne : (ys.filter fun x => !decide (x = 0)).isEmpty = false := by
        rw [List.isEmpty_eq_false_iff]
        obtain ⟨x, hx, hx0⟩ := List.any_eq_true.mp hE
        exact List.ne_nil_of_mem (List.mem_filter.mpr ⟨hx, hx0⟩)
      rw [hne] at he
      have hat : L2.atI ((ys ++ [c]).map D.int) (k : Int) = some (.int ys[k]) := at_nat (by simp [hk, List.getElem?_append_left])
      have hset : ((ys ++ [c]).map D.int).set k (.int ys[k]) = (ys ++ [c]).map D.int := by
        apply List.ext_getElem
        · simp
        · intro j h1 h2
          rw [List.getElem_set]
          split
          · rename_i e; subst e; simp [List.getElem_append, hk]
          · rfl
      refine ⟨ys, B2, ?_, hyl, hE, fun z hz => hxs z (by simp [hz]), b2.mono (by omega)⟩
      simp only [s_asg_, e_ife, e_cmp, hc, Option.bind_some, e_lst, es_nil]
      simp only [e_var, e_non, e_bl, e_int, e_str, e_ty, e_glob, e_op, e_neg, e_cmp, e_chn, e_bop, e_not, e_ife, e_tup, e_lst, e_ix, e_sl, e_cl, e_ck, e_bt, e_mt, eb_one, eb_cons, es_nil, es_cons, eo_none, eo_some, ec_none, ec_some, et_name, et_tup, et_tupl, et_sub, ets_nil, ets_cons, ei_seq, ei_rng1, ei_rng2, ei_zip, s_asg_, s_par_, s_ex_, s_ret_, s_retN_, s_ite_, ss_nil_, fin_rt, fin_nx, wipeD, lim, isK, testT, isNon, isAny, o_add, o_sub, o_mul, o_fdiv, o_mod, o_pow, o_addt, o_addl, o_mult, k_eq, k_ne, k_lt, k_le, k_gt, k_ge, k_isb, k_isn, k_isnn, k_eqb, k_eql, k_nel, k_in, k_nin, g_tup_, g_lst_, g_frz_, g_cel_, sl_tup_, sl_lst_, sl_frz_, sq_tup, sq_lst, zp_tup, n_lent, n_lenl, n_lenf, n_abs, n_int, n_intb, n_max, n_min, n_sum, n_tupl, n_tupt, n_tupc, n_all, n_any, n_gcd, n_isi, n_isit, y_int, y_bl, y_tup, y_lst, y_non, q_app, List.getElem?_cons_zero, List.getElem?_cons_succ, List.getElem?_nil, List.set_cons_zero, List.set_cons_succ, Option.bind_some, Option.map_some, Option.bind_none, List.length_cons, List.length_nil, Bool.false_eq_true, if_true, if_false, List.nil_append, List.cons_append, l0, he, Bool.not_false, get_own, hat, hix ys hyl, set_own, hset]
    · have hne : (ys.filter fun x => !decide (x = 0)).isEmpty = true := by
        rw [List.isEmpty_iff]
        rcases hq : ys.filter fun x => !decide (x = 0) with _ | ⟨x, xs⟩
        · rfl
        · have hx : x ∈ ys.filter fun x => !decide (x = 0) := by rw [hq]; exact List.mem_cons_self
          rw [List.mem_filter] at hx
          exact absurd (List.any_eq_true.mpr ⟨x, hx⟩) hE
      rw [hne] at he
      obtain ⟨d, B3, e3, ⟨d0, d1⟩, b3⟩ := r_take2 4 h [(ys ++ [c]).map D.int] i B2 (t + 5) hi b2 (by omega) (by decide) (by decide) n (by omega)
      have hset : ((ys ++ [c]).map D.int).set k (.int (1 + d)) = (ys.set k (1 + d) ++ [c]).map D.int := by
        rw [← List.map_set, List.set_append_left _ _ hk]
      refine ⟨ys.set k (1 + d), B3, ?_, by simp [hyl], ?_, ?_, b3⟩
      · simp only [s_asg_, e_ife, e_cmp, hc, Option.bind_some, e_lst, es_nil]
        simp only [e_var, e_non, e_bl, e_int, e_str, e_ty, e_glob, e_op, e_neg, e_cmp, e_chn, e_bop, e_not, e_ife, e_tup, e_lst, e_ix, e_sl, e_cl, e_ck, e_bt, e_mt, eb_one, eb_cons, es_nil, es_cons, eo_none, eo_some, ec_none, ec_some, et_name, et_tup, et_tupl, et_sub, ets_nil, ets_cons, ei_seq, ei_rng1, ei_rng2, ei_zip, s_asg_, s_par_, s_ex_, s_ret_, s_retN_, s_ite_, ss_nil_, fin_rt, fin_nx, wipeD, lim, isK, testT, isNon, isAny, o_add, o_sub, o_mul, o_fdiv, o_mod, o_pow, o_addt, o_addl, o_mult, k_eq, k_ne, k_lt, k_le, k_gt, k_ge, k_isb, k_isn, k_isnn, k_eqb, k_eql, k_nel, k_in, k_nin, g_tup_, g_lst_, g_frz_, g_cel_, sl_tup_, sl_lst_, sl_frz_, sq_tup, sq_lst, zp_tup, n_lent, n_lenl, n_lenf, n_abs, n_int, n_intb, n_max, n_min, n_sum, n_tupl, n_tupt, n_tupc, n_all, n_any, n_gcd, n_isi, n_isit, y_int, y_bl, y_tup, y_lst, y_non, q_app, List.getElem?_cons_zero, List.getElem?_cons_succ, List.getElem?_nil, List.set_cons_zero, List.set_cons_succ, Option.bind_some, Option.map_some, Option.bind_none, List.length_cons, List.length_nil, Bool.false_eq_true, if_true, if_false, List.nil_append, List.cons_append, l0, he, Bool.not_true, e3, get_own, hix ys hyl, set_own, hset]
      · refine List.any_eq_true.mpr ⟨1 + d, ?_, by simp; omega⟩
        exact List.mem_iff_getElem.mpr ⟨k, by simpa using hk, by simp⟩
      · intro z hz
        rcases List.mem_or_eq_of_mem_set hz with hz | rfl
        · exact hxs z (by simp [hz])
        · unfold Sz; omega
  have hcz : Sz c 4 := hxs c (by simp)
  -- by what
  obtain ⟨d, B4, e4, ⟨d0, d1⟩, b4⟩ := r_take2 5 h [(zs ++ [c]).map D.int] i B3 (t + 6) hi b3 (by omega) (by decide) (by decide) n (by omega)
  obtain ⟨w, hw0, hw1, hget⟩ : ∃ w : Int, 1 ≤ w ∧ w ≤ 6 ∧ L2.atI [D.int 1, .int 1, .int 2, .int 3, .int 6] d = some (.int w) := by
    have : d = 0 ∨ d = 1 ∨ d = 2 ∨ d = 3 ∨ d = 4 := by omega
    rcases this with rfl | rfl | rfl | rfl | rfl
    · exact ⟨1, by decide, by decide, at_0 _ _⟩
    · exact ⟨1, by decide, by decide, at_1 _ _ _⟩
    · exact ⟨2, by decide, by decide, at_2 _ _ _ _⟩
    · exact ⟨3, by decide, by decide, at_3 _ _ _ _ _⟩
    · exact ⟨6, by decide, by decide, atI_nat (j := 4) rfl⟩
  have hwz : Sz w 4 := by unfold Sz; omega
  have hc := cp_ofs (cl := evF FT gl n) (gl := gl) (σ := [some (.cel i), some (.int size), some (.cel h.length), some (.int k), some (.int w), none, none]) (h := h.set i B4 ++ [(zs ++ [c]).map D.int]) (ce := .op .mul (.var 4) (.var 6)) (t := .name 6) (it := .seq (.var 2)) (own := [6]) (src := some h.length) (xs := zs ++ [c]) (mk := D.int) (f := fun x => .int (w * x)) (by simp only [e_var, e_non, e_bl, e_int, e_str, e_ty, e_glob, e_op, e_neg, e_cmp, e_chn, e_bop, e_not, e_ife, e_tup, e_lst, e_ix, e_sl, e_cl, e_ck, e_bt, e_mt, eb_one, eb_cons, es_nil, es_cons, eo_none, eo_some, ec_none, ec_some, et_name, et_tup, et_tupl, et_sub, ets_nil, ets_cons, ei_seq, ei_rng1, ei_rng2, ei_zip, s_asg_, s_par_, s_ex_, s_ret_, s_retN_, s_ite_, ss_nil_, fin_rt, fin_nx, wipeD, lim, isK, testT, isNon, isAny, o_add, o_sub, o_mul, o_fdiv, o_mod, o_pow, o_addt, o_addl, o_mult, k_eq, k_ne, k_lt, k_le, k_gt, k_ge, k_isb, k_isn, k_isnn, k_eqb, k_eql, k_nel, k_in, k_nin, g_tup_, g_lst_, g_frz_, g_cel_, sl_tup_, sl_lst_, sl_frz_, sq_tup, sq_lst, zp_tup, n_lent, n_lenl, n_lenf, n_abs, n_int, n_intb, n_max, n_min, n_sum, n_tupl, n_tupt, n_tupc, n_all, n_any, n_gcd, n_isi, n_isit, y_int, y_bl, y_tup, y_lst, y_non, q_app, List.getElem?_cons_zero, List.getElem?_cons_succ, List.getElem?_nil, List.set_cons_zero, List.set_cons_succ, Option.bind_some, Option.map_some, Option.bind_none, List.length_cons, List.length_nil, Bool.false_eq_true, if_true, if_false, List.nil_append, List.cons_append, seqI, get_own]) (by intro e he; cases he; exact get_own) (by simp [lim]; omega) (by
      intro x hx
      have hx4 : Sz x 4 := by
        rcases List.mem_append.mp hx with hx | hx
        · exact sz x hx
        · rw [List.mem_singleton.mp hx]; exact hcz
      have m1 := Sz.ok hwz hx4 (by decide) (by decide) (by decide)
      exact ⟨[some (.cel i), some (.int size), some (.cel h.length), some (.int k), some (.int w), none, some (.int x)], by simp only [e_var, e_non, e_bl, e_int, e_str, e_ty, e_glob, e_op, e_neg, e_cmp, e_chn, e_bop, e_not, e_ife, e_tup, e_lst, e_ix, e_sl, e_cl, e_ck, e_bt, e_mt, eb_one, eb_cons, es_nil, es_cons, eo_none, eo_some, ec_none, ec_some, et_name, et_tup, et_tupl, et_sub, ets_nil, ets_cons, ei_seq, ei_rng1, ei_rng2, ei_zip, s_asg_, s_par_, s_ex_, s_ret_, s_retN_, s_ite_, ss_nil_, fin_rt, fin_nx, wipeD, lim, isK, testT, isNon, isAny, o_add, o_sub, o_mul, o_fdiv, o_mod, o_pow, o_addt, o_addl, o_mult, k_eq, k_ne, k_lt, k_le, k_gt, k_ge, k_isb, k_isn, k_isnn, k_eqb, k_eql, k_nel, k_in, k_nin, g_tup_, g_lst_, g_frz_, g_cel_, sl_tup_, sl_lst_, sl_frz_, sq_tup, sq_lst, zp_tup, n_lent, n_lenl, n_lenf, n_abs, n_int, n_intb, n_max, n_min, n_sum, n_tupl, n_tupt, n_tupc, n_all, n_any, n_gcd, n_isi, n_isit, y_int, y_bl, y_tup, y_lst, y_non, q_app, List.getElem?_cons_zero, List.getElem?_cons_succ, List.getElem?_nil, List.set_cons_zero, List.set_cons_succ, Option.bind_some, Option.map_some, Option.bind_none, List.length_cons, List.length_nil, Bool.false_eq_true, if_true, if_false, List.nil_append, List.cons_append], by simp only [e_var, e_non, e_bl, e_int, e_str, e_ty, e_glob, e_op, e_neg, e_cmp, e_chn, e_bop, e_not, e_ife, e_tup, e_lst, e_ix, e_sl, e_cl, e_ck, e_bt, e_mt, eb_one, eb_cons, es_nil, es_cons, eo_none, eo_some, ec_none, ec_some, et_name, et_tup, et_tupl, et_sub, ets_nil, ets_cons, ei_seq, ei_rng1, ei_rng2, ei_zip, s_asg_, s_par_, s_ex_, s_ret_, s_retN_, s_ite_, ss_nil_, fin_rt, fin_nx, wipeD, lim, isK, testT, isNon, isAny, o_add, o_sub, o_mul, o_fdiv, o_mod, o_pow, o_addt, o_addl, o_mult, k_eq, k_ne, k_lt, k_le, k_gt, k_ge, k_isb, k_isn, k_isnn, k_eqb, k_eql, k_nel, k_in, k_nin, g_tup_, g_lst_, g_frz_, g_cel_, sl_tup_, sl_lst_, sl_frz_, sq_tup, sq_lst, zp_tup, n_lent, n_lenl, n_lenf, n_abs, n_int, n_intb, n_max, n_min, n_sum, n_tupl, n_tupt, n_tupc, n_all, n_any, n_gcd, n_isi, n_isit, y_int, y_bl, y_tup, y_lst, y_non, q_app, List.getElem?_cons_zero, List.getElem?_cons_succ, List.getElem?_nil, List.set_cons_zero, List.set_cons_succ, Option.bind_some, Option.map_some, Option.bind_none, List.length_cons, List.length_nil, Bool.false_eq_true, if_true, if_false, List.nil_append, List.cons_append, m1]⟩)
  have hls := r_lside (.cel h.length) zs c (some h.length) (h.set i B4 ++ [(zs ++ [c]).map D.int]) (by simp only [seqI, get_own, Option.map_some]) (by intro e he; cases he; exact get_own) (by omega) az sz hcz (by decide) (by decide) n (by omega)
  have hmul : (zs.map (w * ·) ++ [w * c]) = (zs ++ [c]).map (· * w) := by
    have e1 : zs.map (w * ·) = zs.map (· * w) := by
      apply List.map_congr_left; intro x _; exact Int.mul_comm _ _
    rw [List.map_append, e1, Int.mul_comm w c]
    rfl
  have hg : (gcdL (zs.map (w * ·) ++ [w * c]) : Int) = w * (gcdL (zs ++ [c]) : Int) := by
    rw [hmul, gcdL_mul]
    have : (w.natAbs : Int) = w := by omega
    rw [Int.natCast_mul, this, Int.mul_comm]
  have h1 : (zs.map (w * ·)).map (· / (gcdL (zs.map (w * ·) ++ [w * c]) : Int)) = zs.map (· / (gcdL (zs ++ [c]) : Int)) := by
    rw [hg, List.map_map]
    apply List.map_congr_left
    intro x _
    exact Int.mul_ediv_mul_of_pos _ _ (by omega)
  have h2 : (w * c) / (gcdL (zs.map (w * ·) ++ [w * c]) : Int) = c / (gcdL (zs ++ [c]) : Int) := by
    rw [hg]; exact Int.mul_ediv_mul_of_pos _ _ (by omega)
  refine ⟨zs.map (w * ·), w * c, B4, ?_, by simp [lz], ?_, ?_, (hwz.mul hcz), b4.mono (by omega)⟩
  · rw [h1, h2]
    have hle := leave_ok' (h0 := h.set i B) (own := [(zs ++ [c]).map D.int]) (i := i) (B := B4) (d := .lst [P (zs.map (w * ·)) (w * c), P (zs.map (· / (gcdL (zs ++ [c]) : Int))) (c / (gcdL (zs ++ [c]) : Int))]) (b4.clean _) (by simp [Py.clean, cleans, clean_P]) (by intro c hc; cases hc)
    rw [set_set] at hle
    have l5 : (0 + 1 + 1 + 1 + 1 + 1 : Nat) ≤ 100000 := by decide
    have l2 : (0 + 1 + 1 : Nat) ≤ 100000 := by decide
    have hP : D.tup ((zs ++ [c]).map fun x => .int (w * x)) = P (zs.map (w * ·)) (w * c) := by rw [P_eq]; simp
    rw [run_gl (F := ⟨2, 7, b__law_drawn_side, true⟩) [some (.cel i), some (.int size), none, none, none, none, none] rfl rfl rfl rfl, b__law_drawn_side,
      ss_nx (σ' := [some (.cel i), some (.int size), some (.cel h.length), none, none, none, none]) (h' := h.set i B1 ++ [(ys ++ [c]).map D.int]),
      ss_nx (σ' := [some (.cel i), some (.int size), some (.cel h.length), some (.int k), none, none, none]) (h' := h.set i B2 ++ [(ys ++ [c]).map D.int]),
      ss_nx (σ' := [some (.cel i), some (.int size), some (.cel h.length), some (.int k), none, none, none]) (h' := h.set i B3 ++ [(zs ++ [c]).map D.int]),
      ss_nx (σ' := [some (.cel i), some (.int size), some (.cel h.length), some (.int k), some (.int w), none, none]) (h' := h.set i B4 ++ [(zs ++ [c]).map D.int]),
      ss_rt (h' := h.set i B4 ++ [(zs ++ [c]).map D.int]) (d := .lst [P (zs.map (w * ·)) (w * c), P (zs.map (· / (gcdL (zs ++ [c]) : Int))) (c / (gcdL (zs ++ [c]) : Int))])]
    · exact hle
    · simp only [s_ret_, e_lst, e_bt, e_cl, es_cons, es_nil, hc, Option.bind_some, Option.map_some, n_tupl, hP]
      simp only [e_var, e_non, e_bl, e_int, e_str, e_ty, e_glob, e_op, e_neg, e_cmp, e_chn, e_bop, e_not, e_ife, e_tup, e_lst, e_ix, e_sl, e_cl, e_ck, e_bt, e_mt, eb_one, eb_cons, es_nil, es_cons, eo_none, eo_some, ec_none, ec_some, et_name, et_tup, et_tupl, et_sub, ets_nil, ets_cons, ei_seq, ei_rng1, ei_rng2, ei_zip, s_asg_, s_par_, s_ex_, s_ret_, s_retN_, s_ite_, ss_nil_, fin_rt, fin_nx, wipeD, lim, isK, testT, isNon, isAny, o_add, o_sub, o_mul, o_fdiv, o_mod, o_pow, o_addt, o_addl, o_mult, k_eq, k_ne, k_lt, k_le, k_gt, k_ge, k_isb, k_isn, k_isnn, k_eqb, k_eql, k_nel, k_in, k_nin, g_tup_, g_lst_, g_frz_, g_cel_, sl_tup_, sl_lst_, sl_frz_, sq_tup, sq_lst, zp_tup, n_lent, n_lenl, n_lenf, n_abs, n_int, n_intb, n_max, n_min, n_sum, n_tupl, n_tupt, n_tupc, n_all, n_any, n_gcd, n_isi, n_isit, y_int, y_bl, y_tup, y_lst, y_non, q_app, List.getElem?_cons_zero, List.getElem?_cons_succ, List.getElem?_nil, List.set_cons_zero, List.set_cons_succ, Option.bind_some, Option.map_some, Option.bind_none, List.length_cons, List.length_nil, Bool.false_eq_true, if_true, if_false, List.nil_append, List.cons_append, hls, l2]
    · simp only [e_var, e_non, e_bl, e_int, e_str, e_ty, e_glob, e_op, e_neg, e_cmp, e_chn, e_bop, e_not, e_ife, e_tup, e_lst, e_ix, e_sl, e_cl, e_ck, e_bt, e_mt, eb_one, eb_cons, es_nil, es_cons, eo_none, eo_some, ec_none, ec_some, et_name, et_tup, et_tupl, et_sub, ets_nil, ets_cons, ei_seq, ei_rng1, ei_rng2, ei_zip, s_asg_, s_par_, s_ex_, s_ret_, s_retN_, s_ite_, ss_nil_, fin_rt, fin_nx, wipeD, lim, isK, testT, isNon, isAny, o_add, o_sub, o_mul, o_fdiv, o_mod, o_pow, o_addt, o_addl, o_mult, k_eq, k_ne, k_lt, k_le, k_gt, k_ge, k_isb, k_isn, k_isnn, k_eqb, k_eql, k_nel, k_in, k_nin, g_tup_, g_lst_, g_frz_, g_cel_, sl_tup_, sl_lst_, sl_frz_, sq_tup, sq_lst, zp_tup, n_lent, n_lenl, n_lenf, n_abs, n_int, n_intb, n_max, n_min, n_sum, n_tupl, n_tupt, n_tupc, n_all, n_any, n_gcd, n_isi, n_isit, y_int, y_bl, y_tup, y_lst, y_non, q_app, List.getElem?_cons_zero, List.getElem?_cons_succ, List.getElem?_nil, List.set_cons_zero, List.set_cons_succ, Option.bind_some, Option.map_some, Option.bind_none, List.length_cons, List.length_nil, Bool.false_eq_true, if_true, if_false, List.nil_append, List.cons_append, e4, l5, hget]
    · exact e3
    · simp only [e_var, e_non, e_bl, e_int, e_str, e_ty, e_glob, e_op, e_neg, e_cmp, e_chn, e_bop, e_not, e_ife, e_tup, e_lst, e_ix, e_sl, e_cl, e_ck, e_bt, e_mt, eb_one, eb_cons, es_nil, es_cons, eo_none, eo_some, ec_none, ec_some, et_name, et_tup, et_tupl, et_sub, ets_nil, ets_cons, ei_seq, ei_rng1, ei_rng2, ei_zip, s_asg_, s_par_, s_ex_, s_ret_, s_retN_, s_ite_, ss_nil_, fin_rt, fin_nx, wipeD, lim, isK, testT, isNon, isAny, o_add, o_sub, o_mul, o_fdiv, o_mod, o_pow, o_addt, o_addl, o_mult, k_eq, k_ne, k_lt, k_le, k_gt, k_ge, k_isb, k_isn, k_isnn, k_eqb, k_eql, k_nel, k_in, k_nin, g_tup_, g_lst_, g_frz_, g_cel_, sl_tup_, sl_lst_, sl_frz_, sq_tup, sq_lst, zp_tup, n_lent, n_lenl, n_lenf, n_abs, n_int, n_intb, n_max, n_min, n_sum, n_tupl, n_tupt, n_tupc, n_all, n_any, n_gcd, n_isi, n_isit, y_int, y_bl, y_tup, y_lst, y_non, q_app, List.getElem?_cons_zero, List.getElem?_cons_succ, List.getElem?_nil, List.set_cons_zero, List.set_cons_succ, Option.bind_some, Option.map_some, Option.bind_none, List.length_cons, List.length_nil, Bool.false_eq_true, if_true, if_false, List.nil_append, List.cons_append, e2]
    · simp only [s_asg_, e1', Option.bind_some]
      simp only [e_var, e_non, e_bl, e_int, e_str, e_ty, e_glob, e_op, e_neg, e_cmp, e_chn, e_bop, e_not, e_ife, e_tup, e_lst, e_ix, e_sl, e_cl, e_ck, e_bt, e_mt, eb_one, eb_cons, es_nil, es_cons, eo_none, eo_some, ec_none, ec_some, et_name, et_tup, et_tupl, et_sub, ets_nil, ets_cons, ei_seq, ei_rng1, ei_rng2, ei_zip, s_asg_, s_par_, s_ex_, s_ret_, s_retN_, s_ite_, ss_nil_, fin_rt, fin_nx, wipeD, lim, isK, testT, isNon, isAny, o_add, o_sub, o_mul, o_fdiv, o_mod, o_pow, o_addt, o_addl, o_mult, k_eq, k_ne, k_lt, k_le, k_gt, k_ge, k_isb, k_isn, k_isnn, k_eqb, k_eql, k_nel, k_in, k_nin, g_tup_, g_lst_, g_frz_, g_cel_, sl_tup_, sl_lst_, sl_frz_, sq_tup, sq_lst, zp_tup, n_lent, n_lenl, n_lenf, n_abs, n_int, n_intb, n_max, n_min, n_sum, n_tupl, n_tupt, n_tupc, n_all, n_any, n_gcd, n_isi, n_isit, y_int, y_bl, y_tup, y_lst, y_non, q_app, List.getElem?_cons_zero, List.getElem?_cons_succ, List.getElem?_nil, List.set_cons_zero, List.set_cons_succ, Option.bind_some, Option.map_some, Option.bind_none, List.length_cons, List.length_nil, Bool.false_eq_true, if_true, if_false, List.nil_append, List.cons_append]
  · rw [List.any_map, ← az]
    have key : ((fun x => !decide (x = 0)) ∘ fun x => w * x) = fun x => !decide (x = 0) := ?_
    · rw [key]
    funext x
    have : (w * x = 0) ↔ (x = 0) := by
      constructor
      · intro e
        rcases Int.mul_eq_zero.mp e with q | q
        · omega
        · exact q
      · rintro rfl; simp
    simp [this]
  · intro x hx
    obtain ⟨z, hz, rfl⟩ := List.mem_map.mp hx
    exact hwz.mul (sz z hz)
end K03

set_option Elab.async false
set_option linter.all false
set_option maxRecDepth 100000
set_option maxHeartbeats 2000000
/-! k03: the law's parts. -/
namespace K03
open PySem L2 Py
theorem Un.mul {f s : Rat} (hf : 0 ≤ f ∧ f ≤ 1) (hs : 0 ≤ s ∧ s ≤ 1) : 0 ≤ f * s ∧ f * s ≤ 1 := by
  refine ⟨Rat.mul_nonneg hf.1 hs.1, ?_⟩
  have h1 : 0 ≤ f * (1 - s) := Rat.mul_nonneg hf.1 (by grind)
  grind
theorem Un.sub {f : Rat} (hf : 0 ≤ f ∧ f ≤ 1) : 0 ≤ 1 - f ∧ 1 - f ≤ 1 := by
  constructor <;> grind
theorem mix_len {s : Rat} {a b : List Rat} (h : a.length = b.length) : (mixQ s a b).length = a.length := by simp [mixQ, h]
theorem mix_a (s f : Rat) {a b : List Rat} (h : a.length = b.length) : mixQ s a (mixQ f a b) = mixQ (f * s) a b := by
  apply List.ext_getElem
  · simp [mixQ, h]
  · intro j h1 h2
    simp only [mixQ, List.getElem_zipWith]
    grind
theorem mix_b (s f : Rat) {a b : List Rat} (h : a.length = b.length) : mixQ s (mixQ f a b) b = mixQ (1 - (1 - f) * (1 - s)) a b := by
  apply List.ext_getElem
  · simp [mixQ, h]
  · intro j h1 h2
    simp only [mixQ, List.getElem_zipWith]
    grind
theorem mix_c (s f : Rat) {a b c : List Rat} (h : a.length = b.length) (h' : a.length = c.length) : mixQ s (mixQ f a b) (mixQ f c b) = mixQ f (mixQ s a c) b := by
  apply List.ext_getElem
  · simp [mixQ]; omega
  · intro j h1 h2
    simp only [mixQ, List.getElem_zipWith]
    grind
theorem mix_d {a b c : List Rat} (h : a.length = b.length) (h' : a.length = c.length) : mixQ (1 / 2) (mixQ (1 / 2) a b) (mixQ (1 / 2) b c) = mixQ (1 / 2) (mixQ (1 / 2) a c) b := by
  apply List.ext_getElem
  · simp [mixQ]; omega
  · intro j h1 h2
    simp only [mixQ, List.getElem_zipWith]
    grind
theorem mix_e (s : Rat) (a : List Rat) : mixQ s a a = a := by
  apply List.ext_getElem
  · simp [mixQ]
  · intro j h1 h2
    simp only [mixQ, List.getElem_zipWith]
    grind
theorem mix_r (s : Rat) {a b : List Rat} (h : a.length = b.length) : mixQ (1 - s) b a = mixQ s a b := by
  apply List.ext_getElem
  · simp [mixQ, h]
  · intro j h1 h2
    simp only [mixQ, List.getElem_zipWith]
    grind
theorem same_two {x y : D} {n : Nat} (hx : SameOk n x) (hy : SameOk n y) : SameOk (n + 1) (.lst [x, y]) := by
  refine ⟨by simp [lim], ?_⟩
  intro d hd
  simp at hd
  rcases hd with rfl | rfl <;> assumption
theorem r_parts (h : Hs) (i : Nat) (B : List D) (t : Nat) (nm : Bool) (a b c : List Rat) (hi : i < h.length) (hB : Bx B t) (ht : t + 10 < 2 ^ 30) (ha : Ok a 6) (hb : Ok b 6) (hc : Ok c 6) (hl : a.length = 2 ∨ a.length = 3) (hab : a.length = b.length) (hac : a.length = c.length) (m : Nat) (hm : 12 ≤ m) :
    ∃ B', evF FT gl m f__law_parts_right [.cel i, pt a, pt b, pt c, .bl nm] (h.set i B) = some (.bl true, h.set i B') ∧ Bx B' (t + 4) := by
  obtain ⟨n, rfl, hn⟩ := lv hm
  obtain ⟨f, B1, e1, uf, qf, b1⟩ := r_lshare h i B t hi hB (by omega) n (by omega)
  obtain ⟨s, B2, e2, us, qs, b2⟩ := r_lshare h i B1 (t + 2) hi b1 (by omega) n (by omega)
  refine ⟨B2, ?_, b2⟩
  have hbc : b.length = c.length := by omega
  have k1 := r_between a b f ha hb (qf.mono (l := 6) (by decide)) uf.1 uf.2 hl hab (by decide) (by decide) (h.set i B2) n (by omega)
  have l1 := mix_len (s := f) hab
  have k2 := r_between a (mixQ f a b) s (ha.mono (l := 21) (by decide)) k1.2 (qs.mono (by decide)) us.1 us.2 hl (by omega) (by decide) (by decide) (h.set i B2) n (by omega)
  have k3 := r_between (mixQ f a b) b s k1.2 (hb.mono (l := 21) (by decide)) (qs.mono (by decide)) us.1 us.2 (by omega) (by omega) (by decide) (by decide) (h.set i B2) n (by omega)
  have t1 := r_times f s qf qs (by decide) (by decide) (by decide) (h.set i B2) n (by omega)
  have k4 := r_between a b (f * s) (ha.mono (l := 21) (by decide)) (hb.mono (l := 21) (by decide)) (t1.2.mono (by decide)) (Un.mul uf us).1 (Un.mul uf us).2 hl hab (by decide) (by decide) (h.set i B2) n (by omega)
  have z1 : Fq 1 5 := (sz01 (by decide)).2
  have t2 := r_less 1 f z1 qf (by decide) (by decide) (by decide) (h.set i B2) n (by omega)
  have t3 := r_less 1 s z1 qs (by decide) (by decide) (by decide) (h.set i B2) n (by omega)
  have t4 := r_times (1 - f) (1 - s) t2.2 t3.2 (by decide) (by decide) (by decide) (h.set i B2) n (by omega)
  have t5 := r_less 1 ((1 - f) * (1 - s)) z1 t4.2 (by decide) (by decide) (by decide) (h.set i B2) n (by omega)
  have u5 := Un.sub (Un.mul (Un.sub uf) (Un.sub us))
  have k5 := r_between a b (1 - (1 - f) * (1 - s)) (ha.mono (l := 40) (by decide)) (hb.mono (l := 40) (by decide)) (t5.2.mono (by decide)) u5.1 u5.2 hl hab (by decide) (by decide) (h.set i B2) n (by omega)
  have k6 := r_between c b f hc hb (qf.mono (l := 6) (by decide)) uf.1 uf.2 (by omega) (by omega) (by decide) (by decide) (h.set i B2) n (by omega)
  have l6 := mix_len (s := f) (a := c) (b := b) (by omega)
  have k7 := r_between (mixQ f a b) (mixQ f c b) s k1.2 k6.2 (qs.mono (by decide)) us.1 us.2 (by omega) (by omega) (by decide) (by decide) (h.set i B2) n (by omega)
  have k8 := r_between a c s ha hc (qs.mono (l := 6) (by decide)) us.1 us.2 hl hac (by decide) (by decide) (h.set i B2) n (by omega)
  have l8 := mix_len (s := s) hac
  have k9 := r_between (mixQ s a c) b f k8.2 (hb.mono (by decide)) (qf.mono (by decide)) uf.1 uf.2 (by omega) (by omega) (by decide) (by decide) (h.set i B2) n (by omega)
  have j1 := r_middle a b ha hb hl hab (by decide) (by decide) (h.set i B2) n (by omega)
  have j2 := r_middle b c hb hc (by omega) hbc (by decide) (by decide) (h.set i B2) n (by omega)
  have m1 := mix_len (s := 1 / 2) hab
  have m2 := mix_len (s := 1 / 2) hbc
  have j3 := r_middle (mixQ (1 / 2) a b) (mixQ (1 / 2) b c) j1.2 j2.2 (by omega) (by omega) (by decide) (by decide) (h.set i B2) n (by omega)
  have j4 := r_middle a c ha hc hl hac (by decide) (by decide) (h.set i B2) n (by omega)
  have m4 := mix_len (s := 1 / 2) hac
  have hh : (0 : Rat) ≤ 1 / 2 ∧ (1 / 2 : Rat) ≤ 1 := by constructor <;> decide +kernel
  have j5 := r_between (mixQ (1 / 2) a c) b (1 / 2) j4.2 (hb.mono (by decide)) (half_sz (by decide)) hh.1 hh.2 (by omega) (by omega) (by decide) (by decide) (h.set i B2) n (by omega)
  have j6 := r_between a a f ha ha (qf.mono (by decide)) uf.1 uf.2 hl rfl (by decide) (by decide) (h.set i B2) n (by omega)
  have j7 := r_middle c c hc hc (by omega) rfl (by decide) (by decide) (h.set i B2) n (by omega)
  rw [mix_e] at j6 j7
  rw [mix_a s f hab] at k2
  rw [mix_b s f hab] at k3
  rw [mix_c s f hab hac] at k7
  rw [mix_d hab hac] at j3
  have t2' := t2.1; have t3' := t3.1; have t5' := t5.1; have j5' := j5.1
  rw [fr01.2] at t2' t3' t5'
  rw [half_fr] at j5'
  have sm1 := r_same (h.set i B2) 2 (.lst [pt (mixQ (f * s) a b), pt (mixQ (1 - (1 - f) * (1 - s)) a b)]) (same_two (same_pt k4.2 (by rw [mix_len hab]; omega) 0) (same_pt k5.2 (by rw [mix_len hab]; omega) 0)) n (by omega)
  have sm2 := r_same (h.set i B2) 1 (pt (mixQ f (mixQ s a c) b)) (same_pt k9.2 (by rw [mix_len (by omega)]; omega) 0) n (by omega)
  have sm3 := r_same (h.set i B2) 1 (pt (mixQ (1 / 2) (mixQ (1 / 2) a c) b)) (same_pt j5.2 (by rw [mix_len (by omega)]; omega) 0) n (by omega)
  have sm4 := r_same (h.set i B2) 2 (.lst [pt a, pt c]) (same_two (same_pt ha (by omega) 0) (same_pt hc (by omega) 0)) n (by omega)
  have l2 : (0 + 1 + 1 : Nat) ≤ 100000 := by decide
  rw [run_g (F := ⟨5, 10, b__law_parts_right, false⟩) [some (.cel i), some (pt a), some (pt b), some (pt c), some (.bl nm), none, none, none, none, none] rfl rfl rfl rfl, b__law_parts_right,
    ss_nx (σ' := [some (.cel i), some (pt a), some (pt b), some (pt c), some (.bl nm), some (fr f), some (fr s), none, none, none]) (h' := h.set i B2),
    ss_nx (σ' := [some (.cel i), some (pt a), some (pt b), some (pt c), some (.bl nm), some (fr f), some (fr s), some (.lst [pt (mixQ (f * s) a b), pt (mixQ (1 - (1 - f) * (1 - s)) a b)]), none, none]) (h' := h.set i B2),
    ss_nx (σ' := [some (.cel i), some (pt a), some (pt b), some (pt c), some (.bl nm), some (fr f), some (fr s), some (.lst [pt (mixQ (f * s) a b), pt (mixQ (1 - (1 - f) * (1 - s)) a b)]), none, none]) (h' := h.set i B2),
    ss_nx (σ' := [some (.cel i), some (pt a), some (pt b), some (pt c), some (.bl nm), some (fr f), some (fr s), some (.lst [pt (mixQ (f * s) a b), pt (mixQ (1 - (1 - f) * (1 - s)) a b)]), some (.lst [pt (mixQ f (mixQ s a c) b), pt (mixQ f (mixQ s a c) b)]), none]) (h' := h.set i B2),
    ss_nx (σ' := [some (.cel i), some (pt a), some (pt b), some (pt c), some (.bl nm), some (fr f), some (fr s), some (.lst [pt (mixQ (f * s) a b), pt (mixQ (1 - (1 - f) * (1 - s)) a b)]), some (.lst [pt (mixQ f (mixQ s a c) b), pt (mixQ f (mixQ s a c) b)]), none]) (h' := h.set i B2),
    ss_nx (σ' := [some (.cel i), some (pt a), some (pt b), some (pt c), some (.bl nm), some (fr f), some (fr s), some (.lst [pt (mixQ (f * s) a b), pt (mixQ (1 - (1 - f) * (1 - s)) a b)]), some (.lst [pt (mixQ f (mixQ s a c) b), pt (mixQ f (mixQ s a c) b)]), some (.lst [pt (mixQ (1 / 2) (mixQ (1 / 2) a c) b), pt (mixQ (1 / 2) (mixQ (1 / 2) a c) b)])]) (h' := h.set i B2),
    ss_rt (h' := h.set i B2) (d := .bl true)]
  · exact fin_rt
  · simp only [e_var, e_non, e_bl, e_int, e_str, e_ty, e_glob, e_op, e_neg, e_cmp, e_chn, e_bop, e_not, e_ife, e_tup, e_lst, e_ix, e_sl, e_cl, e_ck, e_bt, e_mt, eb_one, eb_cons, es_nil, es_cons, eo_none, eo_some, ec_none, ec_some, et_name, et_tup, et_tupl, et_sub, ets_nil, ets_cons, ei_seq, ei_rng1, ei_rng2, ei_zip, s_asg_, s_par_, s_ex_, s_ret_, s_retN_, s_ite_, ss_nil_, fin_rt, fin_nx, wipeD, lim, isK, testT, isNon, isAny, o_add, o_sub, o_mul, o_fdiv, o_mod, o_pow, o_addt, o_addl, o_mult, k_eq, k_ne, k_lt, k_le, k_gt, k_ge, k_isb, k_isn, k_isnn, k_eqb, k_eql, k_nel, k_in, k_nin, g_tup_, g_lst_, g_frz_, g_cel_, sl_tup_, sl_lst_, sl_frz_, sq_tup, sq_lst, zp_tup, n_lent, n_lenl, n_lenf, n_abs, n_int, n_intb, n_max, n_min, n_sum, n_tupl, n_tupt, n_tupc, n_all, n_any, n_gcd, n_isi, n_isit, y_int, y_bl, y_tup, y_lst, y_non, q_app, List.getElem?_cons_zero, List.getElem?_cons_succ, List.getElem?_nil, List.set_cons_zero, List.set_cons_succ, Option.bind_some, Option.map_some, Option.bind_none, List.length_cons, List.length_nil, Bool.false_eq_true, if_true, if_false, List.nil_append, List.cons_append, at_0, at_1, sm3, sm4, j6.1, j7.1, l2]
  · simp only [e_var, e_non, e_bl, e_int, e_str, e_ty, e_glob, e_op, e_neg, e_cmp, e_chn, e_bop, e_not, e_ife, e_tup, e_lst, e_ix, e_sl, e_cl, e_ck, e_bt, e_mt, eb_one, eb_cons, es_nil, es_cons, eo_none, eo_some, ec_none, ec_some, et_name, et_tup, et_tupl, et_sub, ets_nil, ets_cons, ei_seq, ei_rng1, ei_rng2, ei_zip, s_asg_, s_par_, s_ex_, s_ret_, s_retN_, s_ite_, ss_nil_, fin_rt, fin_nx, wipeD, lim, isK, testT, isNon, isAny, o_add, o_sub, o_mul, o_fdiv, o_mod, o_pow, o_addt, o_addl, o_mult, k_eq, k_ne, k_lt, k_le, k_gt, k_ge, k_isb, k_isn, k_isnn, k_eqb, k_eql, k_nel, k_in, k_nin, g_tup_, g_lst_, g_frz_, g_cel_, sl_tup_, sl_lst_, sl_frz_, sq_tup, sq_lst, zp_tup, n_lent, n_lenl, n_lenf, n_abs, n_int, n_intb, n_max, n_min, n_sum, n_tupl, n_tupt, n_tupc, n_all, n_any, n_gcd, n_isi, n_isit, y_int, y_bl, y_tup, y_lst, y_non, q_app, List.getElem?_cons_zero, List.getElem?_cons_succ, List.getElem?_nil, List.set_cons_zero, List.set_cons_succ, Option.bind_some, Option.map_some, Option.bind_none, List.length_cons, List.length_nil, Bool.false_eq_true, if_true, if_false, List.nil_append, List.cons_append, j1.1, j2.1, j3.1, j4.1, j5', l2]
  · simp only [e_var, e_non, e_bl, e_int, e_str, e_ty, e_glob, e_op, e_neg, e_cmp, e_chn, e_bop, e_not, e_ife, e_tup, e_lst, e_ix, e_sl, e_cl, e_ck, e_bt, e_mt, eb_one, eb_cons, es_nil, es_cons, eo_none, eo_some, ec_none, ec_some, et_name, et_tup, et_tupl, et_sub, ets_nil, ets_cons, ei_seq, ei_rng1, ei_rng2, ei_zip, s_asg_, s_par_, s_ex_, s_ret_, s_retN_, s_ite_, ss_nil_, fin_rt, fin_nx, wipeD, lim, isK, testT, isNon, isAny, o_add, o_sub, o_mul, o_fdiv, o_mod, o_pow, o_addt, o_addl, o_mult, k_eq, k_ne, k_lt, k_le, k_gt, k_ge, k_isb, k_isn, k_isnn, k_eqb, k_eql, k_nel, k_in, k_nin, g_tup_, g_lst_, g_frz_, g_cel_, sl_tup_, sl_lst_, sl_frz_, sq_tup, sq_lst, zp_tup, n_lent, n_lenl, n_lenf, n_abs, n_int, n_intb, n_max, n_min, n_sum, n_tupl, n_tupt, n_tupc, n_all, n_any, n_gcd, n_isi, n_isit, y_int, y_bl, y_tup, y_lst, y_non, q_app, List.getElem?_cons_zero, List.getElem?_cons_succ, List.getElem?_nil, List.set_cons_zero, List.set_cons_succ, Option.bind_some, Option.map_some, Option.bind_none, List.length_cons, List.length_nil, Bool.false_eq_true, if_true, if_false, List.nil_append, List.cons_append, at_0, at_1, sm2, Bool.not_true]
  · simp only [e_var, e_non, e_bl, e_int, e_str, e_ty, e_glob, e_op, e_neg, e_cmp, e_chn, e_bop, e_not, e_ife, e_tup, e_lst, e_ix, e_sl, e_cl, e_ck, e_bt, e_mt, eb_one, eb_cons, es_nil, es_cons, eo_none, eo_some, ec_none, ec_some, et_name, et_tup, et_tupl, et_sub, ets_nil, ets_cons, ei_seq, ei_rng1, ei_rng2, ei_zip, s_asg_, s_par_, s_ex_, s_ret_, s_retN_, s_ite_, ss_nil_, fin_rt, fin_nx, wipeD, lim, isK, testT, isNon, isAny, o_add, o_sub, o_mul, o_fdiv, o_mod, o_pow, o_addt, o_addl, o_mult, k_eq, k_ne, k_lt, k_le, k_gt, k_ge, k_isb, k_isn, k_isnn, k_eqb, k_eql, k_nel, k_in, k_nin, g_tup_, g_lst_, g_frz_, g_cel_, sl_tup_, sl_lst_, sl_frz_, sq_tup, sq_lst, zp_tup, n_lent, n_lenl, n_lenf, n_abs, n_int, n_intb, n_max, n_min, n_sum, n_tupl, n_tupt, n_tupc, n_all, n_any, n_gcd, n_isi, n_isit, y_int, y_bl, y_tup, y_lst, y_non, q_app, List.getElem?_cons_zero, List.getElem?_cons_succ, List.getElem?_nil, List.set_cons_zero, List.set_cons_succ, Option.bind_some, Option.map_some, Option.bind_none, List.length_cons, List.length_nil, Bool.false_eq_true, if_true, if_false, List.nil_append, List.cons_append, k1.1, k6.1, k7.1, k8.1, k9.1, l2]
  · simp only [e_var, e_non, e_bl, e_int, e_str, e_ty, e_glob, e_op, e_neg, e_cmp, e_chn, e_bop, e_not, e_ife, e_tup, e_lst, e_ix, e_sl, e_cl, e_ck, e_bt, e_mt, eb_one, eb_cons, es_nil, es_cons, eo_none, eo_some, ec_none, ec_some, et_name, et_tup, et_tupl, et_sub, ets_nil, ets_cons, ei_seq, ei_rng1, ei_rng2, ei_zip, s_asg_, s_par_, s_ex_, s_ret_, s_retN_, s_ite_, ss_nil_, fin_rt, fin_nx, wipeD, lim, isK, testT, isNon, isAny, o_add, o_sub, o_mul, o_fdiv, o_mod, o_pow, o_addt, o_addl, o_mult, k_eq, k_ne, k_lt, k_le, k_gt, k_ge, k_isb, k_isn, k_isnn, k_eqb, k_eql, k_nel, k_in, k_nin, g_tup_, g_lst_, g_frz_, g_cel_, sl_tup_, sl_lst_, sl_frz_, sq_tup, sq_lst, zp_tup, n_lent, n_lenl, n_lenf, n_abs, n_int, n_intb, n_max, n_min, n_sum, n_tupl, n_tupt, n_tupc, n_all, n_any, n_gcd, n_isi, n_isit, y_int, y_bl, y_tup, y_lst, y_non, q_app, List.getElem?_cons_zero, List.getElem?_cons_succ, List.getElem?_nil, List.set_cons_zero, List.set_cons_succ, Option.bind_some, Option.map_some, Option.bind_none, List.length_cons, List.length_nil, Bool.false_eq_true, if_true, if_false, List.nil_append, List.cons_append, k4.1, t1.1, t2', t3', t4.1, t5', k5.1, sm1, l2, Bool.not_true]
  · simp only [e_var, e_non, e_bl, e_int, e_str, e_ty, e_glob, e_op, e_neg, e_cmp, e_chn, e_bop, e_not, e_ife, e_tup, e_lst, e_ix, e_sl, e_cl, e_ck, e_bt, e_mt, eb_one, eb_cons, es_nil, es_cons, eo_none, eo_some, ec_none, ec_some, et_name, et_tup, et_tupl, et_sub, ets_nil, ets_cons, ei_seq, ei_rng1, ei_rng2, ei_zip, s_asg_, s_par_, s_ex_, s_ret_, s_retN_, s_ite_, ss_nil_, fin_rt, fin_nx, wipeD, lim, isK, testT, isNon, isAny, o_add, o_sub, o_mul, o_fdiv, o_mod, o_pow, o_addt, o_addl, o_mult, k_eq, k_ne, k_lt, k_le, k_gt, k_ge, k_isb, k_isn, k_isnn, k_eqb, k_eql, k_nel, k_in, k_nin, g_tup_, g_lst_, g_frz_, g_cel_, sl_tup_, sl_lst_, sl_frz_, sq_tup, sq_lst, zp_tup, n_lent, n_lenl, n_lenf, n_abs, n_int, n_intb, n_max, n_min, n_sum, n_tupl, n_tupt, n_tupc, n_all, n_any, n_gcd, n_isi, n_isit, y_int, y_bl, y_tup, y_lst, y_non, q_app, List.getElem?_cons_zero, List.getElem?_cons_succ, List.getElem?_nil, List.set_cons_zero, List.set_cons_succ, Option.bind_some, Option.map_some, Option.bind_none, List.length_cons, List.length_nil, Bool.false_eq_true, if_true, if_false, List.nil_append, List.cons_append, k1.1, k2.1, k3.1, l2]
  · simp only [e_var, e_non, e_bl, e_int, e_str, e_ty, e_glob, e_op, e_neg, e_cmp, e_chn, e_bop, e_not, e_ife, e_tup, e_lst, e_ix, e_sl, e_cl, e_ck, e_bt, e_mt, eb_one, eb_cons, es_nil, es_cons, eo_none, eo_some, ec_none, ec_some, et_name, et_tup, et_tupl, et_sub, ets_nil, ets_cons, ei_seq, ei_rng1, ei_rng2, ei_zip, s_asg_, s_par_, s_ex_, s_ret_, s_retN_, s_ite_, ss_nil_, fin_rt, fin_nx, wipeD, lim, isK, testT, isNon, isAny, o_add, o_sub, o_mul, o_fdiv, o_mod, o_pow, o_addt, o_addl, o_mult, k_eq, k_ne, k_lt, k_le, k_gt, k_ge, k_isb, k_isn, k_isnn, k_eqb, k_eql, k_nel, k_in, k_nin, g_tup_, g_lst_, g_frz_, g_cel_, sl_tup_, sl_lst_, sl_frz_, sq_tup, sq_lst, zp_tup, n_lent, n_lenl, n_lenf, n_abs, n_int, n_intb, n_max, n_min, n_sum, n_tupl, n_tupt, n_tupc, n_all, n_any, n_gcd, n_isi, n_isit, y_int, y_bl, y_tup, y_lst, y_non, q_app, List.getElem?_cons_zero, List.getElem?_cons_succ, List.getElem?_nil, List.set_cons_zero, List.set_cons_succ, Option.bind_some, Option.map_some, Option.bind_none, List.length_cons, List.length_nil, Bool.false_eq_true, if_true, if_false, List.nil_append, List.cons_append, e1, e2]
end K03

set_option Elab.async false
set_option linter.all false
set_option maxRecDepth 100000
set_option maxHeartbeats 2000000
/-! k03: the law along a way. -/
namespace K03
open PySem L2 Py
abbrev wayBody : Ss := (.cons (.asg (.name 8) (.ife (.var 5) (.ck f_between .nil (.cons (.var 7) (.cons (.var 4) (.cons (.var 3) .nil))) [2, 1, 0]) (.cl f_between (.cons (.var 3) (.cons (.var 4) (.cons (.var 7) .nil)))))) (.cons (.asg (.name 9) (.cl f__law_plus (.cons (.ix (.var 6) (.int 0)) (.cons (.cl f__law_times (.cons (.var 7) (.cons (.cl f__law_less (.cons (.ix (.var 6) (.int 1)) (.cons (.ix (.var 6) (.int 0)) .nil))) .nil))) .nil)))) (.cons (.asg (.name 10) (.lst false (.cons (.ck f_excess .nil (.cons (.var 8) (.cons (.var 2) .nil)) [1, 0]) (.cons (.cl f_standing (.cons (.var 2) (.cons (.var 8) .nil))) (.cons (.cl f_excess (.cons (.cl f_opposite (.cons (.var 2) .nil)) (.cons (.var 8) .nil))) .nil))))) (.cons (.ite (.bop false (.cons (.not (.cl f__law_same (.cons (.var 10) (.cons (.lst false (.cons (.var 9) (.cons (.cl f__law_sign (.cons (.var 9) .nil)) (.cons (.tup (.cons (.op .sub (.int 0) (.ix (.var 9) (.int 0))) (.cons (.ix (.var 9) (.int 1)) .nil))) .nil)))) .nil)))) (.cons (.not (.cl f__law_same (.cons (.var 8) (.cons (.cl f__law_mix (.cons (.var 3) (.cons (.var 4) (.cons (.var 7) .nil)))) .nil)))) .nil))) (.cons (.ret (.bl false)) .nil) .nil) (.cons (.ite (.not (.cl f__law_same (.cons (.cl f_between (.cons (.var 4) (.cons (.var 3) (.cons (.cl f__law_less (.cons (.tup (.cons (.int 1) (.cons (.int 1) .nil))) (.cons (.var 7) .nil))) .nil)))) (.cons (.var 8) .nil)))) (.cons (.ret (.bl false)) .nil) .nil) (.cons (.asg (.name 5) (.not (.var 5))) .nil))))))
theorem pm10 {x y : D} : List.mapM (fun i => ([x, y] : List D)[i]?) [1, 0] = some [y, x] := rfl
theorem pm210 {x y z : D} : List.mapM (fun i => ([x, y, z] : List D)[i]?) [2, 1, 0] = some [z, y, x] := rfl
theorem over_mix (s : Rat) (as : List Int) (c : Int) (a b : List Rat) (h : a.length = as.length) (h' : a.length = b.length) : overQ as c (mixQ s a b) = overQ as c a + s * (overQ as c b - overQ as c a) := by
  have key : ∀ (as : List Int) (a b : List Rat), a.length = as.length → a.length = b.length → (List.zipWith (fun (a : Int) (x : Rat) => (a : Rat) * x) as (mixQ s a b)).sum = (List.zipWith (fun (a : Int) (x : Rat) => (a : Rat) * x) as a).sum + s * ((List.zipWith (fun (a : Int) (x : Rat) => (a : Rat) * x) as b).sum - (List.zipWith (fun (a : Int) (x : Rat) => (a : Rat) * x) as a).sum) := by
    intro as
    induction as with
    | nil => intro a b h h'; simp; grind
    | cons k as ih =>
      intro a b h h'
      match a, b, h, h' with
      | x :: a, y :: b, h, h' =>
        have := ih a b (by simpa using h) (by simpa using h')
        simp only [mixQ, List.zipWith_cons_cons, List.sum_cons] at this ⊢
        rw [this]
        grind
  unfold overQ
  rw [key as a b h h']
  grind
theorem l_way (n : Nat) (hn : 11 ≤ n) (i : Nat) (size : Int) (as : List Int) (c : Int) (a b : List Rat) (H : Hs) (all : List D) (hs : Sd as c 8) (ha : Ok a 6) (hb : Ok b 6) (hal : a.length = as.length) (hab : a.length = b.length) : ∀ (ss : List Rat) (nm : Bool) (v7 v8 v9 v10 : Option D), (∀ s ∈ ss, (0 ≤ s ∧ s ≤ 1) ∧ Fq s 5) →
    ∃ nm' w7 w8 w9 w10, loopF (fun d σ h => evTg (evF FT gl n) gl (.name 7) d σ h) (fun σ h => evSs (evF FT gl n) gl wayBody σ h) none all (ss.map fr) [some (.cel i), some (.int size), some (P as c), some (pt a), some (pt b), some (.bl nm), some (.lst [fr (overQ as c a), fr (overQ as c b)]), v7, v8, v9, v10, none, none, none, none] H =
    some (.nx [some (.cel i), some (.int size), some (P as c), some (pt a), some (pt b), some (.bl nm'), some (.lst [fr (overQ as c a), fr (overQ as c b)]), w7, w8, w9, w10, none, none, none, none] H)
  | [], nm, v7, v8, v9, v10, _ => ⟨nm, v7, v8, v9, v10, lf_nil⟩
  | s :: ss, nm, v7, v8, v9, v10, hss => by
    obtain ⟨us, qs⟩ := hss s List.mem_cons_self
    have hl := hs.len
    have hl' : a.length = 2 ∨ a.length = 3 := by omega
    have k1 := r_between a b s ha hb (qs.mono (l := 6) (by decide)) us.1 us.2 hl' hab (by decide) (by decide) H n (by omega)
    have lm := mix_len (s := s) hab
    have om := over_mix s as c a b hal hab
    have pp := (r_excess as c a hs ha hal (by decide) (by decide) (by decide) H n (by omega)).2
    have qq := (r_excess as c b hs hb (by omega) (by decide) (by decide) (by decide) H n (by omega)).2
    have x1 := r_less (overQ as c b) (overQ as c a) qq pp (by decide) (by decide) (by decide) H n (by omega)
    have x2 := r_times s _ qs x1.2 (by decide) (by decide) (by decide) H n (by omega)
    have x3 := r_plus (overQ as c a) _ pp x2.2 (by decide) (by decide) (by decide) H n (by omega)
    rw [← om] at x3
    have y1 := r_excess as c (mixQ s a b) hs k1.2 (by omega) (by decide) (by decide) (by decide) H n (by omega)
    have y2 := r_standing as c (mixQ s a b) hs k1.2 (by omega) (by decide) (by decide) (by decide) H n (by omega)
    have y3 := r_opposite as c hs H n (by omega)
    have y4 := r_excess (as.map (0 - ·)) (0 - c) (mixQ s a b) hs.neg k1.2 (by simp; omega) (by decide) (by decide) (by decide) H n (by omega)
    rw [neg_sum] at y4
    have y5 := r_lsign (overQ as c (mixQ s a b)) H n (by omega)
    have y6 := r_lmix a b s ha hb (qs.mono (by decide)) (by omega) hab (by decide) (by decide) H n (by omega)
    have z1 := r_less 1 s (sz01 (k := 5) (by decide)).2 qs (by decide) (by decide) (by decide) H n (by omega)
    have z2 := r_between b a (1 - s) (hb.mono (l := 11) (by decide)) (ha.mono (by decide)) z1.2 (Un.sub us).1 (Un.sub us).2 (by omega) hab.symm (by decide) (by decide) H n (by omega)
    rw [mix_r s hab] at z2
    have z1' := z1.1
    rw [fr01.2] at z1'
    have sm1 := r_same H 2 (.lst [fr (overQ as c (mixQ s a b)), .int (sgn (overQ as c (mixQ s a b))), fr (-overQ as c (mixQ s a b))]) (by
      refine ⟨by simp [lim], ?_⟩
      intro d hd
      simp at hd
      rcases hd with rfl | rfl | rfl
      · exact same_fr _ 0
      · exact same_int _ 1
      · exact same_fr _ 0) n (by omega)
    have sm2 := r_same H 1 (pt (mixQ s a b)) (same_pt k1.2 (by omega) 0) n (by omega)
    obtain ⟨nm', w7, w8, w9, w10, ih⟩ := l_way n hn i size as c a b H all hs ha hb hal hab ss (!nm) (some (fr s)) (some (pt (mixQ s a b))) (some (fr (overQ as c (mixQ s a b)))) (some (.lst [fr (overQ as c (mixQ s a b)), .int (sgn (overQ as c (mixQ s a b))), fr (-overQ as c (mixQ s a b))])) fun x hx => hss x (List.mem_cons_of_mem _ hx)
    refine ⟨nm', w7, w8, w9, w10, ?_⟩
    have g0 : ∀ q : Rat, getI H (fr q) (.int 0) = some (.int q.num) := fun q => at_0 _ _
    have g1 : ∀ q : Rat, getI H (fr q) (.int 1) = some (.int q.den) := fun q => at_1 _ _ _
    have l3 : (0 + 1 + 1 + 1 : Nat) ≤ 100000 := by decide
    have l2 : (0 + 1 + 1 : Nat) ≤ 100000 := by decide
    rw [List.map_cons, lf_cons et_name (σ2 := [some (.cel i), some (.int size), some (P as c), some (pt a), some (pt b), some (.bl (!nm)), some (.lst [fr (overQ as c a), fr (overQ as c b)]), some (fr s), some (pt (mixQ s a b)), some (fr (overQ as c (mixQ s a b))), some (.lst [fr (overQ as c (mixQ s a b)), .int (sgn (overQ as c (mixQ s a b))), fr (-overQ as c (mixQ s a b))]), none, none, none, none]) (h2 := H), ih]
    rw [wayBody,
      ss_nx (σ' := [some (.cel i), some (.int size), some (P as c), some (pt a), some (pt b), some (.bl nm), some (.lst [fr (overQ as c a), fr (overQ as c b)]), some (fr s), some (pt (mixQ s a b)), v9, v10, none, none, none, none]) (h' := H),
      ss_nx (σ' := [some (.cel i), some (.int size), some (P as c), some (pt a), some (pt b), some (.bl nm), some (.lst [fr (overQ as c a), fr (overQ as c b)]), some (fr s), some (pt (mixQ s a b)), some (fr (overQ as c (mixQ s a b))), v10, none, none, none, none]) (h' := H),
      ss_nx (σ' := [some (.cel i), some (.int size), some (P as c), some (pt a), some (pt b), some (.bl nm), some (.lst [fr (overQ as c a), fr (overQ as c b)]), some (fr s), some (pt (mixQ s a b)), some (fr (overQ as c (mixQ s a b))), some (.lst [fr (overQ as c (mixQ s a b)), .int (sgn (overQ as c (mixQ s a b))), fr (-overQ as c (mixQ s a b))]), none, none, none, none]) (h' := H),
      ss_nx (σ' := [some (.cel i), some (.int size), some (P as c), some (pt a), some (pt b), some (.bl nm), some (.lst [fr (overQ as c a), fr (overQ as c b)]), some (fr s), some (pt (mixQ s a b)), some (fr (overQ as c (mixQ s a b))), some (.lst [fr (overQ as c (mixQ s a b)), .int (sgn (overQ as c (mixQ s a b))), fr (-overQ as c (mixQ s a b))]), none, none, none, none]) (h' := H),
      ss_nx (σ' := [some (.cel i), some (.int size), some (P as c), some (pt a), some (pt b), some (.bl nm), some (.lst [fr (overQ as c a), fr (overQ as c b)]), some (fr s), some (pt (mixQ s a b)), some (fr (overQ as c (mixQ s a b))), some (.lst [fr (overQ as c (mixQ s a b)), .int (sgn (overQ as c (mixQ s a b))), fr (-overQ as c (mixQ s a b))]), none, none, none, none]) (h' := H),
      ss_nx (σ' := [some (.cel i), some (.int size), some (P as c), some (pt a), some (pt b), some (.bl (!nm)), some (.lst [fr (overQ as c a), fr (overQ as c b)]), some (fr s), some (pt (mixQ s a b)), some (fr (overQ as c (mixQ s a b))), some (.lst [fr (overQ as c (mixQ s a b)), .int (sgn (overQ as c (mixQ s a b))), fr (-overQ as c (mixQ s a b))]), none, none, none, none]) (h' := H),
      ss_nil_]
    · simp only [e_var, e_non, e_bl, e_int, e_str, e_ty, e_glob, e_op, e_neg, e_cmp, e_chn, e_bop, e_not, e_ife, e_tup, e_lst, e_ix, e_sl, e_cl, e_ck, e_bt, e_mt, eb_one, eb_cons, es_nil, es_cons, eo_none, eo_some, ec_none, ec_some, et_name, et_tup, et_tupl, et_sub, ets_nil, ets_cons, ei_seq, ei_rng1, ei_rng2, ei_zip, s_asg_, s_par_, s_ex_, s_ret_, s_retN_, s_ite_, ss_nil_, fin_rt, fin_nx, wipeD, lim, isK, testT, isNon, isAny, o_add, o_sub, o_mul, o_fdiv, o_mod, o_pow, o_addt, o_addl, o_mult, k_eq, k_ne, k_lt, k_le, k_gt, k_ge, k_isb, k_isn, k_isnn, k_eqb, k_eql, k_nel, k_in, k_nin, g_tup_, g_lst_, g_frz_, g_cel_, sl_tup_, sl_lst_, sl_frz_, sq_tup, sq_lst, zp_tup, n_lent, n_lenl, n_lenf, n_abs, n_int, n_intb, n_max, n_min, n_sum, n_tupl, n_tupt, n_tupc, n_all, n_any, n_gcd, n_isi, n_isit, y_int, y_bl, y_tup, y_lst, y_non, q_app, List.getElem?_cons_zero, List.getElem?_cons_succ, List.getElem?_nil, List.set_cons_zero, List.set_cons_succ, Option.bind_some, Option.map_some, Option.bind_none, List.length_cons, List.length_nil, Bool.false_eq_true, if_true, if_false, List.nil_append, List.cons_append]
    · simp only [e_var, e_non, e_bl, e_int, e_str, e_ty, e_glob, e_op, e_neg, e_cmp, e_chn, e_bop, e_not, e_ife, e_tup, e_lst, e_ix, e_sl, e_cl, e_ck, e_bt, e_mt, eb_one, eb_cons, es_nil, es_cons, eo_none, eo_some, ec_none, ec_some, et_name, et_tup, et_tupl, et_sub, ets_nil, ets_cons, ei_seq, ei_rng1, ei_rng2, ei_zip, s_asg_, s_par_, s_ex_, s_ret_, s_retN_, s_ite_, ss_nil_, fin_rt, fin_nx, wipeD, lim, isK, testT, isNon, isAny, o_add, o_sub, o_mul, o_fdiv, o_mod, o_pow, o_addt, o_addl, o_mult, k_eq, k_ne, k_lt, k_le, k_gt, k_ge, k_isb, k_isn, k_isnn, k_eqb, k_eql, k_nel, k_in, k_nin, g_tup_, g_lst_, g_frz_, g_cel_, sl_tup_, sl_lst_, sl_frz_, sq_tup, sq_lst, zp_tup, n_lent, n_lenl, n_lenf, n_abs, n_int, n_intb, n_max, n_min, n_sum, n_tupl, n_tupt, n_tupc, n_all, n_any, n_gcd, n_isi, n_isit, y_int, y_bl, y_tup, y_lst, y_non, q_app, List.getElem?_cons_zero, List.getElem?_cons_succ, List.getElem?_nil, List.set_cons_zero, List.set_cons_succ, Option.bind_some, Option.map_some, Option.bind_none, List.length_cons, List.length_nil, Bool.false_eq_true, if_true, if_false, List.nil_append, List.cons_append, z1', z2.1, sm2, l2, Bool.not_true]
    · have e := fr_neg (overQ as c (mixQ s a b))
      simp only [e_var, e_non, e_bl, e_int, e_str, e_ty, e_glob, e_op, e_neg, e_cmp, e_chn, e_bop, e_not, e_ife, e_tup, e_lst, e_ix, e_sl, e_cl, e_ck, e_bt, e_mt, eb_one, eb_cons, es_nil, es_cons, eo_none, eo_some, ec_none, ec_some, et_name, et_tup, et_tupl, et_sub, ets_nil, ets_cons, ei_seq, ei_rng1, ei_rng2, ei_zip, s_asg_, s_par_, s_ex_, s_ret_, s_retN_, s_ite_, ss_nil_, fin_rt, fin_nx, wipeD, lim, isK, testT, isNon, isAny, o_add, o_sub, o_mul, o_fdiv, o_mod, o_pow, o_addt, o_addl, o_mult, k_eq, k_ne, k_lt, k_le, k_gt, k_ge, k_isb, k_isn, k_isnn, k_eqb, k_eql, k_nel, k_in, k_nin, g_tup_, g_lst_, g_frz_, g_cel_, sl_tup_, sl_lst_, sl_frz_, sq_tup, sq_lst, zp_tup, n_lent, n_lenl, n_lenf, n_abs, n_int, n_intb, n_max, n_min, n_sum, n_tupl, n_tupt, n_tupc, n_all, n_any, n_gcd, n_isi, n_isit, y_int, y_bl, y_tup, y_lst, y_non, q_app, List.getElem?_cons_zero, List.getElem?_cons_succ, List.getElem?_nil, List.set_cons_zero, List.set_cons_succ, Option.bind_some, Option.map_some, Option.bind_none, List.length_cons, List.length_nil, Bool.false_eq_true, if_true, if_false, List.nil_append, List.cons_append, y5, g0, g1, ← e, sm1, y6, sm2, l2, l3, Bool.not_true]
    · simp only [e_var, e_non, e_bl, e_int, e_str, e_ty, e_glob, e_op, e_neg, e_cmp, e_chn, e_bop, e_not, e_ife, e_tup, e_lst, e_ix, e_sl, e_cl, e_ck, e_bt, e_mt, eb_one, eb_cons, es_nil, es_cons, eo_none, eo_some, ec_none, ec_some, et_name, et_tup, et_tupl, et_sub, ets_nil, ets_cons, ei_seq, ei_rng1, ei_rng2, ei_zip, s_asg_, s_par_, s_ex_, s_ret_, s_retN_, s_ite_, ss_nil_, fin_rt, fin_nx, wipeD, lim, isK, testT, isNon, isAny, o_add, o_sub, o_mul, o_fdiv, o_mod, o_pow, o_addt, o_addl, o_mult, k_eq, k_ne, k_lt, k_le, k_gt, k_ge, k_isb, k_isn, k_isnn, k_eqb, k_eql, k_nel, k_in, k_nin, g_tup_, g_lst_, g_frz_, g_cel_, sl_tup_, sl_lst_, sl_frz_, sq_tup, sq_lst, zp_tup, n_lent, n_lenl, n_lenf, n_abs, n_int, n_intb, n_max, n_min, n_sum, n_tupl, n_tupt, n_tupc, n_all, n_any, n_gcd, n_isi, n_isit, y_int, y_bl, y_tup, y_lst, y_non, q_app, List.getElem?_cons_zero, List.getElem?_cons_succ, List.getElem?_nil, List.set_cons_zero, List.set_cons_succ, Option.bind_some, Option.map_some, Option.bind_none, List.length_cons, List.length_nil, Bool.false_eq_true, if_true, if_false, List.nil_append, List.cons_append, pm10, y1.1, y2, y3, y4.1, l3]
    · simp only [e_var, e_non, e_bl, e_int, e_str, e_ty, e_glob, e_op, e_neg, e_cmp, e_chn, e_bop, e_not, e_ife, e_tup, e_lst, e_ix, e_sl, e_cl, e_ck, e_bt, e_mt, eb_one, eb_cons, es_nil, es_cons, eo_none, eo_some, ec_none, ec_some, et_name, et_tup, et_tupl, et_sub, ets_nil, ets_cons, ei_seq, ei_rng1, ei_rng2, ei_zip, s_asg_, s_par_, s_ex_, s_ret_, s_retN_, s_ite_, ss_nil_, fin_rt, fin_nx, wipeD, lim, isK, testT, isNon, isAny, o_add, o_sub, o_mul, o_fdiv, o_mod, o_pow, o_addt, o_addl, o_mult, k_eq, k_ne, k_lt, k_le, k_gt, k_ge, k_isb, k_isn, k_isnn, k_eqb, k_eql, k_nel, k_in, k_nin, g_tup_, g_lst_, g_frz_, g_cel_, sl_tup_, sl_lst_, sl_frz_, sq_tup, sq_lst, zp_tup, n_lent, n_lenl, n_lenf, n_abs, n_int, n_intb, n_max, n_min, n_sum, n_tupl, n_tupt, n_tupc, n_all, n_any, n_gcd, n_isi, n_isit, y_int, y_bl, y_tup, y_lst, y_non, q_app, List.getElem?_cons_zero, List.getElem?_cons_succ, List.getElem?_nil, List.set_cons_zero, List.set_cons_succ, Option.bind_some, Option.map_some, Option.bind_none, List.length_cons, List.length_nil, Bool.false_eq_true, if_true, if_false, List.nil_append, List.cons_append, at_0, at_1, x1.1, x2.1, x3.1]
    · cases nm <;> simp only [e_var, e_non, e_bl, e_int, e_str, e_ty, e_glob, e_op, e_neg, e_cmp, e_chn, e_bop, e_not, e_ife, e_tup, e_lst, e_ix, e_sl, e_cl, e_ck, e_bt, e_mt, eb_one, eb_cons, es_nil, es_cons, eo_none, eo_some, ec_none, ec_some, et_name, et_tup, et_tupl, et_sub, ets_nil, ets_cons, ei_seq, ei_rng1, ei_rng2, ei_zip, s_asg_, s_par_, s_ex_, s_ret_, s_retN_, s_ite_, ss_nil_, fin_rt, fin_nx, wipeD, lim, isK, testT, isNon, isAny, o_add, o_sub, o_mul, o_fdiv, o_mod, o_pow, o_addt, o_addl, o_mult, k_eq, k_ne, k_lt, k_le, k_gt, k_ge, k_isb, k_isn, k_isnn, k_eqb, k_eql, k_nel, k_in, k_nin, g_tup_, g_lst_, g_frz_, g_cel_, sl_tup_, sl_lst_, sl_frz_, sq_tup, sq_lst, zp_tup, n_lent, n_lenl, n_lenf, n_abs, n_int, n_intb, n_max, n_min, n_sum, n_tupl, n_tupt, n_tupc, n_all, n_any, n_gcd, n_isi, n_isit, y_int, y_bl, y_tup, y_lst, y_non, q_app, List.getElem?_cons_zero, List.getElem?_cons_succ, List.getElem?_nil, List.set_cons_zero, List.set_cons_succ, Option.bind_some, Option.map_some, Option.bind_none, List.length_cons, List.length_nil, Bool.false_eq_true, if_true, if_false, List.nil_append, List.cons_append, pm210, k1.1]
end K03

set_option Elab.async false
set_option linter.all false
set_option maxRecDepth 100000
set_option maxHeartbeats 2000000
/-! k03: the law along a way, whole. -/
namespace K03
open PySem L2 Py
theorem sgn_pos {x : Rat} (h : 0 < x) : sgn x = 1 := by
  have h1 : 0 ≤ x.num := Rat.num_nonneg.mpr (Rat.le_of_lt h)
  have h2 : x.num ≠ 0 := fun e => by
    have := Rat.num_eq_zero.mp e
    subst this
    exact absurd h (by decide +kernel)
  exact Int.sign_eq_one_of_pos (by omega)
theorem sgn_neg {x : Rat} (h : x < 0) : sgn x = -1 := by
  have h1 : 0 ≤ (-x).num := Rat.num_nonneg.mpr (by grind)
  rw [Rat.neg_num] at h1
  have h2 : x.num ≠ 0 := fun e => by
    have := Rat.num_eq_zero.mp e
    subst this
    exact absurd h (by decide +kernel)
  exact Int.sign_eq_neg_one_of_neg (by omega)
theorem sgn_zero : sgn 0 = 0 := rfl
theorem sgn_cases (x : Rat) : (0 < x ∧ sgn x = 1) ∨ (x = 0 ∧ sgn x = 0) ∨ (x < 0 ∧ sgn x = -1) := by
  by_cases h0 : x = 0
  · subst h0; exact .inr (.inl ⟨rfl, rfl⟩)
  · by_cases h1 : 0 ≤ x
    · have : 0 < x := by grind
      exact .inl ⟨this, sgn_pos this⟩
    · have : x < 0 := by grind
      exact .inr (.inr ⟨this, sgn_neg this⟩)
theorem sgn_third (x : Rat) : sgn (x * (1 / 3)) = sgn x := by
  rcases sgn_cases x with ⟨h, e⟩ | ⟨h, e⟩ | ⟨h, e⟩
  · rw [e]; exact sgn_pos (by grind)
  · subst h; rw [Rat.zero_mul]
  · rw [e]; exact sgn_neg (by grind)
theorem inv_pos {q : Rat} (h : 0 < q.num) : fr q⁻¹ = .tup [.int q.den, .int q.num] := by
  have e : ((q.den : Int) : Rat) / (q.num : Rat) = q⁻¹ := by
    have h1 := num_over q
    have h2 := den0 q
    have h3 := rat0 h
    generalize (q.num : Rat) = a at *
    generalize ((q.den : Int) : Rat) = b at *
    subst h1
    grind
  rw [← e, ← fr_low _ _ h]
  have g : Nat.gcd (q.den : Int).natAbs q.num.natAbs = 1 := by rw [Nat.gcd_comm]; exact gcd_num q
  rw [g]
  simp
theorem inv_neg {q : Rat} (h : q.num < 0) : fr q⁻¹ = .tup [.int (0 - q.den), .int (0 - q.num)] := by
  have hp : 0 < (0 - q.num) := by omega
  have e : (((0 - (q.den : Int)) : Int) : Rat) / ((0 - q.num : Int) : Rat) = q⁻¹ := by
    have h1 := num_over q
    have h2 := den0 q
    have h3 := rat0 hp
    rw [Rat.intCast_sub] at h3 ⊢
    rw [Rat.intCast_sub]
    generalize (q.num : Rat) = a at *
    generalize ((q.den : Int) : Rat) = b at *
    subst h1
    have : ((0 : Int) : Rat) = 0 := rfl
    rw [this] at *
    grind
  rw [← e, ← fr_low _ _ hp]
  have g : Nat.gcd (0 - (q.den : Int)).natAbs (0 - q.num).natAbs = 1 := by
    have := gcd_num q
    have e1 : (0 - (q.den : Int)).natAbs = (q.den : Int).natAbs := by omega
    have e2 : (0 - q.num).natAbs = q.num.natAbs := by omega
    rw [e1, e2, Nat.gcd_comm]; exact this
  rw [g]
  simp
theorem fr_ext {p : Rat} {a b : Int} (h : fr p = .tup [.int a, .int b]) : p.num = a ∧ (p.den : Int) = b := by
  unfold fr at h
  simp at h
  exact h
theorem Fq.inv {q : Rat} {k : Nat} (h : Fq q k) (h0 : q.num ≠ 0) : Fq q⁻¹ k := by
  rcases Int.lt_trichotomy q.num 0 with e | e | e
  · obtain ⟨e1, e2⟩ := fr_ext (inv_neg e)
    unfold Fq Sz at *
    rw [e1, e2]
    omega
  · exact absurd e h0
  · obtain ⟨e1, e2⟩ := fr_ext (inv_pos e)
    unfold Fq at *
    rw [e1, e2]
    exact ⟨h.2, h.1⟩
theorem third_fr : fr (1 / 3) = .tup [.int 1, .int 3] ∧ fr (2 / 3) = .tup [.int 2, .int 3] ∧ Fq (1 / 3) 2 ∧ Fq (2 / 3) 2 := by
  have e1 : ((1 / 3 : Rat)).num = 1 := by decide +kernel
  have e2 : ((1 / 3 : Rat)).den = 3 := by decide +kernel
  have e3 : ((2 / 3 : Rat)).num = 2 := by decide +kernel
  have e4 : ((2 / 3 : Rat)).den = 3 := by decide +kernel
  unfold fr Fq Sz
  rw [e1, e2, e3, e4]
  exact ⟨rfl, rfl, by decide, by decide⟩
theorem r_way (size : Int) (h : Hs) (i : Nat) (B : List D) (t : Nat) (nm : Bool) (as : List Int) (c : Int) (a b : List Rat) (hi : i < h.length) (hB : Bx B t) (ht : t + 10 < 2 ^ 30) (hs : Sd as c 8) (ha : Ok a 6) (hb : Ok b 6) (hal : a.length = as.length) (hab : a.length = b.length) (m : Nat) (hm : 12 ≤ m) :
    ∃ B', evF FT gl m f__law_way_right [.cel i, .int size, P as c, pt a, pt b, .bl nm] (h.set i B) = some (.bl true, h.set i B') ∧ Bx B' (t + 4) := by
  obtain ⟨n, rfl, hn⟩ := lv hm
  obtain ⟨f, B1, e1, uf, qf, b1⟩ := r_lshare h i B t hi hB (by omega) n (by omega)
  obtain ⟨s, B2, e2, us, qs, b2⟩ := r_lshare h i B1 (t + 2) hi b1 (by omega) n (by omega)
  refine ⟨B2, ?_, b2⟩
  have hl := hs.len
  have hl' : a.length = 2 ∨ a.length = 3 := by omega
  have p0 := r_excess as c a hs ha hal (by decide) (by decide) (by decide) (h.set i B) n (by omega)
  have q0 := r_excess as c b hs hb (by omega) (by decide) (by decide) (by decide) (h.set i B) n (by omega)
  have p1 := r_lover as c a hs ha hal (by decide) (by decide) (by decide) (h.set i B) n (by omega)
  have q1 := r_lover as c b hs hb (by omega) (by decide) (by decide) (by decide) (h.set i B) n (by omega)
  have sm1 := r_same (h.set i B) 2 (.lst [fr (overQ as c a), fr (overQ as c b)]) (same_two (same_fr _ 0) (same_fr _ 0)) n (by omega)
  have l2 : (0 + 1 + 1 : Nat) ≤ 100000 := by decide
  have l3 : (0 + 1 + 1 + 1 : Nat) ≤ 100000 := by decide
  have l4 : (0 + 1 + 1 + 1 + 1 : Nat) ≤ 100000 := by decide
  obtain ⟨nm', w7, w8, w9, w10, hloop⟩ := l_way n hn i size as c a b (h.set i B2) ([f, s, 0, 1].map fr) hs ha hb hal hab [f, s, 0, 1] nm none none none none (by
    intro x hx
    simp at hx
    rcases hx with rfl | rfl | rfl | rfl
    · exact ⟨uf, qf⟩
    · exact ⟨us, qs⟩
    · exact ⟨by decide +kernel, (sz01 (by decide)).1⟩
    · exact ⟨by decide +kernel, (sz01 (by decide)).2⟩)
  have over_at := fun x => over_mix x as c a b hal hab
  have pq := p0.2
  have qq := q0.2
  have sp := r_lsign (overQ as c a) (h.set i B2) n (by omega)
  have sq := r_lsign (overQ as c b) (h.set i B2) n (by omega)
  have mulok : mulOk (sgn (overQ as c a)) (sgn (overQ as c b)) = true := by
    refine Sz.ok (i := 2) (j := 2) ?_ ?_ (by decide) (by decide) (by decide)
    · unfold Sz; rcases sgn_cases (overQ as c a) with ⟨_, e⟩ | ⟨_, e⟩ | ⟨_, e⟩ <;> rw [e] <;> decide
    · unfold Sz; rcases sgn_cases (overQ as c b) with ⟨_, e⟩ | ⟨_, e⟩ | ⟨_, e⟩ <;> rw [e] <;> decide
  rw [run_g (F := ⟨6, 15, b__law_way_right, false⟩) [some (.cel i), some (.int size), some (P as c), some (pt a), some (pt b), some (.bl nm), none, none, none, none, none, none, none, none, none] rfl rfl rfl rfl, b__law_way_right,
    ss_nx (σ' := [some (.cel i), some (.int size), some (P as c), some (pt a), some (pt b), some (.bl nm), some (.lst [fr (overQ as c a), fr (overQ as c b)]), none, none, none, none, none, none, none, none]) (h' := h.set i B),
    ss_nx (σ' := [some (.cel i), some (.int size), some (P as c), some (pt a), some (pt b), some (.bl nm), some (.lst [fr (overQ as c a), fr (overQ as c b)]), none, none, none, none, none, none, none, none]) (h' := h.set i B),
    ss_nx (σ' := [some (.cel i), some (.int size), some (P as c), some (pt a), some (pt b), some (.bl nm'), some (.lst [fr (overQ as c a), fr (overQ as c b)]), w7, w8, w9, w10, none, none, none, none]) (h' := h.set i B2)]
  · generalize hp : overQ as c a = p at *
    generalize hq : overQ as c b = q at *
    by_cases hsg : 0 ≤ sgn p * sgn q
    · rw [ss_rt (h' := h.set i B2) (d := .bl true)]
      · exact fin_rt
      · simp only [e_var, e_non, e_bl, e_int, e_str, e_ty, e_glob, e_op, e_neg, e_cmp, e_chn, e_bop, e_not, e_ife, e_tup, e_lst, e_ix, e_sl, e_cl, e_ck, e_bt, e_mt, eb_one, eb_cons, es_nil, es_cons, eo_none, eo_some, ec_none, ec_some, et_name, et_tup, et_tupl, et_sub, ets_nil, ets_cons, ei_seq, ei_rng1, ei_rng2, ei_zip, s_asg_, s_par_, s_ex_, s_ret_, s_retN_, s_ite_, ss_nil_, fin_rt, fin_nx, wipeD, lim, isK, testT, isNon, isAny, o_add, o_sub, o_mul, o_fdiv, o_mod, o_pow, o_addt, o_addl, o_mult, k_eq, k_ne, k_lt, k_le, k_gt, k_ge, k_isb, k_isn, k_isnn, k_eqb, k_eql, k_nel, k_in, k_nin, g_tup_, g_lst_, g_frz_, g_cel_, sl_tup_, sl_lst_, sl_frz_, sq_tup, sq_lst, zp_tup, n_lent, n_lenl, n_lenf, n_abs, n_int, n_intb, n_max, n_min, n_sum, n_tupl, n_tupt, n_tupc, n_all, n_any, n_gcd, n_isi, n_isit, y_int, y_bl, y_tup, y_lst, y_non, q_app, List.getElem?_cons_zero, List.getElem?_cons_succ, List.getElem?_nil, List.set_cons_zero, List.set_cons_succ, Option.bind_some, Option.map_some, Option.bind_none, List.length_cons, List.length_nil, Bool.false_eq_true, if_true, if_false, List.nil_append, List.cons_append, at_0, at_1, sp, sq, mulok, hsg, decide_true, ss_cons_]
    · -- on both sides: where they meet
      have hne : (0 < p ∧ q < 0) ∨ (p < 0 ∧ 0 < q) := by
        rcases sgn_cases p with ⟨hp, e⟩ | ⟨hp, e⟩ | ⟨hp, e⟩ <;> rcases sgn_cases q with ⟨hq, e'⟩ | ⟨hq, e'⟩ | ⟨hq, e'⟩ <;> rw [e, e'] at hsg <;> first | exact .inl ⟨hp, hq⟩ | exact .inr ⟨hp, hq⟩ | exact absurd (by decide) hsg
      have hw0 : p - q ≠ 0 := by rcases hne with ⟨h1, h2⟩ | ⟨h1, h2⟩ <;> grind
      have hwn : (p - q).num ≠ 0 := fun e => hw0 (Rat.num_eq_zero.mp e)
      have x1 := r_less p q pq qq (by decide) (by decide) (by decide) (h.set i B2) n (by omega)
      have xi := x1.2.inv hwn
      have x2 := r_times p (p - q)⁻¹ pq xi (by decide) (by decide) (by decide) (h.set i B2) n (by omega)
      have hmet : p * (p - q)⁻¹ * (p - q) = p := by rw [Rat.mul_assoc, Rat.inv_mul_cancel _ hw0, Rat.mul_one]
      have hx2 := x2.2
      have hx2' := x2.1
      generalize hm' : p * (p - q)⁻¹ = x at *
      have k1 : 0 ≤ x := by
        rcases hne with ⟨h1, h2⟩ | ⟨h1, h2⟩
        · by_cases z : 0 ≤ x
          · exact z
          · have := Rat.mul_nonneg (show 0 ≤ -x by grind) (show 0 ≤ p - q by grind)
            grind
        · by_cases z : 0 ≤ x
          · exact z
          · have := Rat.mul_nonneg (show 0 ≤ -x by grind) (show 0 ≤ q - p by grind)
            grind
      have k2 : x ≤ 1 := by
        rcases hne with ⟨h1, h2⟩ | ⟨h1, h2⟩
        · by_cases z : x ≤ 1
          · exact z
          · have := Rat.mul_nonneg (show 0 ≤ x - 1 by grind) (show 0 ≤ p - q by grind)
            grind
        · by_cases z : x ≤ 1
          · exact z
          · have := Rat.mul_nonneg (show 0 ≤ x - 1 by grind) (show 0 ≤ q - p by grind)
            grind
      obtain ⟨t3, t23, z3, z23⟩ := third_fr
      have x3 := r_times x (2 / 3) hx2 z23 (by decide) (by decide) (by decide) (h.set i B2) n (by omega)
      have x4 := r_less 1 x (sz01 (k := 1) (by decide)).2 hx2 (by decide) (by decide) (by decide) (h.set i B2) n (by omega)
      have x5 := r_times (1 / 3) (1 - x) z3 x4.2 (by decide) (by decide) (by decide) (h.set i B2) n (by omega)
      have x6 := r_plus x (1 / 3 * (1 - x)) hx2 x5.2 (by decide) (by decide) (by decide) (h.set i B2) n (by omega)
      have x3' := x3.1; have x4' := x4.1; have x5' := x5.1
      rw [t23] at x3'
      rw [fr01.2] at x4'
      rw [t3] at x5'
      have each : ∀ y : Rat, 0 ≤ y → y ≤ 1 → Fq y 200 → ∃ d, evF FT gl n f_between [pt a, pt b, fr y] (h.set i B2) = some (d, h.set i B2) ∧ evF FT gl n f_standing [P as c, d] (h.set i B2) = some (.int (sgn (p + y * (q - p))), h.set i B2) := by
        intro y y0 y1 yq
        have k1 := r_between a b y (ha.mono (l := 200) (by decide)) (hb.mono (by decide)) yq y0 y1 hl' hab (by decide) (by decide) (h.set i B2) n (by omega)
        have k2 := r_standing as c (mixQ y a b) hs k1.2 (by rw [mix_len hab]; omega) (by decide) (by decide) (by decide) (h.set i B2) n (by omega)
        rw [over_at] at k2
        exact ⟨_, k1.1, k2⟩
      have v1 : p + x * (2 / 3) * (q - p) = p * (1 / 3) := by grind
      have v2 : p + x * (q - p) = 0 := by grind
      have v3 : p + (x + 1 / 3 * (1 - x)) * (q - p) = q * (1 / 3) := by grind
      have c1 := each (x * (2 / 3)) (by grind) (by grind) (x3.2.mono (by decide))
      have c2 := each x k1 k2 (hx2.mono (by decide))
      have c3 := each (x + 1 / 3 * (1 - x)) (by grind) (by grind) (x6.2.mono (by decide))
      rw [v1, sgn_third] at c1
      rw [v2, sgn_zero] at c2
      rw [v3, sgn_third] at c3
      have sm := r_same (h.set i B2) 1 (.lst [.int (sgn p), .int 0, .int (sgn q)]) (by
        refine ⟨by simp [lim], ?_⟩
        intro d hd
        simp at hd
        rcases hd with rfl | rfl | rfl <;> exact same_int _ 0) n (by omega)
      obtain ⟨d1, c1, c1'⟩ := c1
      obtain ⟨d2, c2, c2'⟩ := c2
      obtain ⟨d3, c3, c3'⟩ := c3
      have hn0 : ∀ s0 s5 s11 : Option D, evE (evF FT gl n) gl (.cp false (.cl f_standing (.cons (.var 2) (.cons (.cl f_between (.cons (.var 3) (.cons (.var 4) (.cons (.var 7) .nil)))) .nil))) (.name 7) (.seq (.tup (.cons (.var 13) (.cons (.var 12) (.cons (.var 14) .nil))))) .none [7]) [some (.cel i), s0, some (P as c), some (pt a), some (pt b), s5, some (.lst [fr p, fr q]), w7, w8, w9, w10, s11, some (fr x), some (fr (x * (2 / 3))), some (fr (x + 1 / 3 * (1 - x)))] (h.set i B2) = some (.lst [.int (sgn p), .int 0, .int (sgn q)], h.set i B2) := by
        intro s0 s5 s11
        rw [e_cp]
        have hi' : evIt (evF FT gl n) gl (.seq (.tup (.cons (.var 13) (.cons (.var 12) (.cons (.var 14) .nil))))) [some (.cel i), s0, some (P as c), some (pt a), some (pt b), s5, some (.lst [fr p, fr q]), w7, w8, w9, w10, s11, some (fr x), some (fr (x * (2 / 3))), some (fr (x + 1 / 3 * (1 - x)))] (h.set i B2) = some ⟨[fr (x * (2 / 3)), fr x, fr (x + 1 / 3 * (1 - x))], none, h.set i B2⟩ := by
          simp only [e_var, e_non, e_bl, e_int, e_str, e_ty, e_glob, e_op, e_neg, e_cmp, e_chn, e_bop, e_not, e_ife, e_tup, e_lst, e_ix, e_sl, e_cl, e_ck, e_bt, e_mt, eb_one, eb_cons, es_nil, es_cons, eo_none, eo_some, ec_none, ec_some, et_name, et_tup, et_tupl, et_sub, ets_nil, ets_cons, ei_seq, ei_rng1, ei_rng2, ei_zip, s_asg_, s_par_, s_ex_, s_ret_, s_retN_, s_ite_, ss_nil_, fin_rt, fin_nx, wipeD, lim, isK, testT, isNon, isAny, o_add, o_sub, o_mul, o_fdiv, o_mod, o_pow, o_addt, o_addl, o_mult, k_eq, k_ne, k_lt, k_le, k_gt, k_ge, k_isb, k_isn, k_isnn, k_eqb, k_eql, k_nel, k_in, k_nin, g_tup_, g_lst_, g_frz_, g_cel_, sl_tup_, sl_lst_, sl_frz_, sq_tup, sq_lst, zp_tup, n_lent, n_lenl, n_lenf, n_abs, n_int, n_intb, n_max, n_min, n_sum, n_tupl, n_tupt, n_tupc, n_all, n_any, n_gcd, n_isi, n_isit, y_int, y_bl, y_tup, y_lst, y_non, q_app, List.getElem?_cons_zero, List.getElem?_cons_succ, List.getElem?_nil, List.set_cons_zero, List.set_cons_succ, Option.bind_some, Option.map_some, Option.bind_none, List.length_cons, List.length_nil, Bool.false_eq_true, if_true, if_false, List.nil_append, List.cons_append, l3]
        rw [hi', Option.bind_some]
        dsimp only
        rw [lc_yes et_name ec_none (h3 := h.set i B2) (d := .int (sgn p)) (h4 := h.set i B2) (ds := [.int 0, .int (sgn q)])]
        · simp only [e_var, e_non, e_bl, e_int, e_str, e_ty, e_glob, e_op, e_neg, e_cmp, e_chn, e_bop, e_not, e_ife, e_tup, e_lst, e_ix, e_sl, e_cl, e_ck, e_bt, e_mt, eb_one, eb_cons, es_nil, es_cons, eo_none, eo_some, ec_none, ec_some, et_name, et_tup, et_tupl, et_sub, ets_nil, ets_cons, ei_seq, ei_rng1, ei_rng2, ei_zip, s_asg_, s_par_, s_ex_, s_ret_, s_retN_, s_ite_, ss_nil_, fin_rt, fin_nx, wipeD, lim, isK, testT, isNon, isAny, o_add, o_sub, o_mul, o_fdiv, o_mod, o_pow, o_addt, o_addl, o_mult, k_eq, k_ne, k_lt, k_le, k_gt, k_ge, k_isb, k_isn, k_isnn, k_eqb, k_eql, k_nel, k_in, k_nin, g_tup_, g_lst_, g_frz_, g_cel_, sl_tup_, sl_lst_, sl_frz_, sq_tup, sq_lst, zp_tup, n_lent, n_lenl, n_lenf, n_abs, n_int, n_intb, n_max, n_min, n_sum, n_tupl, n_tupt, n_tupc, n_all, n_any, n_gcd, n_isi, n_isit, y_int, y_bl, y_tup, y_lst, y_non, q_app, List.getElem?_cons_zero, List.getElem?_cons_succ, List.getElem?_nil, List.set_cons_zero, List.set_cons_succ, Option.bind_some, Option.map_some, Option.bind_none, List.length_cons, List.length_nil, Bool.false_eq_true, if_true, if_false, List.nil_append, List.cons_append]
        · simp only [e_var, e_non, e_bl, e_int, e_str, e_ty, e_glob, e_op, e_neg, e_cmp, e_chn, e_bop, e_not, e_ife, e_tup, e_lst, e_ix, e_sl, e_cl, e_ck, e_bt, e_mt, eb_one, eb_cons, es_nil, es_cons, eo_none, eo_some, ec_none, ec_some, et_name, et_tup, et_tupl, et_sub, ets_nil, ets_cons, ei_seq, ei_rng1, ei_rng2, ei_zip, s_asg_, s_par_, s_ex_, s_ret_, s_retN_, s_ite_, ss_nil_, fin_rt, fin_nx, wipeD, lim, isK, testT, isNon, isAny, o_add, o_sub, o_mul, o_fdiv, o_mod, o_pow, o_addt, o_addl, o_mult, k_eq, k_ne, k_lt, k_le, k_gt, k_ge, k_isb, k_isn, k_isnn, k_eqb, k_eql, k_nel, k_in, k_nin, g_tup_, g_lst_, g_frz_, g_cel_, sl_tup_, sl_lst_, sl_frz_, sq_tup, sq_lst, zp_tup, n_lent, n_lenl, n_lenf, n_abs, n_int, n_intb, n_max, n_min, n_sum, n_tupl, n_tupt, n_tupc, n_all, n_any, n_gcd, n_isi, n_isit, y_int, y_bl, y_tup, y_lst, y_non, q_app, List.getElem?_cons_zero, List.getElem?_cons_succ, List.getElem?_nil, List.set_cons_zero, List.set_cons_succ, Option.bind_some, Option.map_some, Option.bind_none, List.length_cons, List.length_nil, Bool.false_eq_true, if_true, if_false, List.nil_append, List.cons_append, c1, c1']
        · refine lc_yes et_name ec_none (h3 := h.set i B2) ?_ (lc_yes et_name ec_none (h3 := h.set i B2) ?_ lc_nil (by simp [lim])) (by simp [lim])
          · simp only [e_var, e_non, e_bl, e_int, e_str, e_ty, e_glob, e_op, e_neg, e_cmp, e_chn, e_bop, e_not, e_ife, e_tup, e_lst, e_ix, e_sl, e_cl, e_ck, e_bt, e_mt, eb_one, eb_cons, es_nil, es_cons, eo_none, eo_some, ec_none, ec_some, et_name, et_tup, et_tupl, et_sub, ets_nil, ets_cons, ei_seq, ei_rng1, ei_rng2, ei_zip, s_asg_, s_par_, s_ex_, s_ret_, s_retN_, s_ite_, ss_nil_, fin_rt, fin_nx, wipeD, lim, isK, testT, isNon, isAny, o_add, o_sub, o_mul, o_fdiv, o_mod, o_pow, o_addt, o_addl, o_mult, k_eq, k_ne, k_lt, k_le, k_gt, k_ge, k_isb, k_isn, k_isnn, k_eqb, k_eql, k_nel, k_in, k_nin, g_tup_, g_lst_, g_frz_, g_cel_, sl_tup_, sl_lst_, sl_frz_, sq_tup, sq_lst, zp_tup, n_lent, n_lenl, n_lenf, n_abs, n_int, n_intb, n_max, n_min, n_sum, n_tupl, n_tupt, n_tupc, n_all, n_any, n_gcd, n_isi, n_isit, y_int, y_bl, y_tup, y_lst, y_non, q_app, List.getElem?_cons_zero, List.getElem?_cons_succ, List.getElem?_nil, List.set_cons_zero, List.set_cons_succ, Option.bind_some, Option.map_some, Option.bind_none, List.length_cons, List.length_nil, Bool.false_eq_true, if_true, if_false, List.nil_append, List.cons_append, c2, c2']
          · simp only [e_var, e_non, e_bl, e_int, e_str, e_ty, e_glob, e_op, e_neg, e_cmp, e_chn, e_bop, e_not, e_ife, e_tup, e_lst, e_ix, e_sl, e_cl, e_ck, e_bt, e_mt, eb_one, eb_cons, es_nil, es_cons, eo_none, eo_some, ec_none, ec_some, et_name, et_tup, et_tupl, et_sub, ets_nil, ets_cons, ei_seq, ei_rng1, ei_rng2, ei_zip, s_asg_, s_par_, s_ex_, s_ret_, s_retN_, s_ite_, ss_nil_, fin_rt, fin_nx, wipeD, lim, isK, testT, isNon, isAny, o_add, o_sub, o_mul, o_fdiv, o_mod, o_pow, o_addt, o_addl, o_mult, k_eq, k_ne, k_lt, k_le, k_gt, k_ge, k_isb, k_isn, k_isnn, k_eqb, k_eql, k_nel, k_in, k_nin, g_tup_, g_lst_, g_frz_, g_cel_, sl_tup_, sl_lst_, sl_frz_, sq_tup, sq_lst, zp_tup, n_lent, n_lenl, n_lenf, n_abs, n_int, n_intb, n_max, n_min, n_sum, n_tupl, n_tupt, n_tupc, n_all, n_any, n_gcd, n_isi, n_isit, y_int, y_bl, y_tup, y_lst, y_non, q_app, List.getElem?_cons_zero, List.getElem?_cons_succ, List.getElem?_nil, List.set_cons_zero, List.set_cons_succ, Option.bind_some, Option.map_some, Option.bind_none, List.length_cons, List.length_nil, Bool.false_eq_true, if_true, if_false, List.nil_append, List.cons_append, c3, c3']
        · simp [lim]
      rw [ss_nx (σ' := [some (.cel i), some (.int size), some (P as c), some (pt a), some (pt b), some (.bl nm'), some (.lst [fr p, fr q]), w7, w8, w9, w10, none, none, none, none]) (h' := h.set i B2),
        ss_nx (σ' := [some (.cel i), some (.int size), some (P as c), some (pt a), some (pt b), some (.bl nm'), some (.lst [fr p, fr q]), w7, w8, w9, w10, some (fr (p - q)), none, none, none]) (h' := h.set i B2),
        ss_nx (σ' := [some (.cel i), some (.int size), some (P as c), some (pt a), some (pt b), some (.bl nm'), some (.lst [fr p, fr q]), w7, w8, w9, w10, some (fr (p - q)), some (fr x), none, none]) (h' := h.set i B2),
        ss_nx (σ' := [some (.cel i), some (.int size), some (P as c), some (pt a), some (pt b), some (.bl nm'), some (.lst [fr p, fr q]), w7, w8, w9, w10, some (fr (p - q)), some (fr x), some (fr (x * (2 / 3))), some (fr (x + 1 / 3 * (1 - x)))]) (h' := h.set i B2),
        ss_nx (σ' := [some (.cel i), some (.int size), some (P as c), some (pt a), some (pt b), some (.bl nm'), some (.lst [fr p, fr q]), w7, w8, w9, some (.lst [.int (sgn p), .int 0, .int (sgn q)]), some (fr (p - q)), some (fr x), some (fr (x * (2 / 3))), some (fr (x + 1 / 3 * (1 - x)))]) (h' := h.set i B2),
        ss_rt (h' := h.set i B2) (d := .bl true)]
      · exact fin_rt
      · simp only [e_var, e_non, e_bl, e_int, e_str, e_ty, e_glob, e_op, e_neg, e_cmp, e_chn, e_bop, e_not, e_ife, e_tup, e_lst, e_ix, e_sl, e_cl, e_ck, e_bt, e_mt, eb_one, eb_cons, es_nil, es_cons, eo_none, eo_some, ec_none, ec_some, et_name, et_tup, et_tupl, et_sub, ets_nil, ets_cons, ei_seq, ei_rng1, ei_rng2, ei_zip, s_asg_, s_par_, s_ex_, s_ret_, s_retN_, s_ite_, ss_nil_, fin_rt, fin_nx, wipeD, lim, isK, testT, isNon, isAny, o_add, o_sub, o_mul, o_fdiv, o_mod, o_pow, o_addt, o_addl, o_mult, k_eq, k_ne, k_lt, k_le, k_gt, k_ge, k_isb, k_isn, k_isnn, k_eqb, k_eql, k_nel, k_in, k_nin, g_tup_, g_lst_, g_frz_, g_cel_, sl_tup_, sl_lst_, sl_frz_, sq_tup, sq_lst, zp_tup, n_lent, n_lenl, n_lenf, n_abs, n_int, n_intb, n_max, n_min, n_sum, n_tupl, n_tupt, n_tupc, n_all, n_any, n_gcd, n_isi, n_isit, y_int, y_bl, y_tup, y_lst, y_non, q_app, List.getElem?_cons_zero, List.getElem?_cons_succ, List.getElem?_nil, List.set_cons_zero, List.set_cons_succ, Option.bind_some, Option.map_some, Option.bind_none, List.length_cons, List.length_nil, Bool.false_eq_true, if_true, if_false, List.nil_append, List.cons_append, at_0, at_1, sp, sq, l3, sm]
      · rw [s_asg_, hn0]
        simp only [e_var, e_non, e_bl, e_int, e_str, e_ty, e_glob, e_op, e_neg, e_cmp, e_chn, e_bop, e_not, e_ife, e_tup, e_lst, e_ix, e_sl, e_cl, e_ck, e_bt, e_mt, eb_one, eb_cons, es_nil, es_cons, eo_none, eo_some, ec_none, ec_some, et_name, et_tup, et_tupl, et_sub, ets_nil, ets_cons, ei_seq, ei_rng1, ei_rng2, ei_zip, s_asg_, s_par_, s_ex_, s_ret_, s_retN_, s_ite_, ss_nil_, fin_rt, fin_nx, wipeD, lim, isK, testT, isNon, isAny, o_add, o_sub, o_mul, o_fdiv, o_mod, o_pow, o_addt, o_addl, o_mult, k_eq, k_ne, k_lt, k_le, k_gt, k_ge, k_isb, k_isn, k_isnn, k_eqb, k_eql, k_nel, k_in, k_nin, g_tup_, g_lst_, g_frz_, g_cel_, sl_tup_, sl_lst_, sl_frz_, sq_tup, sq_lst, zp_tup, n_lent, n_lenl, n_lenf, n_abs, n_int, n_intb, n_max, n_min, n_sum, n_tupl, n_tupt, n_tupc, n_all, n_any, n_gcd, n_isi, n_isit, y_int, y_bl, y_tup, y_lst, y_non, q_app, List.getElem?_cons_zero, List.getElem?_cons_succ, List.getElem?_nil, List.set_cons_zero, List.set_cons_succ, Option.bind_some, Option.map_some, Option.bind_none, List.length_cons, List.length_nil, Bool.false_eq_true, if_true, if_false, List.nil_append, List.cons_append]
      · simp only [e_var, e_non, e_bl, e_int, e_str, e_ty, e_glob, e_op, e_neg, e_cmp, e_chn, e_bop, e_not, e_ife, e_tup, e_lst, e_ix, e_sl, e_cl, e_ck, e_bt, e_mt, eb_one, eb_cons, es_nil, es_cons, eo_none, eo_some, ec_none, ec_some, et_name, et_tup, et_tupl, et_sub, ets_nil, ets_cons, ei_seq, ei_rng1, ei_rng2, ei_zip, s_asg_, s_par_, s_ex_, s_ret_, s_retN_, s_ite_, ss_nil_, fin_rt, fin_nx, wipeD, lim, isK, testT, isNon, isAny, o_add, o_sub, o_mul, o_fdiv, o_mod, o_pow, o_addt, o_addl, o_mult, k_eq, k_ne, k_lt, k_le, k_gt, k_ge, k_isb, k_isn, k_isnn, k_eqb, k_eql, k_nel, k_in, k_nin, g_tup_, g_lst_, g_frz_, g_cel_, sl_tup_, sl_lst_, sl_frz_, sq_tup, sq_lst, zp_tup, n_lent, n_lenl, n_lenf, n_abs, n_int, n_intb, n_max, n_min, n_sum, n_tupl, n_tupt, n_tupc, n_all, n_any, n_gcd, n_isi, n_isit, y_int, y_bl, y_tup, y_lst, y_non, q_app, List.getElem?_cons_zero, List.getElem?_cons_succ, List.getElem?_nil, List.set_cons_zero, List.set_cons_succ, Option.bind_some, Option.map_some, Option.bind_none, List.length_cons, List.length_nil, Bool.false_eq_true, if_true, if_false, List.nil_append, List.cons_append, x3', x4', x5', x6.1, l2]
      · have g0 : getI (h.set i B2) (fr (p - q)) (.int 0) = some (.int (p - q).num) := at_0 _ _
        have g1 : getI (h.set i B2) (fr (p - q)) (.int 1) = some (.int (p - q).den) := at_1 _ _ _
        by_cases hpos : 0 < (p - q).num
        · have e := inv_pos hpos
          simp only [e_var, e_non, e_bl, e_int, e_str, e_ty, e_glob, e_op, e_neg, e_cmp, e_chn, e_bop, e_not, e_ife, e_tup, e_lst, e_ix, e_sl, e_cl, e_ck, e_bt, e_mt, eb_one, eb_cons, es_nil, es_cons, eo_none, eo_some, ec_none, ec_some, et_name, et_tup, et_tupl, et_sub, ets_nil, ets_cons, ei_seq, ei_rng1, ei_rng2, ei_zip, s_asg_, s_par_, s_ex_, s_ret_, s_retN_, s_ite_, ss_nil_, fin_rt, fin_nx, wipeD, lim, isK, testT, isNon, isAny, o_add, o_sub, o_mul, o_fdiv, o_mod, o_pow, o_addt, o_addl, o_mult, k_eq, k_ne, k_lt, k_le, k_gt, k_ge, k_isb, k_isn, k_isnn, k_eqb, k_eql, k_nel, k_in, k_nin, g_tup_, g_lst_, g_frz_, g_cel_, sl_tup_, sl_lst_, sl_frz_, sq_tup, sq_lst, zp_tup, n_lent, n_lenl, n_lenf, n_abs, n_int, n_intb, n_max, n_min, n_sum, n_tupl, n_tupt, n_tupc, n_all, n_any, n_gcd, n_isi, n_isit, y_int, y_bl, y_tup, y_lst, y_non, q_app, List.getElem?_cons_zero, List.getElem?_cons_succ, List.getElem?_nil, List.set_cons_zero, List.set_cons_succ, Option.bind_some, Option.map_some, Option.bind_none, List.length_cons, List.length_nil, Bool.false_eq_true, if_true, if_false, List.nil_append, List.cons_append, at_0, g0, g1, hpos, decide_true, l2, ← e, hx2']
        · have e := inv_neg (q := p - q) (by omega)
          simp only [e_var, e_non, e_bl, e_int, e_str, e_ty, e_glob, e_op, e_neg, e_cmp, e_chn, e_bop, e_not, e_ife, e_tup, e_lst, e_ix, e_sl, e_cl, e_ck, e_bt, e_mt, eb_one, eb_cons, es_nil, es_cons, eo_none, eo_some, ec_none, ec_some, et_name, et_tup, et_tupl, et_sub, ets_nil, ets_cons, ei_seq, ei_rng1, ei_rng2, ei_zip, s_asg_, s_par_, s_ex_, s_ret_, s_retN_, s_ite_, ss_nil_, fin_rt, fin_nx, wipeD, lim, isK, testT, isNon, isAny, o_add, o_sub, o_mul, o_fdiv, o_mod, o_pow, o_addt, o_addl, o_mult, k_eq, k_ne, k_lt, k_le, k_gt, k_ge, k_isb, k_isn, k_isnn, k_eqb, k_eql, k_nel, k_in, k_nin, g_tup_, g_lst_, g_frz_, g_cel_, sl_tup_, sl_lst_, sl_frz_, sq_tup, sq_lst, zp_tup, n_lent, n_lenl, n_lenf, n_abs, n_int, n_intb, n_max, n_min, n_sum, n_tupl, n_tupt, n_tupc, n_all, n_any, n_gcd, n_isi, n_isit, y_int, y_bl, y_tup, y_lst, y_non, q_app, List.getElem?_cons_zero, List.getElem?_cons_succ, List.getElem?_nil, List.set_cons_zero, List.set_cons_succ, Option.bind_some, Option.map_some, Option.bind_none, List.length_cons, List.length_nil, Bool.false_eq_true, if_true, if_false, List.nil_append, List.cons_append, at_0, g0, g1, hpos, decide_false, l2, ← e, hx2']
      · simp only [e_var, e_non, e_bl, e_int, e_str, e_ty, e_glob, e_op, e_neg, e_cmp, e_chn, e_bop, e_not, e_ife, e_tup, e_lst, e_ix, e_sl, e_cl, e_ck, e_bt, e_mt, eb_one, eb_cons, es_nil, es_cons, eo_none, eo_some, ec_none, ec_some, et_name, et_tup, et_tupl, et_sub, ets_nil, ets_cons, ei_seq, ei_rng1, ei_rng2, ei_zip, s_asg_, s_par_, s_ex_, s_ret_, s_retN_, s_ite_, ss_nil_, fin_rt, fin_nx, wipeD, lim, isK, testT, isNon, isAny, o_add, o_sub, o_mul, o_fdiv, o_mod, o_pow, o_addt, o_addl, o_mult, k_eq, k_ne, k_lt, k_le, k_gt, k_ge, k_isb, k_isn, k_isnn, k_eqb, k_eql, k_nel, k_in, k_nin, g_tup_, g_lst_, g_frz_, g_cel_, sl_tup_, sl_lst_, sl_frz_, sq_tup, sq_lst, zp_tup, n_lent, n_lenl, n_lenf, n_abs, n_int, n_intb, n_max, n_min, n_sum, n_tupl, n_tupt, n_tupc, n_all, n_any, n_gcd, n_isi, n_isit, y_int, y_bl, y_tup, y_lst, y_non, q_app, List.getElem?_cons_zero, List.getElem?_cons_succ, List.getElem?_nil, List.set_cons_zero, List.set_cons_succ, Option.bind_some, Option.map_some, Option.bind_none, List.length_cons, List.length_nil, Bool.false_eq_true, if_true, if_false, List.nil_append, List.cons_append, at_0, at_1, x1.1]
      · simp only [e_var, e_non, e_bl, e_int, e_str, e_ty, e_glob, e_op, e_neg, e_cmp, e_chn, e_bop, e_not, e_ife, e_tup, e_lst, e_ix, e_sl, e_cl, e_ck, e_bt, e_mt, eb_one, eb_cons, es_nil, es_cons, eo_none, eo_some, ec_none, ec_some, et_name, et_tup, et_tupl, et_sub, ets_nil, ets_cons, ei_seq, ei_rng1, ei_rng2, ei_zip, s_asg_, s_par_, s_ex_, s_ret_, s_retN_, s_ite_, ss_nil_, fin_rt, fin_nx, wipeD, lim, isK, testT, isNon, isAny, o_add, o_sub, o_mul, o_fdiv, o_mod, o_pow, o_addt, o_addl, o_mult, k_eq, k_ne, k_lt, k_le, k_gt, k_ge, k_isb, k_isn, k_isnn, k_eqb, k_eql, k_nel, k_in, k_nin, g_tup_, g_lst_, g_frz_, g_cel_, sl_tup_, sl_lst_, sl_frz_, sq_tup, sq_lst, zp_tup, n_lent, n_lenl, n_lenf, n_abs, n_int, n_intb, n_max, n_min, n_sum, n_tupl, n_tupt, n_tupc, n_all, n_any, n_gcd, n_isi, n_isit, y_int, y_bl, y_tup, y_lst, y_non, q_app, List.getElem?_cons_zero, List.getElem?_cons_succ, List.getElem?_nil, List.set_cons_zero, List.set_cons_succ, Option.bind_some, Option.map_some, Option.bind_none, List.length_cons, List.length_nil, Bool.false_eq_true, if_true, if_false, List.nil_append, List.cons_append, at_0, at_1, sp, sq, mulok, hsg, decide_false]
  · have : evIt (evF FT gl n) gl (.seq (.lst false (.cons (.cl f__law_share (.cons (.var 0) .nil)) (.cons (.cl f__law_share (.cons (.var 0) .nil)) (.cons (.tup (.cons (.int 0) (.cons (.int 1) .nil))) (.cons (.tup (.cons (.int 1) (.cons (.int 1) .nil))) .nil)))))) [some (.cel i), some (.int size), some (P as c), some (pt a), some (pt b), some (.bl nm), some (.lst [fr (overQ as c a), fr (overQ as c b)]), none, none, none, none, none, none, none, none] (h.set i B) = some ⟨[f, s, 0, 1].map fr, none, h.set i B2⟩ := by
      simp only [e_var, e_non, e_bl, e_int, e_str, e_ty, e_glob, e_op, e_neg, e_cmp, e_chn, e_bop, e_not, e_ife, e_tup, e_lst, e_ix, e_sl, e_cl, e_ck, e_bt, e_mt, eb_one, eb_cons, es_nil, es_cons, eo_none, eo_some, ec_none, ec_some, et_name, et_tup, et_tupl, et_sub, ets_nil, ets_cons, ei_seq, ei_rng1, ei_rng2, ei_zip, s_asg_, s_par_, s_ex_, s_ret_, s_retN_, s_ite_, ss_nil_, fin_rt, fin_nx, wipeD, lim, isK, testT, isNon, isAny, o_add, o_sub, o_mul, o_fdiv, o_mod, o_pow, o_addt, o_addl, o_mult, k_eq, k_ne, k_lt, k_le, k_gt, k_ge, k_isb, k_isn, k_isnn, k_eqb, k_eql, k_nel, k_in, k_nin, g_tup_, g_lst_, g_frz_, g_cel_, sl_tup_, sl_lst_, sl_frz_, sq_tup, sq_lst, zp_tup, n_lent, n_lenl, n_lenf, n_abs, n_int, n_intb, n_max, n_min, n_sum, n_tupl, n_tupt, n_tupc, n_all, n_any, n_gcd, n_isi, n_isit, y_int, y_bl, y_tup, y_lst, y_non, q_app, List.getElem?_cons_zero, List.getElem?_cons_succ, List.getElem?_nil, List.set_cons_zero, List.set_cons_succ, Option.bind_some, Option.map_some, Option.bind_none, List.length_cons, List.length_nil, Bool.false_eq_true, if_true, if_false, List.nil_append, List.cons_append, e1, e2, l2, l4]
      rfl
    rw [s_for_, this]
    exact hloop
  · simp only [e_var, e_non, e_bl, e_int, e_str, e_ty, e_glob, e_op, e_neg, e_cmp, e_chn, e_bop, e_not, e_ife, e_tup, e_lst, e_ix, e_sl, e_cl, e_ck, e_bt, e_mt, eb_one, eb_cons, es_nil, es_cons, eo_none, eo_some, ec_none, ec_some, et_name, et_tup, et_tupl, et_sub, ets_nil, ets_cons, ei_seq, ei_rng1, ei_rng2, ei_zip, s_asg_, s_par_, s_ex_, s_ret_, s_retN_, s_ite_, ss_nil_, fin_rt, fin_nx, wipeD, lim, isK, testT, isNon, isAny, o_add, o_sub, o_mul, o_fdiv, o_mod, o_pow, o_addt, o_addl, o_mult, k_eq, k_ne, k_lt, k_le, k_gt, k_ge, k_isb, k_isn, k_isnn, k_eqb, k_eql, k_nel, k_in, k_nin, g_tup_, g_lst_, g_frz_, g_cel_, sl_tup_, sl_lst_, sl_frz_, sq_tup, sq_lst, zp_tup, n_lent, n_lenl, n_lenf, n_abs, n_int, n_intb, n_max, n_min, n_sum, n_tupl, n_tupt, n_tupc, n_all, n_any, n_gcd, n_isi, n_isit, y_int, y_bl, y_tup, y_lst, y_non, q_app, List.getElem?_cons_zero, List.getElem?_cons_succ, List.getElem?_nil, List.set_cons_zero, List.set_cons_succ, Option.bind_some, Option.map_some, Option.bind_none, List.length_cons, List.length_nil, Bool.false_eq_true, if_true, if_false, List.nil_append, List.cons_append, p1.1, q1.1, sm1, l2, Bool.not_true]
  · simp only [e_var, e_non, e_bl, e_int, e_str, e_ty, e_glob, e_op, e_neg, e_cmp, e_chn, e_bop, e_not, e_ife, e_tup, e_lst, e_ix, e_sl, e_cl, e_ck, e_bt, e_mt, eb_one, eb_cons, es_nil, es_cons, eo_none, eo_some, ec_none, ec_some, et_name, et_tup, et_tupl, et_sub, ets_nil, ets_cons, ei_seq, ei_rng1, ei_rng2, ei_zip, s_asg_, s_par_, s_ex_, s_ret_, s_retN_, s_ite_, ss_nil_, fin_rt, fin_nx, wipeD, lim, isK, testT, isNon, isAny, o_add, o_sub, o_mul, o_fdiv, o_mod, o_pow, o_addt, o_addl, o_mult, k_eq, k_ne, k_lt, k_le, k_gt, k_ge, k_isb, k_isn, k_isnn, k_eqb, k_eql, k_nel, k_in, k_nin, g_tup_, g_lst_, g_frz_, g_cel_, sl_tup_, sl_lst_, sl_frz_, sq_tup, sq_lst, zp_tup, n_lent, n_lenl, n_lenf, n_abs, n_int, n_intb, n_max, n_min, n_sum, n_tupl, n_tupt, n_tupc, n_all, n_any, n_gcd, n_isi, n_isit, y_int, y_bl, y_tup, y_lst, y_non, q_app, List.getElem?_cons_zero, List.getElem?_cons_succ, List.getElem?_nil, List.set_cons_zero, List.set_cons_succ, Option.bind_some, Option.map_some, Option.bind_none, List.length_cons, List.length_nil, Bool.false_eq_true, if_true, if_false, List.nil_append, List.cons_append, pm10, p0.1, q0.1, l2]
end K03

set_option Elab.async false
set_option linter.all false
set_option maxRecDepth 100000
set_option maxHeartbeats 2000000
/-! k03: the law on pushes. -/
namespace K03
open PySem L2 Py
theorem fr_int (c : Int) : fr (c : Rat) = .tup [.int c, .int 1] := by simp [fr]
theorem fq_int {c : Int} {k : Nat} (h : Sz c k) (h0 : 0 < k) : Fq (c : Rat) k := by
  unfold Fq
  refine ⟨by simpa using h, ?_⟩
  have : Sz 1 1 := by unfold Sz; decide
  simpa using this.mono (j := k) h0
theorem over_add (as : List Int) (c : Int) (a b : List Rat) (h : a.length = as.length) (h' : a.length = b.length) : overQ as c (addQ a b) = overQ as c a + (overQ as c b + c) := by
  have key : ∀ (as : List Int) (a b : List Rat), a.length = as.length → a.length = b.length → (List.zipWith (fun (a : Int) (x : Rat) => (a : Rat) * x) as (addQ a b)).sum = (List.zipWith (fun (a : Int) (x : Rat) => (a : Rat) * x) as a).sum + (List.zipWith (fun (a : Int) (x : Rat) => (a : Rat) * x) as b).sum := by
    intro as
    induction as with
    | nil => intro a b h h'; simp; grind
    | cons k as ih =>
      intro a b h h'
      match a, b, h, h' with
      | x :: a, y :: b, h, h' =>
        have := ih a b (by simpa using h) (by simpa using h')
        simp only [addQ, List.zipWith_cons_cons, List.sum_cons] at this ⊢
        rw [this]
        grind
  unfold overQ
  rw [key as a b h h']
  grind
theorem over_str (q : Rat) (as : List Int) (c : Int) (a : List Rat) (h : a.length = as.length) : overQ as c (strQ q a) = q * (overQ as c a + c) - c := by
  have key : ∀ (as : List Int) (a : List Rat), a.length = as.length → (List.zipWith (fun (a : Int) (x : Rat) => (a : Rat) * x) as (strQ q a)).sum = q * (List.zipWith (fun (a : Int) (x : Rat) => (a : Rat) * x) as a).sum := by
    intro as
    induction as with
    | nil => intro a h; simp
    | cons k as ih =>
      intro a h
      match a, h with
      | x :: a, h =>
        have := ih a (by simpa using h)
        simp only [strQ, List.map_cons, List.zipWith_cons_cons, List.sum_cons] at this ⊢
        rw [this]
        grind
  unfold overQ
  rw [key as a h]
  grind
theorem add_len {a b : List Rat} (h : a.length = b.length) : (addQ a b).length = a.length := by simp [addQ, h]
theorem push_len {a b : List Rat} (h : a.length = b.length) : (pushQ a b).length = a.length := by simp [pushQ, h]
theorem str_len {q : Rat} {a : List Rat} : (strQ q a).length = a.length := by simp [strQ]
theorem pa {a b : List Rat} (h : a.length = b.length) : addQ a (pushQ a b) = b := by
  apply List.ext_getElem
  · simp [addQ, pushQ, h]
  · intro j h1 h2
    simp only [addQ, pushQ, strQ, List.getElem_zipWith, List.getElem_map]
    grind
theorem pb {a b : List Rat} (h : a.length = b.length) : addQ b (strQ (-1) (pushQ a b)) = a := by
  apply List.ext_getElem
  · simp [addQ, pushQ, strQ, h]
  · intro j h1 h2
    simp only [addQ, pushQ, strQ, List.getElem_zipWith, List.getElem_map]
    grind
theorem pc {a b : List Rat} (h : a.length = b.length) : addQ (addQ a b) (strQ (-1) b) = a := by
  apply List.ext_getElem
  · simp [addQ, pushQ, strQ, h]
  · intro j h1 h2
    simp only [addQ, pushQ, strQ, List.getElem_zipWith, List.getElem_map]
    grind
theorem pd {a b : List Rat} (h : a.length = b.length) : pushQ a (addQ a b) = b := by
  apply List.ext_getElem
  · simp [addQ, pushQ, strQ, h]
  · intro j h1 h2
    simp only [addQ, pushQ, strQ, List.getElem_zipWith, List.getElem_map]
    grind
theorem pe (a : List Rat) : pushQ a a = List.replicate a.length 0 := by
  apply List.ext_getElem
  · simp [pushQ]
  · intro j h1 h2
    simp only [addQ, pushQ, strQ, List.getElem_zipWith, List.getElem_map, List.getElem_replicate]
    grind
theorem pf {a b : List Rat} (h : a.length = b.length) : addQ a (strQ (1 / 2) (pushQ a b)) = mixQ (1 / 2) a b := by
  apply List.ext_getElem
  · simp [addQ, pushQ, strQ, mixQ, h]
  · intro j h1 h2
    simp only [addQ, pushQ, strQ, mixQ, List.getElem_zipWith, List.getElem_map]
    grind
theorem pg {a b : List Rat} (h : a.length = b.length) : mixQ (1 / 2) b a = mixQ (1 / 2) a b := by
  apply List.ext_getElem
  · simp [mixQ, h]
  · intro j h1 h2
    simp only [addQ, pushQ, strQ, mixQ, List.getElem_zipWith, List.getElem_map]
    grind
theorem ph {q : Rat} (h : q ≠ 0) (a : List Rat) : strQ q⁻¹ (strQ q a) = a := by
  apply List.ext_getElem
  · simp [strQ]
  · intro j h1 h2
    simp only [addQ, pushQ, strQ, mixQ, List.getElem_zipWith, List.getElem_map]
    grind
theorem zero_pt {k : Nat} (hk : k = 2 ∨ k = 3) : Is (P (List.replicate k 0) 1) (List.replicate k 0) 1 := by
  refine ⟨_, _, rfl, by decide, ?_, ?_, ?_, by unfold Sz; decide⟩
  · rcases hk with rfl | rfl <;> decide
  · rcases hk with rfl | rfl <;> decide +kernel
  · intro n hn
    rw [List.eq_of_mem_replicate hn]
    unfold Sz; decide
theorem neg1 : fr (-1) = .tup [.int (-1), .int 1] := rfl
theorem neg1_sz {k : Nat} (hk : 1 ≤ k) : Fq (-1) k := by
  have : Fq (-1) 1 := by unfold Fq Sz; decide
  exact this.mono hk
theorem same_frs (qs : List Rat) (hl : qs.length ≤ 10) (n : Nat) : SameOk (n + 2) (.tup (qs.map fr)) := by
  refine ⟨by simp [lim]; omega, ?_⟩
  intro d hd
  obtain ⟨q, _, rfl⟩ := List.mem_map.mp hd
  exact same_fr q n
theorem r_pushed (h : Hs) (i : Nat) (B : List D) (t : Nat) (nm : Bool) (as : List Int) (c : Int) (a b : List Rat) (hi : i < h.length) (hB : Bx B t) (ht : t + 10 < 2 ^ 30) (hs : Sd as c 8) (ha : Ok a 6) (hb : Ok b 6) (hal : a.length = as.length) (hab : a.length = b.length) (m : Nat) (hm : 12 ≤ m) :
    ∃ B', evF FT gl m f__law_pushed_right [.cel i, .int as.length, P as c, pt a, pt b, .bl nm] (h.set i B) = some (.bl true, h.set i B') ∧ Bx B' (t + 2) := by
  obtain ⟨n, rfl, hn⟩ := lv hm
  obtain ⟨d, B1, e1, ⟨d0, d1⟩, b1⟩ := r_take 15 h i B t hi hB (by omega) (by decide) (by decide) n (by omega)
  obtain ⟨e, B2, e2, ⟨d2, d3⟩, b2⟩ := r_take 5 h i B1 (t + 1) hi b1 (by omega) (by decide) (by decide) n (by omega)
  refine ⟨B2, ?_, b2⟩
  have hl := hs.len
  have hl' : a.length = 2 ∨ a.length = 3 := by omega
  have hbl : b.length = as.length := by omega
  have ep : 0 < 1 + e := by omega
  have f0 := r_llow (d - 7) (1 + e) (k := 4) ep (by unfold Sz; omega) (by unfold Sz; omega) (by decide) (by decide) (h.set i B2) n (by omega)
  have f1 := fq_low (t := d - 7) (b := 1 + e) (k := 4) ep (by unfold Sz; omega) (by unfold Sz; omega)
  generalize (((d - 7 : Int) : Rat) / ((1 + e : Int) : Rat)) = F at f0 f1
  have p1 := r_lover as c a hs ha hal (by decide) (by decide) (by decide) (h.set i B2) n (by omega)
  have q1 := r_lover as c b hs hb hbl (by decide) (by decide) (by decide) (h.set i B2) n (by omega)
  have cq := fq_int hs.szc (by decide)
  have own := r_plus (overQ as c b) c q1.2 cq (by decide) (by decide) (by decide) (h.set i B2) n (by omega)
  have due0 := r_plus (overQ as c a) (overQ as c b + c) p1.2 own.2 (by decide) (by decide) (by decide) (h.set i B2) n (by omega)
  have u1 := r_plus (overQ as c a) c p1.2 cq (by decide) (by decide) (by decide) (h.set i B2) n (by omega)
  have u2 := r_times F (overQ as c a + c) f1 u1.2 (by decide) (by decide) (by decide) (h.set i B2) n (by omega)
  have due1 := r_less (F * (overQ as c a + c)) c u2.2 cq (by decide) (by decide) (by decide) (h.set i B2) n (by omega)
  have oadd := over_add as c a b hal hab
  have ostr := over_str F as c a hal
  rw [← oadd] at due0
  rw [← ostr] at due1
  have own' := own.1; have u1' := u1.1; have due1' := due1.1
  rw [fr_int] at own' u1' due1'
  have k1 := r_moved a b ha hb hl' hab (by decide) (by decide) (h.set i B2) n (by omega)
  have k2 := r_scaled a F ha (f1.mono (by decide)) hl' (by decide) (by decide) (h.set i B2) n (by omega)
  have la := add_len hab
  have ls := str_len (q := F) (a := a)
  have lp := push_len hab
  have x1 := r_excess as c (addQ a b) hs k1.2 (by omega) (by decide) (by decide) (by decide) (h.set i B2) n (by omega)
  have x2 := r_excess as c (strQ F a) hs k2.2 (by omega) (by decide) (by decide) (by decide) (h.set i B2) n (by omega)
  have y1 := r_standing as c (addQ a b) hs k1.2 (by omega) (by decide) (by decide) (by decide) (h.set i B2) n (by omega)
  have y2 := r_standing as c (strQ F a) hs k2.2 (by omega) (by decide) (by decide) (by decide) (h.set i B2) n (by omega)
  have s1 := r_lsign (overQ as c (addQ a b)) (h.set i B2) n (by omega)
  have s2 := r_lsign (overQ as c (strQ F a)) (h.set i B2) n (by omega)
  have sm1 := r_same (h.set i B2) 2 (.lst [fr (overQ as c (addQ a b)), fr (overQ as c (strQ F a))]) (same_two (same_fr _ 0) (same_fr _ 0)) n (by omega)
  have sm2 := r_same (h.set i B2) 1 (.lst [.int (sgn (overQ as c (addQ a b))), .int (sgn (overQ as c (strQ F a)))]) (same_two (same_int _ 0) (same_int _ 0)) n (by omega)
  generalize hD : overQ as c (addQ a b) = D0 at *
  generalize hE : overQ as c (strQ F a) = D1 at *
  have ps := r_push_between a b ha hb hl' hab (by decide) (by decide) (h.set i B2) n (by omega)
  have m1 := r_moved a (pushQ a b) (ha.mono (l := 13) (by decide)) ps.2 hl' (by omega) (by decide) (by decide) (h.set i B2) n (by omega)
  have m2 := r_scaled (pushQ a b) (-1) ps.2 (neg1_sz (by decide)) (by omega) (by decide) (by decide) (h.set i B2) n (by omega)
  have m3 := r_moved b (strQ (-1) (pushQ a b)) (hb.mono (by decide)) m2.2 (by omega) (by rw [str_len]; omega) (by decide) (by decide) (h.set i B2) n (by omega)
  have m4 := r_scaled b (-1) hb (neg1_sz (by decide)) (by omega) (by decide) (by decide) (h.set i B2) n (by omega)
  have m5 := r_moved (addQ a b) (strQ (-1) b) k1.2 m4.2 (by omega) (by rw [str_len]; omega) (by decide) (by decide) (h.set i B2) n (by omega)
  have m6 := r_push_between a (addQ a b) (ha.mono (by decide)) k1.2 (by omega) (by omega) (by decide) (by decide) (h.set i B2) n (by omega)
  have m7 := r_push_between a a ha ha hl' rfl (by decide) (by decide) (h.set i B2) n (by omega)
  rw [pa hab] at m1
  rw [pb hab] at m3
  rw [pc hab] at m5
  rw [pd hab] at m6
  rw [pe, hal] at m7
  have hz := zero_pt hl
  have m2' := m2.1; have m4' := m4.1
  rw [neg1] at m2' m4'
  have sm3 := r_same (h.set i B2) 2 (.lst [pt b, pt a, pt a, pt b, pt (List.replicate as.length 0)]) (by
    refine ⟨by simp [lim], ?_⟩
    intro d hd
    simp only [List.mem_cons, List.not_mem_nil, or_false] at hd
    rcases hd with rfl | rfl | rfl | rfl | rfl
    · exact same_pt hb (by omega) 0
    · exact same_pt ha (by omega) 0
    · exact same_pt ha (by omega) 0
    · exact same_pt hb (by omega) 0
    · exact same_pt hz.ok (by simp; omega) 0) n (by omega)
  have zer : ((List.replicate (as.length : Int).toNat [D.int 0]).flatten ++ [D.int 1]) = (List.replicate as.length 0).map D.int ++ [.int 1] := by
    rcases hl with e | e <;> rw [e] <;> rfl
  have zer' : D.tup ((List.replicate (as.length : Int).toNat [D.int 0]).flatten ++ [D.int 1]) = pt (List.replicate as.length 0) := by rw [zer, ← hz.eq]; rfl
  have zlen : (List.replicate (as.length : Int).toNat [D.int 0]).flatten.length + 1 ≤ 100000 := by rcases hl with e | e <;> rw [e] <;> decide
  have zc : [D.int 0] ≠ [] ∧ 2 ≤ (as.length : Int) ∧ (as.length : Int) ≤ 1000 ∧ 1 ≤ 1000 := ⟨by simp, by omega, by omega, by decide⟩
  have sm4 := r_same (h.set i B2) 1 (pt a) (same_pt ha (by omega) 0) n (by omega)
  have n1 := r_scaled (pushQ a b) (1 / 2) ps.2 (half_sz (by decide)) (by omega) (by decide) (by decide) (h.set i B2) n (by omega)
  have n2 := r_moved a (strQ (1 / 2) (pushQ a b)) (ha.mono (by decide)) n1.2 (by omega) (by rw [str_len]; omega) (by decide) (by decide) (h.set i B2) n (by omega)
  have n3 := r_middle b a hb ha (by omega) hab.symm (by decide) (by decide) (h.set i B2) n (by omega)
  have n4 := r_middle a b ha hb (by omega) hab (by decide) (by decide) (h.set i B2) n (by omega)
  rw [pf hab] at n2
  rw [pg hab] at n3
  have n1' := n1.1
  rw [half_fr] at n1'
  have sm5 := r_same (h.set i B2) 2 (.lst [pt (mixQ (1 / 2) a b), pt (mixQ (1 / 2) a b)]) (same_two (same_pt n4.2 (by rw [mix_len hab]; omega) 0) (same_pt n4.2 (by rw [mix_len hab]; omega) 0)) n (by omega)
  have o1 := r_places_of a ha hl' (by decide) (by decide) (h.set i B2) n (by omega)
  have o2 := r_places_of b hb (by omega) (by decide) (by decide) (h.set i B2) n (by omega)
  have o3 := r_places_of (addQ a b) k1.2 (by omega) (by decide) (by decide) (h.set i B2) n (by omega)
  have o4 := r_point_at (addQ a b) (ok_fq k1.2) (by omega) (by decide) (by decide) (h.set i B2) n (by omega)
  have sm6 := r_same (h.set i B2) 3 (.lst [.tup ((addQ a b).map fr), pt (addQ a b)]) (same_two (same_frs _ (by omega) 0) (same_pt k1.2 (by omega) 1)) n (by omega)
  have hzip := cp_zip (cl := evF FT gl n) (gl := gl) (σ := [some (.cel i), some (.int as.length), some (P as c), some (pt a), some (pt b), some (.bl nm), some (fr F), some (fr (overQ as c b + c)), some (pt (addQ a b)), some (pt (strQ F a)), some (.lst [fr D0, fr D1]), some (pt (pushQ a b)), some (.lst [pt b, pt a, pt a, pt b, pt (List.replicate as.length 0)]), none, none, none, none]) (h := h.set i B2) (i := 14) (j := 15) (ce := .cl f__law_plus (.cons (.var 14) (.cons (.var 15) .nil))) (it := .zip (.cl f_places_of (.cons (.var 3) .nil)) (.cl f_places_of (.cons (.var 4) .nil))) (as := a) (bs := b) (ma := fr) (mb := fr) (fun x y => fr (x + y)) (by simp only [e_var, e_non, e_bl, e_int, e_str, e_ty, e_glob, e_op, e_neg, e_cmp, e_chn, e_bop, e_not, e_ife, e_tup, e_lst, e_ix, e_sl, e_cl, e_ck, e_bt, e_mt, eb_one, eb_cons, es_nil, es_cons, eo_none, eo_some, ec_none, ec_some, et_name, et_tup, et_tupl, et_sub, ets_nil, ets_cons, ei_seq, ei_rng1, ei_rng2, ei_zip, s_asg_, s_par_, s_ex_, s_ret_, s_retN_, s_ite_, ss_nil_, fin_rt, fin_nx, wipeD, lim, isK, testT, isNon, isAny, o_add, o_sub, o_mul, o_fdiv, o_mod, o_pow, o_addt, o_addl, o_mult, k_eq, k_ne, k_lt, k_le, k_gt, k_ge, k_isb, k_isn, k_isnn, k_eqb, k_eql, k_nel, k_in, k_nin, g_tup_, g_lst_, g_frz_, g_cel_, sl_tup_, sl_lst_, sl_frz_, sq_tup, sq_lst, zp_tup, n_lent, n_lenl, n_lenf, n_abs, n_int, n_intb, n_max, n_min, n_sum, n_tupl, n_tupt, n_tupc, n_all, n_any, n_gcd, n_isi, n_isit, y_int, y_bl, y_tup, y_lst, y_non, q_app, List.getElem?_cons_zero, List.getElem?_cons_succ, List.getElem?_nil, List.set_cons_zero, List.set_cons_succ, Option.bind_some, Option.map_some, Option.bind_none, List.length_cons, List.length_nil, Bool.false_eq_true, if_true, if_false, List.nil_append, List.cons_append, o1, o2]; simp [hab]) (by unfold lim; omega) (by
    intro x hx y hy
    have z := r_plus x y (ok_fq ha x hx) (ok_fq hb y hy) (by decide) (by decide) (by decide) (h.set i B2) n (by omega)
    simp only [e_var, e_non, e_bl, e_int, e_str, e_ty, e_glob, e_op, e_neg, e_cmp, e_chn, e_bop, e_not, e_ife, e_tup, e_lst, e_ix, e_sl, e_cl, e_ck, e_bt, e_mt, eb_one, eb_cons, es_nil, es_cons, eo_none, eo_some, ec_none, ec_some, et_name, et_tup, et_tupl, et_sub, ets_nil, ets_cons, ei_seq, ei_rng1, ei_rng2, ei_zip, s_asg_, s_par_, s_ex_, s_ret_, s_retN_, s_ite_, ss_nil_, fin_rt, fin_nx, wipeD, lim, isK, testT, isNon, isAny, o_add, o_sub, o_mul, o_fdiv, o_mod, o_pow, o_addt, o_addl, o_mult, k_eq, k_ne, k_lt, k_le, k_gt, k_ge, k_isb, k_isn, k_isnn, k_eqb, k_eql, k_nel, k_in, k_nin, g_tup_, g_lst_, g_frz_, g_cel_, sl_tup_, sl_lst_, sl_frz_, sq_tup, sq_lst, zp_tup, n_lent, n_lenl, n_lenf, n_abs, n_int, n_intb, n_max, n_min, n_sum, n_tupl, n_tupt, n_tupc, n_all, n_any, n_gcd, n_isi, n_isit, y_int, y_bl, y_tup, y_lst, y_non, q_app, List.getElem?_cons_zero, List.getElem?_cons_succ, List.getElem?_nil, List.set_cons_zero, List.set_cons_succ, Option.bind_some, Option.map_some, Option.bind_none, List.length_cons, List.length_nil, Bool.false_eq_true, if_true, if_false, List.nil_append, List.cons_append, z.1])
  have hzm : List.zipWith (fun x y => fr (x + y)) a b = (addQ a b).map fr := by unfold addQ; rw [List.map_zipWith]
  have l2 : (0 + 1 + 1 : Nat) ≤ 100000 := by decide
  have l1 : (0 + 1 : Nat) ≤ 100000 := by decide
  have l5 : (0 + 1 + 1 + 1 + 1 + 1 : Nat) ≤ 100000 := by decide
  have gF0 : getI (h.set i B2) (fr F) (.int 0) = some (.int F.num) := at_0 _ _
  have gF1 : getI (h.set i B2) (fr F) (.int 1) = some (.int F.den) := at_1 _ _ _
  rw [run_g (F := ⟨6, 17, b__law_pushed_right, false⟩) [some (.cel i), some (.int as.length), some (P as c), some (pt a), some (pt b), some (.bl nm), none, none, none, none, none, none, none, none, none, none, none] rfl rfl rfl rfl, b__law_pushed_right,
    ss_nx (σ' := [some (.cel i), some (.int as.length), some (P as c), some (pt a), some (pt b), some (.bl nm), some (fr F), none, none, none, none, none, none, none, none, none, none]) (h' := h.set i B2),
    ss_nx (σ' := [some (.cel i), some (.int as.length), some (P as c), some (pt a), some (pt b), some (.bl nm), some (fr F), some (fr (overQ as c b + c)), none, none, none, none, none, none, none, none, none]) (h' := h.set i B2),
    ss_nx (σ' := [some (.cel i), some (.int as.length), some (P as c), some (pt a), some (pt b), some (.bl nm), some (fr F), some (fr (overQ as c b + c)), some (pt (addQ a b)), some (pt (strQ F a)), none, none, none, none, none, none, none]) (h' := h.set i B2),
    ss_nx (σ' := [some (.cel i), some (.int as.length), some (P as c), some (pt a), some (pt b), some (.bl nm), some (fr F), some (fr (overQ as c b + c)), some (pt (addQ a b)), some (pt (strQ F a)), some (.lst [fr D0, fr D1]), none, none, none, none, none, none]) (h' := h.set i B2),
    ss_nx (σ' := [some (.cel i), some (.int as.length), some (P as c), some (pt a), some (pt b), some (.bl nm), some (fr F), some (fr (overQ as c b + c)), some (pt (addQ a b)), some (pt (strQ F a)), some (.lst [fr D0, fr D1]), none, none, none, none, none, none]) (h' := h.set i B2),
    ss_nx (σ' := [some (.cel i), some (.int as.length), some (P as c), some (pt a), some (pt b), some (.bl nm), some (fr F), some (fr (overQ as c b + c)), some (pt (addQ a b)), some (pt (strQ F a)), some (.lst [fr D0, fr D1]), some (pt (pushQ a b)), none, none, none, none, none]) (h' := h.set i B2),
    ss_nx (σ' := [some (.cel i), some (.int as.length), some (P as c), some (pt a), some (pt b), some (.bl nm), some (fr F), some (fr (overQ as c b + c)), some (pt (addQ a b)), some (pt (strQ F a)), some (.lst [fr D0, fr D1]), some (pt (pushQ a b)), some (.lst [pt b, pt a, pt a, pt b, pt (List.replicate as.length 0)]), none, none, none, none]) (h' := h.set i B2),
    ss_nx (σ' := [some (.cel i), some (.int as.length), some (P as c), some (pt a), some (pt b), some (.bl nm), some (fr F), some (fr (overQ as c b + c)), some (pt (addQ a b)), some (pt (strQ F a)), some (.lst [fr D0, fr D1]), some (pt (pushQ a b)), some (.lst [pt b, pt a, pt a, pt b, pt (List.replicate as.length 0)]), none, none, none, none]) (h' := h.set i B2),
    ss_nx (σ' := [some (.cel i), some (.int as.length), some (P as c), some (pt a), some (pt b), some (.bl nm), some (fr F), some (fr (overQ as c b + c)), some (pt (addQ a b)), some (pt (strQ F a)), some (.lst [fr D0, fr D1]), some (pt (pushQ a b)), some (.lst [pt b, pt a, pt a, pt b, pt (List.replicate as.length 0)]), none, none, none, none]) (h' := h.set i B2),
    ss_nx (σ' := [some (.cel i), some (.int as.length), some (P as c), some (pt a), some (pt b), some (.bl nm), some (fr F), some (fr (overQ as c b + c)), some (pt (addQ a b)), some (pt (strQ F a)), some (.lst [fr D0, fr D1]), some (pt (pushQ a b)), some (.lst [pt b, pt a, pt a, pt b, pt (List.replicate as.length 0)]), none, none, none, none]) (h' := h.set i B2),
    ss_nx (σ' := [some (.cel i), some (.int as.length), some (P as c), some (pt a), some (pt b), some (.bl nm), some (fr F), some (fr (overQ as c b + c)), some (pt (addQ a b)), some (pt (strQ F a)), some (.lst [fr D0, fr D1]), some (pt (pushQ a b)), some (.lst [pt b, pt a, pt a, pt b, pt (List.replicate as.length 0)]), some (.tup ((addQ a b).map fr)), none, none, none]) (h' := h.set i B2),
    ss_rt (h' := h.set i B2) (d := .bl true)]
  · exact fin_rt
  · simp only [e_var, e_non, e_bl, e_int, e_str, e_ty, e_glob, e_op, e_neg, e_cmp, e_chn, e_bop, e_not, e_ife, e_tup, e_lst, e_ix, e_sl, e_cl, e_ck, e_bt, e_mt, eb_one, eb_cons, es_nil, es_cons, eo_none, eo_some, ec_none, ec_some, et_name, et_tup, et_tupl, et_sub, ets_nil, ets_cons, ei_seq, ei_rng1, ei_rng2, ei_zip, s_asg_, s_par_, s_ex_, s_ret_, s_retN_, s_ite_, ss_nil_, fin_rt, fin_nx, wipeD, lim, isK, testT, isNon, isAny, o_add, o_sub, o_mul, o_fdiv, o_mod, o_pow, o_addt, o_addl, o_mult, k_eq, k_ne, k_lt, k_le, k_gt, k_ge, k_isb, k_isn, k_isnn, k_eqb, k_eql, k_nel, k_in, k_nin, g_tup_, g_lst_, g_frz_, g_cel_, sl_tup_, sl_lst_, sl_frz_, sq_tup, sq_lst, zp_tup, n_lent, n_lenl, n_lenf, n_abs, n_int, n_intb, n_max, n_min, n_sum, n_tupl, n_tupt, n_tupc, n_all, n_any, n_gcd, n_isi, n_isit, y_int, y_bl, y_tup, y_lst, y_non, q_app, List.getElem?_cons_zero, List.getElem?_cons_succ, List.getElem?_nil, List.set_cons_zero, List.set_cons_succ, Option.bind_some, Option.map_some, Option.bind_none, List.length_cons, List.length_nil, Bool.false_eq_true, if_true, if_false, List.nil_append, List.cons_append, o3, o4.1, l2, sm6]
  · simp only [s_asg_, e_bt, es_cons, es_nil, hzip, Option.bind_some, Option.map_some, n_tupl, hzm]
    simp only [e_var, e_non, e_bl, e_int, e_str, e_ty, e_glob, e_op, e_neg, e_cmp, e_chn, e_bop, e_not, e_ife, e_tup, e_lst, e_ix, e_sl, e_cl, e_ck, e_bt, e_mt, eb_one, eb_cons, es_nil, es_cons, eo_none, eo_some, ec_none, ec_some, et_name, et_tup, et_tupl, et_sub, ets_nil, ets_cons, ei_seq, ei_rng1, ei_rng2, ei_zip, s_asg_, s_par_, s_ex_, s_ret_, s_retN_, s_ite_, ss_nil_, fin_rt, fin_nx, wipeD, lim, isK, testT, isNon, isAny, o_add, o_sub, o_mul, o_fdiv, o_mod, o_pow, o_addt, o_addl, o_mult, k_eq, k_ne, k_lt, k_le, k_gt, k_ge, k_isb, k_isn, k_isnn, k_eqb, k_eql, k_nel, k_in, k_nin, g_tup_, g_lst_, g_frz_, g_cel_, sl_tup_, sl_lst_, sl_frz_, sq_tup, sq_lst, zp_tup, n_lent, n_lenl, n_lenf, n_abs, n_int, n_intb, n_max, n_min, n_sum, n_tupl, n_tupt, n_tupc, n_all, n_any, n_gcd, n_isi, n_isit, y_int, y_bl, y_tup, y_lst, y_non, q_app, List.getElem?_cons_zero, List.getElem?_cons_succ, List.getElem?_nil, List.set_cons_zero, List.set_cons_succ, Option.bind_some, Option.map_some, Option.bind_none, List.length_cons, List.length_nil, Bool.false_eq_true, if_true, if_false, List.nil_append, List.cons_append]
  · simp only [e_var, e_non, e_bl, e_int, e_str, e_ty, e_glob, e_op, e_neg, e_cmp, e_chn, e_bop, e_not, e_ife, e_tup, e_lst, e_ix, e_sl, e_cl, e_ck, e_bt, e_mt, eb_one, eb_cons, es_nil, es_cons, eo_none, eo_some, ec_none, ec_some, et_name, et_tup, et_tupl, et_sub, ets_nil, ets_cons, ei_seq, ei_rng1, ei_rng2, ei_zip, s_asg_, s_par_, s_ex_, s_ret_, s_retN_, s_ite_, ss_nil_, fin_rt, fin_nx, wipeD, lim, isK, testT, isNon, isAny, o_add, o_sub, o_mul, o_fdiv, o_mod, o_pow, o_addt, o_addl, o_mult, k_eq, k_ne, k_lt, k_le, k_gt, k_ge, k_isb, k_isn, k_isnn, k_eqb, k_eql, k_nel, k_in, k_nin, g_tup_, g_lst_, g_frz_, g_cel_, sl_tup_, sl_lst_, sl_frz_, sq_tup, sq_lst, zp_tup, n_lent, n_lenl, n_lenf, n_abs, n_int, n_intb, n_max, n_min, n_sum, n_tupl, n_tupt, n_tupc, n_all, n_any, n_gcd, n_isi, n_isit, y_int, y_bl, y_tup, y_lst, y_non, q_app, List.getElem?_cons_zero, List.getElem?_cons_succ, List.getElem?_nil, List.set_cons_zero, List.set_cons_succ, Option.bind_some, Option.map_some, Option.bind_none, List.length_cons, List.length_nil, Bool.false_eq_true, if_true, if_false, List.nil_append, List.cons_append, n1', n2.1, n3.1, n4.1, l2, sm5, Bool.not_true]
  · by_cases h0 : F.num = 0
    · simp only [e_var, e_non, e_bl, e_int, e_str, e_ty, e_glob, e_op, e_neg, e_cmp, e_chn, e_bop, e_not, e_ife, e_tup, e_lst, e_ix, e_sl, e_cl, e_ck, e_bt, e_mt, eb_one, eb_cons, es_nil, es_cons, eo_none, eo_some, ec_none, ec_some, et_name, et_tup, et_tupl, et_sub, ets_nil, ets_cons, ei_seq, ei_rng1, ei_rng2, ei_zip, s_asg_, s_par_, s_ex_, s_ret_, s_retN_, s_ite_, ss_nil_, fin_rt, fin_nx, wipeD, lim, isK, testT, isNon, isAny, o_add, o_sub, o_mul, o_fdiv, o_mod, o_pow, o_addt, o_addl, o_mult, k_eq, k_ne, k_lt, k_le, k_gt, k_ge, k_isb, k_isn, k_isnn, k_eqb, k_eql, k_nel, k_in, k_nin, g_tup_, g_lst_, g_frz_, g_cel_, sl_tup_, sl_lst_, sl_frz_, sq_tup, sq_lst, zp_tup, n_lent, n_lenl, n_lenf, n_abs, n_int, n_intb, n_max, n_min, n_sum, n_tupl, n_tupt, n_tupc, n_all, n_any, n_gcd, n_isi, n_isit, y_int, y_bl, y_tup, y_lst, y_non, q_app, List.getElem?_cons_zero, List.getElem?_cons_succ, List.getElem?_nil, List.set_cons_zero, List.set_cons_succ, Option.bind_some, Option.map_some, Option.bind_none, List.length_cons, List.length_nil, Bool.false_eq_true, if_true, if_false, List.nil_append, List.cons_append, gF0, h0, decide_true, Bool.not_true]
    · have hF : F ≠ 0 := fun e => h0 (by rw [e]; rfl)
      have i1 := r_scaled (strQ F a) F⁻¹ k2.2 ((f1.inv h0).mono (by decide)) (by omega) (by decide) (by decide) (h.set i B2) n (by omega)
      rw [ph hF] at i1
      have i1' := i1.1
      by_cases hpos : 0 < F.num
      · have e := inv_pos hpos
        simp only [e_var, e_non, e_bl, e_int, e_str, e_ty, e_glob, e_op, e_neg, e_cmp, e_chn, e_bop, e_not, e_ife, e_tup, e_lst, e_ix, e_sl, e_cl, e_ck, e_bt, e_mt, eb_one, eb_cons, es_nil, es_cons, eo_none, eo_some, ec_none, ec_some, et_name, et_tup, et_tupl, et_sub, ets_nil, ets_cons, ei_seq, ei_rng1, ei_rng2, ei_zip, s_asg_, s_par_, s_ex_, s_ret_, s_retN_, s_ite_, ss_nil_, fin_rt, fin_nx, wipeD, lim, isK, testT, isNon, isAny, o_add, o_sub, o_mul, o_fdiv, o_mod, o_pow, o_addt, o_addl, o_mult, k_eq, k_ne, k_lt, k_le, k_gt, k_ge, k_isb, k_isn, k_isnn, k_eqb, k_eql, k_nel, k_in, k_nin, g_tup_, g_lst_, g_frz_, g_cel_, sl_tup_, sl_lst_, sl_frz_, sq_tup, sq_lst, zp_tup, n_lent, n_lenl, n_lenf, n_abs, n_int, n_intb, n_max, n_min, n_sum, n_tupl, n_tupt, n_tupc, n_all, n_any, n_gcd, n_isi, n_isit, y_int, y_bl, y_tup, y_lst, y_non, q_app, List.getElem?_cons_zero, List.getElem?_cons_succ, List.getElem?_nil, List.set_cons_zero, List.set_cons_succ, Option.bind_some, Option.map_some, Option.bind_none, List.length_cons, List.length_nil, Bool.false_eq_true, if_true, if_false, List.nil_append, List.cons_append, gF0, gF1, h0, hpos, decide_true, decide_false, Bool.not_false, Bool.not_true, l2, ← e, i1', sm4]
      · have e := inv_neg (q := F) (by omega)
        simp only [e_var, e_non, e_bl, e_int, e_str, e_ty, e_glob, e_op, e_neg, e_cmp, e_chn, e_bop, e_not, e_ife, e_tup, e_lst, e_ix, e_sl, e_cl, e_ck, e_bt, e_mt, eb_one, eb_cons, es_nil, es_cons, eo_none, eo_some, ec_none, ec_some, et_name, et_tup, et_tupl, et_sub, ets_nil, ets_cons, ei_seq, ei_rng1, ei_rng2, ei_zip, s_asg_, s_par_, s_ex_, s_ret_, s_retN_, s_ite_, ss_nil_, fin_rt, fin_nx, wipeD, lim, isK, testT, isNon, isAny, o_add, o_sub, o_mul, o_fdiv, o_mod, o_pow, o_addt, o_addl, o_mult, k_eq, k_ne, k_lt, k_le, k_gt, k_ge, k_isb, k_isn, k_isnn, k_eqb, k_eql, k_nel, k_in, k_nin, g_tup_, g_lst_, g_frz_, g_cel_, sl_tup_, sl_lst_, sl_frz_, sq_tup, sq_lst, zp_tup, n_lent, n_lenl, n_lenf, n_abs, n_int, n_intb, n_max, n_min, n_sum, n_tupl, n_tupt, n_tupc, n_all, n_any, n_gcd, n_isi, n_isit, y_int, y_bl, y_tup, y_lst, y_non, q_app, List.getElem?_cons_zero, List.getElem?_cons_succ, List.getElem?_nil, List.set_cons_zero, List.set_cons_succ, Option.bind_some, Option.map_some, Option.bind_none, List.length_cons, List.length_nil, Bool.false_eq_true, if_true, if_false, List.nil_append, List.cons_append, gF0, gF1, h0, hpos, decide_true, decide_false, Bool.not_false, Bool.not_true, l2, ← e, i1', sm4]
  · simp only [e_var, e_non, e_bl, e_int, e_str, e_ty, e_glob, e_op, e_neg, e_cmp, e_chn, e_bop, e_not, e_ife, e_tup, e_lst, e_ix, e_sl, e_cl, e_ck, e_bt, e_mt, eb_one, eb_cons, es_nil, es_cons, eo_none, eo_some, ec_none, ec_some, et_name, et_tup, et_tupl, et_sub, ets_nil, ets_cons, ei_seq, ei_rng1, ei_rng2, ei_zip, s_asg_, s_par_, s_ex_, s_ret_, s_retN_, s_ite_, ss_nil_, fin_rt, fin_nx, wipeD, lim, isK, testT, isNon, isAny, o_add, o_sub, o_mul, o_fdiv, o_mod, o_pow, o_addt, o_addl, o_mult, k_eq, k_ne, k_lt, k_le, k_gt, k_ge, k_isb, k_isn, k_isnn, k_eqb, k_eql, k_nel, k_in, k_nin, g_tup_, g_lst_, g_frz_, g_cel_, sl_tup_, sl_lst_, sl_frz_, sq_tup, sq_lst, zp_tup, n_lent, n_lenl, n_lenf, n_abs, n_int, n_intb, n_max, n_min, n_sum, n_tupl, n_tupt, n_tupc, n_all, n_any, n_gcd, n_isi, n_isit, y_int, y_bl, y_tup, y_lst, y_non, q_app, List.getElem?_cons_zero, List.getElem?_cons_succ, List.getElem?_nil, List.set_cons_zero, List.set_cons_succ, Option.bind_some, Option.map_some, Option.bind_none, List.length_cons, List.length_nil, Bool.false_eq_true, if_true, if_false, List.nil_append, List.cons_append, l1, l5, zc, zlen, zer', sm3, Bool.not_true, ne_eq, reduceCtorEq, not_false_eq_true, and_self, true_and, and_true]
  · simp only [e_var, e_non, e_bl, e_int, e_str, e_ty, e_glob, e_op, e_neg, e_cmp, e_chn, e_bop, e_not, e_ife, e_tup, e_lst, e_ix, e_sl, e_cl, e_ck, e_bt, e_mt, eb_one, eb_cons, es_nil, es_cons, eo_none, eo_some, ec_none, ec_some, et_name, et_tup, et_tupl, et_sub, ets_nil, ets_cons, ei_seq, ei_rng1, ei_rng2, ei_zip, s_asg_, s_par_, s_ex_, s_ret_, s_retN_, s_ite_, ss_nil_, fin_rt, fin_nx, wipeD, lim, isK, testT, isNon, isAny, o_add, o_sub, o_mul, o_fdiv, o_mod, o_pow, o_addt, o_addl, o_mult, k_eq, k_ne, k_lt, k_le, k_gt, k_ge, k_isb, k_isn, k_isnn, k_eqb, k_eql, k_nel, k_in, k_nin, g_tup_, g_lst_, g_frz_, g_cel_, sl_tup_, sl_lst_, sl_frz_, sq_tup, sq_lst, zp_tup, n_lent, n_lenl, n_lenf, n_abs, n_int, n_intb, n_max, n_min, n_sum, n_tupl, n_tupt, n_tupc, n_all, n_any, n_gcd, n_isi, n_isit, y_int, y_bl, y_tup, y_lst, y_non, q_app, List.getElem?_cons_zero, List.getElem?_cons_succ, List.getElem?_nil, List.set_cons_zero, List.set_cons_succ, Option.bind_some, Option.map_some, Option.bind_none, List.length_cons, List.length_nil, Bool.false_eq_true, if_true, if_false, List.nil_append, List.cons_append, m1.1, m2', m3.1, m4', m5.1, m6.1, m7.1, l2, l5]
  · cases nm <;> simp only [e_var, e_non, e_bl, e_int, e_str, e_ty, e_glob, e_op, e_neg, e_cmp, e_chn, e_bop, e_not, e_ife, e_tup, e_lst, e_ix, e_sl, e_cl, e_ck, e_bt, e_mt, eb_one, eb_cons, es_nil, es_cons, eo_none, eo_some, ec_none, ec_some, et_name, et_tup, et_tupl, et_sub, ets_nil, ets_cons, ei_seq, ei_rng1, ei_rng2, ei_zip, s_asg_, s_par_, s_ex_, s_ret_, s_retN_, s_ite_, ss_nil_, fin_rt, fin_nx, wipeD, lim, isK, testT, isNon, isAny, o_add, o_sub, o_mul, o_fdiv, o_mod, o_pow, o_addt, o_addl, o_mult, k_eq, k_ne, k_lt, k_le, k_gt, k_ge, k_isb, k_isn, k_isnn, k_eqb, k_eql, k_nel, k_in, k_nin, g_tup_, g_lst_, g_frz_, g_cel_, sl_tup_, sl_lst_, sl_frz_, sq_tup, sq_lst, zp_tup, n_lent, n_lenl, n_lenf, n_abs, n_int, n_intb, n_max, n_min, n_sum, n_tupl, n_tupt, n_tupc, n_all, n_any, n_gcd, n_isi, n_isit, y_int, y_bl, y_tup, y_lst, y_non, q_app, List.getElem?_cons_zero, List.getElem?_cons_succ, List.getElem?_nil, List.set_cons_zero, List.set_cons_succ, Option.bind_some, Option.map_some, Option.bind_none, List.length_cons, List.length_nil, Bool.false_eq_true, if_true, if_false, List.nil_append, List.cons_append, pm10, ps.1]
  · have hc : evE (evF FT gl n) gl (.cp false (.cl f__law_sign (.cons (.var 16) .nil)) (.name 16) (.seq (.var 10)) .none [16]) [some (.cel i), some (.int as.length), some (P as c), some (pt a), some (pt b), some (.bl nm), some (fr F), some (fr (overQ as c b + c)), some (pt (addQ a b)), some (pt (strQ F a)), some (.lst [fr D0, fr D1]), none, none, none, none, none, none] (h.set i B2) = some (.lst [.int (sgn D0), .int (sgn D1)], h.set i B2) := by
      rw [e_cp]
      have hi' : evIt (evF FT gl n) gl (.seq (.var 10)) [some (.cel i), some (.int as.length), some (P as c), some (pt a), some (pt b), some (.bl nm), some (fr F), some (fr (overQ as c b + c)), some (pt (addQ a b)), some (pt (strQ F a)), some (.lst [fr D0, fr D1]), none, none, none, none, none, none] (h.set i B2) = some ⟨[fr D0, fr D1], none, h.set i B2⟩ := by simp only [e_var, e_non, e_bl, e_int, e_str, e_ty, e_glob, e_op, e_neg, e_cmp, e_chn, e_bop, e_not, e_ife, e_tup, e_lst, e_ix, e_sl, e_cl, e_ck, e_bt, e_mt, eb_one, eb_cons, es_nil, es_cons, eo_none, eo_some, ec_none, ec_some, et_name, et_tup, et_tupl, et_sub, ets_nil, ets_cons, ei_seq, ei_rng1, ei_rng2, ei_zip, s_asg_, s_par_, s_ex_, s_ret_, s_retN_, s_ite_, ss_nil_, fin_rt, fin_nx, wipeD, lim, isK, testT, isNon, isAny, o_add, o_sub, o_mul, o_fdiv, o_mod, o_pow, o_addt, o_addl, o_mult, k_eq, k_ne, k_lt, k_le, k_gt, k_ge, k_isb, k_isn, k_isnn, k_eqb, k_eql, k_nel, k_in, k_nin, g_tup_, g_lst_, g_frz_, g_cel_, sl_tup_, sl_lst_, sl_frz_, sq_tup, sq_lst, zp_tup, n_lent, n_lenl, n_lenf, n_abs, n_int, n_intb, n_max, n_min, n_sum, n_tupl, n_tupt, n_tupc, n_all, n_any, n_gcd, n_isi, n_isit, y_int, y_bl, y_tup, y_lst, y_non, q_app, List.getElem?_cons_zero, List.getElem?_cons_succ, List.getElem?_nil, List.set_cons_zero, List.set_cons_succ, Option.bind_some, Option.map_some, Option.bind_none, List.length_cons, List.length_nil, Bool.false_eq_true, if_true, if_false, List.nil_append, List.cons_append]
      rw [hi', Option.bind_some]
      dsimp only
      rw [lc_yes et_name ec_none (h3 := h.set i B2) (d := .int (sgn D0)) (h4 := h.set i B2) (ds := [.int (sgn D1)])]
      · simp only [e_var, e_non, e_bl, e_int, e_str, e_ty, e_glob, e_op, e_neg, e_cmp, e_chn, e_bop, e_not, e_ife, e_tup, e_lst, e_ix, e_sl, e_cl, e_ck, e_bt, e_mt, eb_one, eb_cons, es_nil, es_cons, eo_none, eo_some, ec_none, ec_some, et_name, et_tup, et_tupl, et_sub, ets_nil, ets_cons, ei_seq, ei_rng1, ei_rng2, ei_zip, s_asg_, s_par_, s_ex_, s_ret_, s_retN_, s_ite_, ss_nil_, fin_rt, fin_nx, wipeD, lim, isK, testT, isNon, isAny, o_add, o_sub, o_mul, o_fdiv, o_mod, o_pow, o_addt, o_addl, o_mult, k_eq, k_ne, k_lt, k_le, k_gt, k_ge, k_isb, k_isn, k_isnn, k_eqb, k_eql, k_nel, k_in, k_nin, g_tup_, g_lst_, g_frz_, g_cel_, sl_tup_, sl_lst_, sl_frz_, sq_tup, sq_lst, zp_tup, n_lent, n_lenl, n_lenf, n_abs, n_int, n_intb, n_max, n_min, n_sum, n_tupl, n_tupt, n_tupc, n_all, n_any, n_gcd, n_isi, n_isit, y_int, y_bl, y_tup, y_lst, y_non, q_app, List.getElem?_cons_zero, List.getElem?_cons_succ, List.getElem?_nil, List.set_cons_zero, List.set_cons_succ, Option.bind_some, Option.map_some, Option.bind_none, List.length_cons, List.length_nil, Bool.false_eq_true, if_true, if_false, List.nil_append, List.cons_append]
      · simp only [e_var, e_non, e_bl, e_int, e_str, e_ty, e_glob, e_op, e_neg, e_cmp, e_chn, e_bop, e_not, e_ife, e_tup, e_lst, e_ix, e_sl, e_cl, e_ck, e_bt, e_mt, eb_one, eb_cons, es_nil, es_cons, eo_none, eo_some, ec_none, ec_some, et_name, et_tup, et_tupl, et_sub, ets_nil, ets_cons, ei_seq, ei_rng1, ei_rng2, ei_zip, s_asg_, s_par_, s_ex_, s_ret_, s_retN_, s_ite_, ss_nil_, fin_rt, fin_nx, wipeD, lim, isK, testT, isNon, isAny, o_add, o_sub, o_mul, o_fdiv, o_mod, o_pow, o_addt, o_addl, o_mult, k_eq, k_ne, k_lt, k_le, k_gt, k_ge, k_isb, k_isn, k_isnn, k_eqb, k_eql, k_nel, k_in, k_nin, g_tup_, g_lst_, g_frz_, g_cel_, sl_tup_, sl_lst_, sl_frz_, sq_tup, sq_lst, zp_tup, n_lent, n_lenl, n_lenf, n_abs, n_int, n_intb, n_max, n_min, n_sum, n_tupl, n_tupt, n_tupc, n_all, n_any, n_gcd, n_isi, n_isit, y_int, y_bl, y_tup, y_lst, y_non, q_app, List.getElem?_cons_zero, List.getElem?_cons_succ, List.getElem?_nil, List.set_cons_zero, List.set_cons_succ, Option.bind_some, Option.map_some, Option.bind_none, List.length_cons, List.length_nil, Bool.false_eq_true, if_true, if_false, List.nil_append, List.cons_append, s1]
      · refine lc_yes et_name ec_none (h3 := h.set i B2) ?_ lc_nil (by simp [lim])
        simp only [e_var, e_non, e_bl, e_int, e_str, e_ty, e_glob, e_op, e_neg, e_cmp, e_chn, e_bop, e_not, e_ife, e_tup, e_lst, e_ix, e_sl, e_cl, e_ck, e_bt, e_mt, eb_one, eb_cons, es_nil, es_cons, eo_none, eo_some, ec_none, ec_some, et_name, et_tup, et_tupl, et_sub, ets_nil, ets_cons, ei_seq, ei_rng1, ei_rng2, ei_zip, s_asg_, s_par_, s_ex_, s_ret_, s_retN_, s_ite_, ss_nil_, fin_rt, fin_nx, wipeD, lim, isK, testT, isNon, isAny, o_add, o_sub, o_mul, o_fdiv, o_mod, o_pow, o_addt, o_addl, o_mult, k_eq, k_ne, k_lt, k_le, k_gt, k_ge, k_isb, k_isn, k_isnn, k_eqb, k_eql, k_nel, k_in, k_nin, g_tup_, g_lst_, g_frz_, g_cel_, sl_tup_, sl_lst_, sl_frz_, sq_tup, sq_lst, zp_tup, n_lent, n_lenl, n_lenf, n_abs, n_int, n_intb, n_max, n_min, n_sum, n_tupl, n_tupt, n_tupc, n_all, n_any, n_gcd, n_isi, n_isit, y_int, y_bl, y_tup, y_lst, y_non, q_app, List.getElem?_cons_zero, List.getElem?_cons_succ, List.getElem?_nil, List.set_cons_zero, List.set_cons_succ, Option.bind_some, Option.map_some, Option.bind_none, List.length_cons, List.length_nil, Bool.false_eq_true, if_true, if_false, List.nil_append, List.cons_append, s2]
      · simp [lim]
    simp only [s_ite_, e_bop, eb_cons, eb_one, e_not, e_cl, es_cons, es_nil, hc]
    simp only [e_var, e_non, e_bl, e_int, e_str, e_ty, e_glob, e_op, e_neg, e_cmp, e_chn, e_bop, e_not, e_ife, e_tup, e_lst, e_ix, e_sl, e_cl, e_ck, e_bt, e_mt, eb_one, eb_cons, es_nil, es_cons, eo_none, eo_some, ec_none, ec_some, et_name, et_tup, et_tupl, et_sub, ets_nil, ets_cons, ei_seq, ei_rng1, ei_rng2, ei_zip, s_asg_, s_par_, s_ex_, s_ret_, s_retN_, s_ite_, ss_nil_, fin_rt, fin_nx, wipeD, lim, isK, testT, isNon, isAny, o_add, o_sub, o_mul, o_fdiv, o_mod, o_pow, o_addt, o_addl, o_mult, k_eq, k_ne, k_lt, k_le, k_gt, k_ge, k_isb, k_isn, k_isnn, k_eqb, k_eql, k_nel, k_in, k_nin, g_tup_, g_lst_, g_frz_, g_cel_, sl_tup_, sl_lst_, sl_frz_, sq_tup, sq_lst, zp_tup, n_lent, n_lenl, n_lenf, n_abs, n_int, n_intb, n_max, n_min, n_sum, n_tupl, n_tupt, n_tupc, n_all, n_any, n_gcd, n_isi, n_isit, y_int, y_bl, y_tup, y_lst, y_non, q_app, List.getElem?_cons_zero, List.getElem?_cons_succ, List.getElem?_nil, List.set_cons_zero, List.set_cons_succ, Option.bind_some, Option.map_some, Option.bind_none, List.length_cons, List.length_nil, Bool.false_eq_true, if_true, if_false, List.nil_append, List.cons_append, x1.1, x2.1, y1, y2, sm1, sm2, l2, Bool.not_true]
    rw [hc]
    simp only [e_var, e_non, e_bl, e_int, e_str, e_ty, e_glob, e_op, e_neg, e_cmp, e_chn, e_bop, e_not, e_ife, e_tup, e_lst, e_ix, e_sl, e_cl, e_ck, e_bt, e_mt, eb_one, eb_cons, es_nil, es_cons, eo_none, eo_some, ec_none, ec_some, et_name, et_tup, et_tupl, et_sub, ets_nil, ets_cons, ei_seq, ei_rng1, ei_rng2, ei_zip, s_asg_, s_par_, s_ex_, s_ret_, s_retN_, s_ite_, ss_nil_, fin_rt, fin_nx, wipeD, lim, isK, testT, isNon, isAny, o_add, o_sub, o_mul, o_fdiv, o_mod, o_pow, o_addt, o_addl, o_mult, k_eq, k_ne, k_lt, k_le, k_gt, k_ge, k_isb, k_isn, k_isnn, k_eqb, k_eql, k_nel, k_in, k_nin, g_tup_, g_lst_, g_frz_, g_cel_, sl_tup_, sl_lst_, sl_frz_, sq_tup, sq_lst, zp_tup, n_lent, n_lenl, n_lenf, n_abs, n_int, n_intb, n_max, n_min, n_sum, n_tupl, n_tupt, n_tupc, n_all, n_any, n_gcd, n_isi, n_isit, y_int, y_bl, y_tup, y_lst, y_non, q_app, List.getElem?_cons_zero, List.getElem?_cons_succ, List.getElem?_nil, List.set_cons_zero, List.set_cons_succ, Option.bind_some, Option.map_some, Option.bind_none, List.length_cons, List.length_nil, Bool.false_eq_true, if_true, if_false, List.nil_append, List.cons_append, sm2, Bool.not_true]
  · simp only [e_var, e_non, e_bl, e_int, e_str, e_ty, e_glob, e_op, e_neg, e_cmp, e_chn, e_bop, e_not, e_ife, e_tup, e_lst, e_ix, e_sl, e_cl, e_ck, e_bt, e_mt, eb_one, eb_cons, es_nil, es_cons, eo_none, eo_some, ec_none, ec_some, et_name, et_tup, et_tupl, et_sub, ets_nil, ets_cons, ei_seq, ei_rng1, ei_rng2, ei_zip, s_asg_, s_par_, s_ex_, s_ret_, s_retN_, s_ite_, ss_nil_, fin_rt, fin_nx, wipeD, lim, isK, testT, isNon, isAny, o_add, o_sub, o_mul, o_fdiv, o_mod, o_pow, o_addt, o_addl, o_mult, k_eq, k_ne, k_lt, k_le, k_gt, k_ge, k_isb, k_isn, k_isnn, k_eqb, k_eql, k_nel, k_in, k_nin, g_tup_, g_lst_, g_frz_, g_cel_, sl_tup_, sl_lst_, sl_frz_, sq_tup, sq_lst, zp_tup, n_lent, n_lenl, n_lenf, n_abs, n_int, n_intb, n_max, n_min, n_sum, n_tupl, n_tupt, n_tupc, n_all, n_any, n_gcd, n_isi, n_isit, y_int, y_bl, y_tup, y_lst, y_non, q_app, List.getElem?_cons_zero, List.getElem?_cons_succ, List.getElem?_nil, List.set_cons_zero, List.set_cons_succ, Option.bind_some, Option.map_some, Option.bind_none, List.length_cons, List.length_nil, Bool.false_eq_true, if_true, if_false, List.nil_append, List.cons_append, P_get, p1.1, due0.1, u1', u2.1, due1', l2]
  · cases nm <;> simp only [e_var, e_non, e_bl, e_int, e_str, e_ty, e_glob, e_op, e_neg, e_cmp, e_chn, e_bop, e_not, e_ife, e_tup, e_lst, e_ix, e_sl, e_cl, e_ck, e_bt, e_mt, eb_one, eb_cons, es_nil, es_cons, eo_none, eo_some, ec_none, ec_some, et_name, et_tup, et_tupl, et_sub, ets_nil, ets_cons, ei_seq, ei_rng1, ei_rng2, ei_zip, s_asg_, s_par_, s_ex_, s_ret_, s_retN_, s_ite_, ss_nil_, fin_rt, fin_nx, wipeD, lim, isK, testT, isNon, isAny, o_add, o_sub, o_mul, o_fdiv, o_mod, o_pow, o_addt, o_addl, o_mult, k_eq, k_ne, k_lt, k_le, k_gt, k_ge, k_isb, k_isn, k_isnn, k_eqb, k_eql, k_nel, k_in, k_nin, g_tup_, g_lst_, g_frz_, g_cel_, sl_tup_, sl_lst_, sl_frz_, sq_tup, sq_lst, zp_tup, n_lent, n_lenl, n_lenf, n_abs, n_int, n_intb, n_max, n_min, n_sum, n_tupl, n_tupt, n_tupc, n_all, n_any, n_gcd, n_isi, n_isit, y_int, y_bl, y_tup, y_lst, y_non, q_app, List.getElem?_cons_zero, List.getElem?_cons_succ, List.getElem?_nil, List.set_cons_zero, List.set_cons_succ, Option.bind_some, Option.map_some, Option.bind_none, List.length_cons, List.length_nil, Bool.false_eq_true, if_true, if_false, List.nil_append, List.cons_append, pm10, k1.1, k2.1]
  · simp only [e_var, e_non, e_bl, e_int, e_str, e_ty, e_glob, e_op, e_neg, e_cmp, e_chn, e_bop, e_not, e_ife, e_tup, e_lst, e_ix, e_sl, e_cl, e_ck, e_bt, e_mt, eb_one, eb_cons, es_nil, es_cons, eo_none, eo_some, ec_none, ec_some, et_name, et_tup, et_tupl, et_sub, ets_nil, ets_cons, ei_seq, ei_rng1, ei_rng2, ei_zip, s_asg_, s_par_, s_ex_, s_ret_, s_retN_, s_ite_, ss_nil_, fin_rt, fin_nx, wipeD, lim, isK, testT, isNon, isAny, o_add, o_sub, o_mul, o_fdiv, o_mod, o_pow, o_addt, o_addl, o_mult, k_eq, k_ne, k_lt, k_le, k_gt, k_ge, k_isb, k_isn, k_isnn, k_eqb, k_eql, k_nel, k_in, k_nin, g_tup_, g_lst_, g_frz_, g_cel_, sl_tup_, sl_lst_, sl_frz_, sq_tup, sq_lst, zp_tup, n_lent, n_lenl, n_lenf, n_abs, n_int, n_intb, n_max, n_min, n_sum, n_tupl, n_tupt, n_tupc, n_all, n_any, n_gcd, n_isi, n_isit, y_int, y_bl, y_tup, y_lst, y_non, q_app, List.getElem?_cons_zero, List.getElem?_cons_succ, List.getElem?_nil, List.set_cons_zero, List.set_cons_succ, Option.bind_some, Option.map_some, Option.bind_none, List.length_cons, List.length_nil, Bool.false_eq_true, if_true, if_false, List.nil_append, List.cons_append, P_get, q1.1, own', l2]
  · simp only [e_var, e_non, e_bl, e_int, e_str, e_ty, e_glob, e_op, e_neg, e_cmp, e_chn, e_bop, e_not, e_ife, e_tup, e_lst, e_ix, e_sl, e_cl, e_ck, e_bt, e_mt, eb_one, eb_cons, es_nil, es_cons, eo_none, eo_some, ec_none, ec_some, et_name, et_tup, et_tupl, et_sub, ets_nil, ets_cons, ei_seq, ei_rng1, ei_rng2, ei_zip, s_asg_, s_par_, s_ex_, s_ret_, s_retN_, s_ite_, ss_nil_, fin_rt, fin_nx, wipeD, lim, isK, testT, isNon, isAny, o_add, o_sub, o_mul, o_fdiv, o_mod, o_pow, o_addt, o_addl, o_mult, k_eq, k_ne, k_lt, k_le, k_gt, k_ge, k_isb, k_isn, k_isnn, k_eqb, k_eql, k_nel, k_in, k_nin, g_tup_, g_lst_, g_frz_, g_cel_, sl_tup_, sl_lst_, sl_frz_, sq_tup, sq_lst, zp_tup, n_lent, n_lenl, n_lenf, n_abs, n_int, n_intb, n_max, n_min, n_sum, n_tupl, n_tupt, n_tupc, n_all, n_any, n_gcd, n_isi, n_isit, y_int, y_bl, y_tup, y_lst, y_non, q_app, List.getElem?_cons_zero, List.getElem?_cons_succ, List.getElem?_nil, List.set_cons_zero, List.set_cons_succ, Option.bind_some, Option.map_some, Option.bind_none, List.length_cons, List.length_nil, Bool.false_eq_true, if_true, if_false, List.nil_append, List.cons_append, e1, e2, f0]
end K03

set_option Elab.async false
set_option linter.all false
set_option maxRecDepth 100000
set_option maxHeartbeats 2000000
/-! k03: the law. -/
namespace K03
open PySem L2 Py
abbrev sizeBody : Ss := (.cons (.asg (.tup (.cons (.name 5) (.cons (.name 6) .nil))) (.cl f__law_drawn_side (.cons (.var 2) (.cons (.var 4) .nil)))) (.cons (.asg (.name 7) (.cp false (.cl f__law_any_point (.cons (.var 2) (.cons (.var 4) (.cons (.int 4) (.cons (.bl false) .nil))))) (.name 8) (.rng1 (.int 3)) .none [8])) (.cons (.ite (.not (.cl f__law_same (.cons (.ife (.var 3) (.ck f_side_of .nil (.cons (.var 5) .nil) [0]) (.cl f_side_of (.cons (.var 5) .nil))) (.cons (.var 6) .nil)))) (.cons (.ret (.bl false)) .nil) .nil) (.cons (.ite (.bop false (.cons (.not (.cl f__law_way_right (.cons (.var 2) (.cons (.var 4) (.cons (.var 6) (.cons (.ix (.var 7) (.int 0)) (.cons (.ix (.var 7) (.int 1)) (.cons (.var 3) .nil)))))))) (.cons (.not (.cl f__law_way_right (.cons (.var 2) (.cons (.var 4) (.cons (.var 6) (.cons (.ix (.var 7) (.int 2)) (.cons (.ix (.var 7) (.int 0)) (.cons (.not (.var 3)) .nil)))))))) .nil))) (.cons (.ret (.bl false)) .nil) .nil) (.cons (.ite (.bop false (.cons (.not (.cl f__law_pushed_right (.cons (.var 2) (.cons (.var 4) (.cons (.var 6) (.cons (.ix (.var 7) (.int 1)) (.cons (.ix (.var 7) (.int 2)) (.cons (.var 3) .nil)))))))) (.cons (.not (.cl f__law_parts_right (.cons (.var 2) (.cons (.ix (.var 7) (.int 0)) (.cons (.ix (.var 7) (.int 1)) (.cons (.ix (.var 7) (.int 2)) (.cons (.var 3) .nil))))))) .nil))) (.cons (.ret (.bl false)) .nil) .nil) (.cons (.asg (.name 3) (.not (.var 3))) .nil))))))
abbrev lawBody : Ss := (.cons (.asg (.name 2) (.cl f__law_box (.cons (.cl f__law_cell (.cons (.var 0) (.cons (.var 1) .nil))) .nil))) (.cons (.asg (.name 3) (.cmp .eq (.cl f__law_take (.cons (.var 2) (.cons (.int 2) .nil))) (.int 0))) (.cons (.for_ (.name 4) (.seq (.tup (.cons (.int 2) (.cons (.int 3) .nil)))) (.cons (.asg (.tup (.cons (.name 5) (.cons (.name 6) .nil))) (.cl f__law_drawn_side (.cons (.var 2) (.cons (.var 4) .nil)))) (.cons (.asg (.name 7) (.cp false (.cl f__law_any_point (.cons (.var 2) (.cons (.var 4) (.cons (.int 4) (.cons (.bl false) .nil))))) (.name 8) (.rng1 (.int 3)) .none [8])) (.cons (.ite (.not (.cl f__law_same (.cons (.ife (.var 3) (.ck f_side_of .nil (.cons (.var 5) .nil) [0]) (.cl f_side_of (.cons (.var 5) .nil))) (.cons (.var 6) .nil)))) (.cons (.ret (.bl false)) .nil) .nil) (.cons (.ite (.bop false (.cons (.not (.cl f__law_way_right (.cons (.var 2) (.cons (.var 4) (.cons (.var 6) (.cons (.ix (.var 7) (.int 0)) (.cons (.ix (.var 7) (.int 1)) (.cons (.var 3) .nil)))))))) (.cons (.not (.cl f__law_way_right (.cons (.var 2) (.cons (.var 4) (.cons (.var 6) (.cons (.ix (.var 7) (.int 2)) (.cons (.ix (.var 7) (.int 0)) (.cons (.not (.var 3)) .nil)))))))) .nil))) (.cons (.ret (.bl false)) .nil) .nil) (.cons (.ite (.bop false (.cons (.not (.cl f__law_pushed_right (.cons (.var 2) (.cons (.var 4) (.cons (.var 6) (.cons (.ix (.var 7) (.int 1)) (.cons (.ix (.var 7) (.int 2)) (.cons (.var 3) .nil)))))))) (.cons (.not (.cl f__law_parts_right (.cons (.var 2) (.cons (.ix (.var 7) (.int 0)) (.cons (.ix (.var 7) (.int 1)) (.cons (.ix (.var 7) (.int 2)) (.cons (.var 3) .nil))))))) .nil))) (.cons (.ret (.bl false)) .nil) .nil) (.cons (.asg (.name 3) (.not (.var 3))) .nil))))))) .nil)))
theorem pm0 {x : D} : List.mapM (fun i => ([x] : List D)[i]?) [0] = some [x] := rfl
theorem three {Q : D → Prop} : ∀ ds : List D, ds.length = 3 → (∀ d ∈ ds, Q d) → ∃ x y z, ds = [x, y, z] ∧ Q x ∧ Q y ∧ Q z
  | [x, y, z], _, h => ⟨x, y, z, rfl, h x (by simp), h y (by simp), h z (by simp)⟩
theorem l_size (n : Nat) (hn : 20 ≤ n) (size : Nat) (hsz : size = 2 ∨ size = 3) (s0 s1 : Option D) (H : Hs) (i : Nat) (hi : i < H.length) (B : List D) (t : Nat) (hB : Bx B t) (ht : t + 100 < 2 ^ 30) (nm : Bool) (v5 v6 v7 v8 : Option D) :
    ∃ w5 w6 w7 w8 B', evSs (evF FT gl n) gl sizeBody [s0, s1, some (.cel i), some (.bl nm), some (.int size), v5, v6, v7, v8] (H.set i B) = some (.nx [s0, s1, some (.cel i), some (.bl (!nm)), some (.int size), w5, w6, w7, w8] (H.set i B')) ∧ Bx B' (t + 40) := by
  obtain ⟨as, c, B1, e1, la, aa, sa, sc, b1⟩ := r_drawn size hsz H i B t hi hB (by omega) n (by omega)
  obtain ⟨_, _, sd⟩ := sd_div (by omega) aa sa sc
  have hside := r_side_of as c (by omega) aa sa sc (by decide) (by decide)
  generalize hA : as.map (· / (gcdL (as ++ [c]) : Int)) = as2 at *
  generalize hC : c / (gcdL (as ++ [c]) : Int) = c2 at *
  have la2 : as2.length = size := by rw [← hA]; simpa using la
  obtain ⟨ds, B2, e2, l2, q2, b2⟩ := cp_cell (cl := evF FT gl n) (gl := gl) (Bx := Bx) (Q := fun d => ∃ cs, d = pt cs ∧ Ok cs 6 ∧ cs.length = size) (T := t + 30) (c := 4) (h := H) (i := i) (σ := [s0, s1, some (.cel i), some (.bl nm), some (.int size), some (P as c), some (P as2 c2), v7, v8]) (ce := (.cl f__law_any_point (.cons (.var 2) (.cons (.var 4) (.cons (.int 4) (.cons (.bl false) .nil)))))) (t := .name 8) (own := [8]) (it := .rng1 (.int 3)) (xs := rngL 0 3) (mu := false) (B := B1) (t0 := t + 10)
    (ei_rng1n (n := 3) (by simp only [e_var, e_non, e_bl, e_int, e_str, e_ty, e_glob, e_op, e_neg, e_cmp, e_chn, e_bop, e_not, e_ife, e_tup, e_lst, e_ix, e_sl, e_cl, e_ck, e_bt, e_mt, eb_one, eb_cons, es_nil, es_cons, eo_none, eo_some, ec_none, ec_some, et_name, et_tup, et_tupl, et_sub, ets_nil, ets_cons, ei_seq, ei_rng1, ei_rng2, ei_zip, s_asg_, s_par_, s_ex_, s_ret_, s_retN_, s_ite_, ss_nil_, fin_rt, fin_nx, wipeD, lim, isK, testT, isNon, isAny, o_add, o_sub, o_mul, o_fdiv, o_mod, o_pow, o_addt, o_addl, o_mult, k_eq, k_ne, k_lt, k_le, k_gt, k_ge, k_isb, k_isn, k_isnn, k_eqb, k_eql, k_nel, k_in, k_nin, g_tup_, g_lst_, g_frz_, g_cel_, sl_tup_, sl_lst_, sl_frz_, sq_tup, sq_lst, zp_tup, n_lent, n_lenl, n_lenf, n_abs, n_int, n_intb, n_max, n_min, n_sum, n_tupl, n_tupt, n_tupc, n_all, n_any, n_gcd, n_isi, n_isit, y_int, y_bl, y_tup, y_lst, y_non, q_app, List.getElem?_cons_zero, List.getElem?_cons_succ, List.getElem?_nil, List.set_cons_zero, List.set_cons_succ, Option.bind_some, Option.map_some, Option.bind_none, List.length_cons, List.length_nil, Bool.false_eq_true, if_true, if_false, List.nil_append, List.cons_append]; rfl) (by decide)) (by simp [rngL, lim]) (by
      intro x hx B3 t3 b3 ht3
      obtain ⟨cs, B4, e4, o4, l4, b4⟩ := r_anyp size (by omega) H i B3 t3 hi b3 (by omega) n (by omega)
      refine ⟨_, pt cs, B4, et_name, ?_, ⟨cs, rfl, o4, l4⟩, b4⟩
      simp only [e_var, e_non, e_bl, e_int, e_str, e_ty, e_glob, e_op, e_neg, e_cmp, e_chn, e_bop, e_not, e_ife, e_tup, e_lst, e_ix, e_sl, e_cl, e_ck, e_bt, e_mt, eb_one, eb_cons, es_nil, es_cons, eo_none, eo_some, ec_none, ec_some, et_name, et_tup, et_tupl, et_sub, ets_nil, ets_cons, ei_seq, ei_rng1, ei_rng2, ei_zip, s_asg_, s_par_, s_ex_, s_ret_, s_retN_, s_ite_, ss_nil_, fin_rt, fin_nx, wipeD, lim, isK, testT, isNon, isAny, o_add, o_sub, o_mul, o_fdiv, o_mod, o_pow, o_addt, o_addl, o_mult, k_eq, k_ne, k_lt, k_le, k_gt, k_ge, k_isb, k_isn, k_isnn, k_eqb, k_eql, k_nel, k_in, k_nin, g_tup_, g_lst_, g_frz_, g_cel_, sl_tup_, sl_lst_, sl_frz_, sq_tup, sq_lst, zp_tup, n_lent, n_lenl, n_lenf, n_abs, n_int, n_intb, n_max, n_min, n_sum, n_tupl, n_tupt, n_tupc, n_all, n_any, n_gcd, n_isi, n_isit, y_int, y_bl, y_tup, y_lst, y_non, q_app, List.getElem?_cons_zero, List.getElem?_cons_succ, List.getElem?_nil, List.set_cons_zero, List.set_cons_succ, Option.bind_some, Option.map_some, Option.bind_none, List.length_cons, List.length_nil, Bool.false_eq_true, if_true, if_false, List.nil_append, List.cons_append, e4]) b1 (by simp [rngL])
  obtain ⟨x, y, z, rfl, ⟨pa, rfl, oa, la'⟩, ⟨pb, rfl, ob, lb'⟩, ⟨pc, rfl, oc, lc'⟩⟩ := three ds (by simpa [rngL] using l2) q2
  have b2 := b2.mono (u := t + 22) (by simp [rngL])
  have hls : size = 2 ∨ size = 3 := hsz
  obtain ⟨B3, e3, b3⟩ := r_way size H i B2 (t + 22) nm as2 c2 pa pb hi b2 (by omega) sd oa ob (by omega) (by omega) n (by omega)
  obtain ⟨B4, e4, b4⟩ := r_way size H i B3 (t + 22 + 4) (!nm) as2 c2 pc pa hi b3 (by omega) sd oc oa (by omega) (by omega) n (by omega)
  obtain ⟨B5, e5, b5⟩ := r_pushed H i B4 (t + 22 + 4 + 4) nm as2 c2 pb pc hi b4 (by omega) sd ob oc (by omega) (by omega) n (by omega)
  obtain ⟨B6, e6, b6⟩ := r_parts H i B5 (t + 22 + 4 + 4 + 2) nm pa pb pc hi b5 (by omega) oa ob oc (by omega) (by omega) (by omega) n (by omega)
  rw [la2] at e5
  have sm := r_same (H.set i B2) 1 (P as2 c2) (same_P as2 c2 (by omega) 0) n (by omega)
  have sd' := hside (H.set i B2) n (by omega)
  refine ⟨some (P as c), some (P as2 c2), some (.lst [pt pa, pt pb, pt pc]), v8, B6, ?_, b6.mono (by omega)⟩
  rw [sizeBody,
    ss_nx (σ' := [s0, s1, some (.cel i), some (.bl nm), some (.int size), some (P as c), some (P as2 c2), v7, v8]) (h' := H.set i B1),
    ss_nx (σ' := [s0, s1, some (.cel i), some (.bl nm), some (.int size), some (P as c), some (P as2 c2), some (.lst [pt pa, pt pb, pt pc]), v8]) (h' := H.set i B2),
    ss_nx (σ' := [s0, s1, some (.cel i), some (.bl nm), some (.int size), some (P as c), some (P as2 c2), some (.lst [pt pa, pt pb, pt pc]), v8]) (h' := H.set i B2),
    ss_nx (σ' := [s0, s1, some (.cel i), some (.bl nm), some (.int size), some (P as c), some (P as2 c2), some (.lst [pt pa, pt pb, pt pc]), v8]) (h' := H.set i B4),
    ss_nx (σ' := [s0, s1, some (.cel i), some (.bl nm), some (.int size), some (P as c), some (P as2 c2), some (.lst [pt pa, pt pb, pt pc]), v8]) (h' := H.set i B6),
    ss_nx (σ' := [s0, s1, some (.cel i), some (.bl (!nm)), some (.int size), some (P as c), some (P as2 c2), some (.lst [pt pa, pt pb, pt pc]), v8]) (h' := H.set i B6),
    ss_nil_]
  · simp only [e_var, e_non, e_bl, e_int, e_str, e_ty, e_glob, e_op, e_neg, e_cmp, e_chn, e_bop, e_not, e_ife, e_tup, e_lst, e_ix, e_sl, e_cl, e_ck, e_bt, e_mt, eb_one, eb_cons, es_nil, es_cons, eo_none, eo_some, ec_none, ec_some, et_name, et_tup, et_tupl, et_sub, ets_nil, ets_cons, ei_seq, ei_rng1, ei_rng2, ei_zip, s_asg_, s_par_, s_ex_, s_ret_, s_retN_, s_ite_, ss_nil_, fin_rt, fin_nx, wipeD, lim, isK, testT, isNon, isAny, o_add, o_sub, o_mul, o_fdiv, o_mod, o_pow, o_addt, o_addl, o_mult, k_eq, k_ne, k_lt, k_le, k_gt, k_ge, k_isb, k_isn, k_isnn, k_eqb, k_eql, k_nel, k_in, k_nin, g_tup_, g_lst_, g_frz_, g_cel_, sl_tup_, sl_lst_, sl_frz_, sq_tup, sq_lst, zp_tup, n_lent, n_lenl, n_lenf, n_abs, n_int, n_intb, n_max, n_min, n_sum, n_tupl, n_tupt, n_tupc, n_all, n_any, n_gcd, n_isi, n_isit, y_int, y_bl, y_tup, y_lst, y_non, q_app, List.getElem?_cons_zero, List.getElem?_cons_succ, List.getElem?_nil, List.set_cons_zero, List.set_cons_succ, Option.bind_some, Option.map_some, Option.bind_none, List.length_cons, List.length_nil, Bool.false_eq_true, if_true, if_false, List.nil_append, List.cons_append]
  · simp only [e_var, e_non, e_bl, e_int, e_str, e_ty, e_glob, e_op, e_neg, e_cmp, e_chn, e_bop, e_not, e_ife, e_tup, e_lst, e_ix, e_sl, e_cl, e_ck, e_bt, e_mt, eb_one, eb_cons, es_nil, es_cons, eo_none, eo_some, ec_none, ec_some, et_name, et_tup, et_tupl, et_sub, ets_nil, ets_cons, ei_seq, ei_rng1, ei_rng2, ei_zip, s_asg_, s_par_, s_ex_, s_ret_, s_retN_, s_ite_, ss_nil_, fin_rt, fin_nx, wipeD, lim, isK, testT, isNon, isAny, o_add, o_sub, o_mul, o_fdiv, o_mod, o_pow, o_addt, o_addl, o_mult, k_eq, k_ne, k_lt, k_le, k_gt, k_ge, k_isb, k_isn, k_isnn, k_eqb, k_eql, k_nel, k_in, k_nin, g_tup_, g_lst_, g_frz_, g_cel_, sl_tup_, sl_lst_, sl_frz_, sq_tup, sq_lst, zp_tup, n_lent, n_lenl, n_lenf, n_abs, n_int, n_intb, n_max, n_min, n_sum, n_tupl, n_tupt, n_tupc, n_all, n_any, n_gcd, n_isi, n_isit, y_int, y_bl, y_tup, y_lst, y_non, q_app, List.getElem?_cons_zero, List.getElem?_cons_succ, List.getElem?_nil, List.set_cons_zero, List.set_cons_succ, Option.bind_some, Option.map_some, Option.bind_none, List.length_cons, List.length_nil, Bool.false_eq_true, if_true, if_false, List.nil_append, List.cons_append, at_0, at_1, at_2, e5, e6, Bool.not_true]
  · simp only [e_var, e_non, e_bl, e_int, e_str, e_ty, e_glob, e_op, e_neg, e_cmp, e_chn, e_bop, e_not, e_ife, e_tup, e_lst, e_ix, e_sl, e_cl, e_ck, e_bt, e_mt, eb_one, eb_cons, es_nil, es_cons, eo_none, eo_some, ec_none, ec_some, et_name, et_tup, et_tupl, et_sub, ets_nil, ets_cons, ei_seq, ei_rng1, ei_rng2, ei_zip, s_asg_, s_par_, s_ex_, s_ret_, s_retN_, s_ite_, ss_nil_, fin_rt, fin_nx, wipeD, lim, isK, testT, isNon, isAny, o_add, o_sub, o_mul, o_fdiv, o_mod, o_pow, o_addt, o_addl, o_mult, k_eq, k_ne, k_lt, k_le, k_gt, k_ge, k_isb, k_isn, k_isnn, k_eqb, k_eql, k_nel, k_in, k_nin, g_tup_, g_lst_, g_frz_, g_cel_, sl_tup_, sl_lst_, sl_frz_, sq_tup, sq_lst, zp_tup, n_lent, n_lenl, n_lenf, n_abs, n_int, n_intb, n_max, n_min, n_sum, n_tupl, n_tupt, n_tupc, n_all, n_any, n_gcd, n_isi, n_isit, y_int, y_bl, y_tup, y_lst, y_non, q_app, List.getElem?_cons_zero, List.getElem?_cons_succ, List.getElem?_nil, List.set_cons_zero, List.set_cons_succ, Option.bind_some, Option.map_some, Option.bind_none, List.length_cons, List.length_nil, Bool.false_eq_true, if_true, if_false, List.nil_append, List.cons_append, at_0, at_1, at_2, e3, e4, Bool.not_true]
  · cases nm <;> simp only [e_var, e_non, e_bl, e_int, e_str, e_ty, e_glob, e_op, e_neg, e_cmp, e_chn, e_bop, e_not, e_ife, e_tup, e_lst, e_ix, e_sl, e_cl, e_ck, e_bt, e_mt, eb_one, eb_cons, es_nil, es_cons, eo_none, eo_some, ec_none, ec_some, et_name, et_tup, et_tupl, et_sub, ets_nil, ets_cons, ei_seq, ei_rng1, ei_rng2, ei_zip, s_asg_, s_par_, s_ex_, s_ret_, s_retN_, s_ite_, ss_nil_, fin_rt, fin_nx, wipeD, lim, isK, testT, isNon, isAny, o_add, o_sub, o_mul, o_fdiv, o_mod, o_pow, o_addt, o_addl, o_mult, k_eq, k_ne, k_lt, k_le, k_gt, k_ge, k_isb, k_isn, k_isnn, k_eqb, k_eql, k_nel, k_in, k_nin, g_tup_, g_lst_, g_frz_, g_cel_, sl_tup_, sl_lst_, sl_frz_, sq_tup, sq_lst, zp_tup, n_lent, n_lenl, n_lenf, n_abs, n_int, n_intb, n_max, n_min, n_sum, n_tupl, n_tupt, n_tupc, n_all, n_any, n_gcd, n_isi, n_isit, y_int, y_bl, y_tup, y_lst, y_non, q_app, List.getElem?_cons_zero, List.getElem?_cons_succ, List.getElem?_nil, List.set_cons_zero, List.set_cons_succ, Option.bind_some, Option.map_some, Option.bind_none, List.length_cons, List.length_nil, Bool.false_eq_true, if_true, if_false, List.nil_append, List.cons_append, pm0, sd', sm, Bool.not_true]
  · have e2' : evE (evF FT gl n) gl (.cp false (.cl f__law_any_point (.cons (.var 2) (.cons (.var 4) (.cons (.int 4) (.cons (.bl false) .nil))))) (.name 8) (.rng1 (.int 3)) .none [8]) [s0, s1, some (.cel i), some (.bl nm), some (.int size), some (P as c), some (P as2 c2), v7, v8] (H.set i B1) = some (.lst [pt pa, pt pb, pt pc], H.set i B2) := e2
    rw [s_asg_, e2']
    simp only [e_var, e_non, e_bl, e_int, e_str, e_ty, e_glob, e_op, e_neg, e_cmp, e_chn, e_bop, e_not, e_ife, e_tup, e_lst, e_ix, e_sl, e_cl, e_ck, e_bt, e_mt, eb_one, eb_cons, es_nil, es_cons, eo_none, eo_some, ec_none, ec_some, et_name, et_tup, et_tupl, et_sub, ets_nil, ets_cons, ei_seq, ei_rng1, ei_rng2, ei_zip, s_asg_, s_par_, s_ex_, s_ret_, s_retN_, s_ite_, ss_nil_, fin_rt, fin_nx, wipeD, lim, isK, testT, isNon, isAny, o_add, o_sub, o_mul, o_fdiv, o_mod, o_pow, o_addt, o_addl, o_mult, k_eq, k_ne, k_lt, k_le, k_gt, k_ge, k_isb, k_isn, k_isnn, k_eqb, k_eql, k_nel, k_in, k_nin, g_tup_, g_lst_, g_frz_, g_cel_, sl_tup_, sl_lst_, sl_frz_, sq_tup, sq_lst, zp_tup, n_lent, n_lenl, n_lenf, n_abs, n_int, n_intb, n_max, n_min, n_sum, n_tupl, n_tupt, n_tupc, n_all, n_any, n_gcd, n_isi, n_isit, y_int, y_bl, y_tup, y_lst, y_non, q_app, List.getElem?_cons_zero, List.getElem?_cons_succ, List.getElem?_nil, List.set_cons_zero, List.set_cons_succ, Option.bind_some, Option.map_some, Option.bind_none, List.length_cons, List.length_nil, Bool.false_eq_true, if_true, if_false, List.nil_append, List.cons_append]
  · simp only [e_var, e_non, e_bl, e_int, e_str, e_ty, e_glob, e_op, e_neg, e_cmp, e_chn, e_bop, e_not, e_ife, e_tup, e_lst, e_ix, e_sl, e_cl, e_ck, e_bt, e_mt, eb_one, eb_cons, es_nil, es_cons, eo_none, eo_some, ec_none, ec_some, et_name, et_tup, et_tupl, et_sub, ets_nil, ets_cons, ei_seq, ei_rng1, ei_rng2, ei_zip, s_asg_, s_par_, s_ex_, s_ret_, s_retN_, s_ite_, ss_nil_, fin_rt, fin_nx, wipeD, lim, isK, testT, isNon, isAny, o_add, o_sub, o_mul, o_fdiv, o_mod, o_pow, o_addt, o_addl, o_mult, k_eq, k_ne, k_lt, k_le, k_gt, k_ge, k_isb, k_isn, k_isnn, k_eqb, k_eql, k_nel, k_in, k_nin, g_tup_, g_lst_, g_frz_, g_cel_, sl_tup_, sl_lst_, sl_frz_, sq_tup, sq_lst, zp_tup, n_lent, n_lenl, n_lenf, n_abs, n_int, n_intb, n_max, n_min, n_sum, n_tupl, n_tupt, n_tupc, n_all, n_any, n_gcd, n_isi, n_isit, y_int, y_bl, y_tup, y_lst, y_non, q_app, List.getElem?_cons_zero, List.getElem?_cons_succ, List.getElem?_nil, List.set_cons_zero, List.set_cons_succ, Option.bind_some, Option.map_some, Option.bind_none, List.length_cons, List.length_nil, Bool.false_eq_true, if_true, if_false, List.nil_append, List.cons_append, e1]
theorem l_law (n : Nat) (hn : 20 ≤ n) (ns : List Int) (all : List D) : ∀ (ks : List Nat) (h : Hs) (v1 v2 v3 v4 v5 v6 v7 v8 : Option D), (∀ k ∈ ks, k ≤ 100) →
    ∃ w1 w2 w3 w4 w5 w6 w7 w8 h', loopF (fun d σ h => evTg (evF FT gl n) gl (.name 1) d σ h) (fun σ h => evSs (evF FT gl n) gl lawBody σ h) none all (ks.map fun k => .int (k : Nat)) [some (.frz (ns.map D.int)), v1, v2, v3, v4, v5, v6, v7, v8] h = some (.nx [some (.frz (ns.map D.int)), w1, w2, w3, w4, w5, w6, w7, w8] h')
  | [], h, v1, v2, v3, v4, v5, v6, v7, v8, _ => ⟨v1, v2, v3, v4, v5, v6, v7, v8, h, lf_nil⟩
  | k :: ks, h, v1, v2, v3, v4, v5, v6, v7, v8, hk => by
    obtain ⟨v, hv⟩ := r_cell ns k (hk k List.mem_cons_self) h n (by omega)
    obtain ⟨B0, eb, b0⟩ := r_box v h n (by omega)
    have hi : h.length < (h ++ [B0]).length := by simp
    have hH : (h ++ [B0]).set h.length B0 = h ++ [B0] := by simp
    obtain ⟨d, B1, e1, ⟨d0, d1⟩, b1⟩ := r_take 2 (h ++ [B0]) h.length B0 0 hi b0 (by decide) (by decide) (by decide) n (by omega)
    rw [hH] at e1
    obtain ⟨x5, x6, x7, x8, B2, e2, b2⟩ := l_size n hn 2 (.inl rfl) (some (.frz (ns.map D.int))) (some (.int k)) (h ++ [B0]) h.length hi B1 1 b1 (by decide) (decide (d = 0)) v5 v6 v7 v8
    obtain ⟨y5, y6, y7, y8, B3, e3, b3⟩ := l_size n hn 3 (.inr rfl) (some (.frz (ns.map D.int))) (some (.int k)) (h ++ [B0]) h.length hi B2 (1 + 40) b2 (by decide) (!decide (d = 0)) x5 x6 x7 x8
    obtain ⟨w1, w2, w3, w4, w5, w6, w7, w8, h', ih⟩ := l_law n hn ns all ks ((h ++ [B0]).set h.length B3) (some (.int k)) (some (.cel h.length)) (some (.bl (!!decide (d = 0)))) (some (.int 3)) y5 y6 y7 y8 fun j hj => hk j (List.mem_cons_of_mem _ hj)
    refine ⟨w1, w2, w3, w4, w5, w6, w7, w8, h', ?_⟩
    have l2 : (0 + 1 + 1 : Nat) ≤ 100000 := by decide
    rw [List.map_cons, lf_cons et_name (σ2 := [some (.frz (ns.map D.int)), some (.int k), some (.cel h.length), some (.bl (!!decide (d = 0))), some (.int 3), y5, y6, y7, y8]) (h2 := (h ++ [B0]).set h.length B3), ih]
    rw [lawBody,
      ss_nx (σ' := [some (.frz (ns.map D.int)), some (.int k), some (.cel h.length), v3, v4, v5, v6, v7, v8]) (h' := h ++ [B0]),
      ss_nx (σ' := [some (.frz (ns.map D.int)), some (.int k), some (.cel h.length), some (.bl (decide (d = 0))), v4, v5, v6, v7, v8]) (h' := (h ++ [B0]).set h.length B1),
      ss_nx (σ' := [some (.frz (ns.map D.int)), some (.int k), some (.cel h.length), some (.bl (!!decide (d = 0))), some (.int 3), y5, y6, y7, y8]) (h' := (h ++ [B0]).set h.length B3), ss_nil_]
    · have hit : evIt (evF FT gl n) gl (.seq (.tup (.cons (.int 2) (.cons (.int 3) .nil)))) [some (.frz (ns.map D.int)), some (.int k), some (.cel h.length), some (.bl (decide (d = 0))), v4, v5, v6, v7, v8] ((h ++ [B0]).set h.length B1) = some ⟨[.int 2, .int 3], none, (h ++ [B0]).set h.length B1⟩ := by
        simp only [e_var, e_non, e_bl, e_int, e_str, e_ty, e_glob, e_op, e_neg, e_cmp, e_chn, e_bop, e_not, e_ife, e_tup, e_lst, e_ix, e_sl, e_cl, e_ck, e_bt, e_mt, eb_one, eb_cons, es_nil, es_cons, eo_none, eo_some, ec_none, ec_some, et_name, et_tup, et_tupl, et_sub, ets_nil, ets_cons, ei_seq, ei_rng1, ei_rng2, ei_zip, s_asg_, s_par_, s_ex_, s_ret_, s_retN_, s_ite_, ss_nil_, fin_rt, fin_nx, wipeD, lim, isK, testT, isNon, isAny, o_add, o_sub, o_mul, o_fdiv, o_mod, o_pow, o_addt, o_addl, o_mult, k_eq, k_ne, k_lt, k_le, k_gt, k_ge, k_isb, k_isn, k_isnn, k_eqb, k_eql, k_nel, k_in, k_nin, g_tup_, g_lst_, g_frz_, g_cel_, sl_tup_, sl_lst_, sl_frz_, sq_tup, sq_lst, zp_tup, n_lent, n_lenl, n_lenf, n_abs, n_int, n_intb, n_max, n_min, n_sum, n_tupl, n_tupt, n_tupc, n_all, n_any, n_gcd, n_isi, n_isit, y_int, y_bl, y_tup, y_lst, y_non, q_app, List.getElem?_cons_zero, List.getElem?_cons_succ, List.getElem?_nil, List.set_cons_zero, List.set_cons_succ, Option.bind_some, Option.map_some, Option.bind_none, List.length_cons, List.length_nil, Bool.false_eq_true, if_true, if_false, List.nil_append, List.cons_append, l2]
      rw [s_for_, hit, Option.bind_some]
      dsimp only
      have r := lf_cons (all := [.int 2, .int 3]) (bind := fun d σ h => evTg (evF FT gl n) gl (.name 4) d σ h) (run := fun σ h => evSs (evF FT gl n) gl sizeBody σ h) (x := .int 2) (xs := [.int 3]) (σ := [some (.frz (ns.map D.int)), some (.int k), some (.cel h.length), some (.bl (decide (d = 0))), v4, v5, v6, v7, v8]) (h := (h ++ [B0]).set h.length B1) et_name e2
      refine r.trans ?_
      have r2 := lf_cons (all := [.int 2, .int 3]) (bind := fun d σ h => evTg (evF FT gl n) gl (.name 4) d σ h) (run := fun σ h => evSs (evF FT gl n) gl sizeBody σ h) (x := .int 3) (xs := []) (σ := [some (.frz (ns.map D.int)), some (.int k), some (.cel h.length), some (.bl (!decide (d = 0))), some (.int 2), x5, x6, x7, x8]) (h := (h ++ [B0]).set h.length B2) et_name e3
      refine r2.trans ?_
      exact lf_nil
    · simp only [e_var, e_non, e_bl, e_int, e_str, e_ty, e_glob, e_op, e_neg, e_cmp, e_chn, e_bop, e_not, e_ife, e_tup, e_lst, e_ix, e_sl, e_cl, e_ck, e_bt, e_mt, eb_one, eb_cons, es_nil, es_cons, eo_none, eo_some, ec_none, ec_some, et_name, et_tup, et_tupl, et_sub, ets_nil, ets_cons, ei_seq, ei_rng1, ei_rng2, ei_zip, s_asg_, s_par_, s_ex_, s_ret_, s_retN_, s_ite_, ss_nil_, fin_rt, fin_nx, wipeD, lim, isK, testT, isNon, isAny, o_add, o_sub, o_mul, o_fdiv, o_mod, o_pow, o_addt, o_addl, o_mult, k_eq, k_ne, k_lt, k_le, k_gt, k_ge, k_isb, k_isn, k_isnn, k_eqb, k_eql, k_nel, k_in, k_nin, g_tup_, g_lst_, g_frz_, g_cel_, sl_tup_, sl_lst_, sl_frz_, sq_tup, sq_lst, zp_tup, n_lent, n_lenl, n_lenf, n_abs, n_int, n_intb, n_max, n_min, n_sum, n_tupl, n_tupt, n_tupc, n_all, n_any, n_gcd, n_isi, n_isit, y_int, y_bl, y_tup, y_lst, y_non, q_app, List.getElem?_cons_zero, List.getElem?_cons_succ, List.getElem?_nil, List.set_cons_zero, List.set_cons_succ, Option.bind_some, Option.map_some, Option.bind_none, List.length_cons, List.length_nil, Bool.false_eq_true, if_true, if_false, List.nil_append, List.cons_append, e1]
    · simp only [e_var, e_non, e_bl, e_int, e_str, e_ty, e_glob, e_op, e_neg, e_cmp, e_chn, e_bop, e_not, e_ife, e_tup, e_lst, e_ix, e_sl, e_cl, e_ck, e_bt, e_mt, eb_one, eb_cons, es_nil, es_cons, eo_none, eo_some, ec_none, ec_some, et_name, et_tup, et_tupl, et_sub, ets_nil, ets_cons, ei_seq, ei_rng1, ei_rng2, ei_zip, s_asg_, s_par_, s_ex_, s_ret_, s_retN_, s_ite_, ss_nil_, fin_rt, fin_nx, wipeD, lim, isK, testT, isNon, isAny, o_add, o_sub, o_mul, o_fdiv, o_mod, o_pow, o_addt, o_addl, o_mult, k_eq, k_ne, k_lt, k_le, k_gt, k_ge, k_isb, k_isn, k_isnn, k_eqb, k_eql, k_nel, k_in, k_nin, g_tup_, g_lst_, g_frz_, g_cel_, sl_tup_, sl_lst_, sl_frz_, sq_tup, sq_lst, zp_tup, n_lent, n_lenl, n_lenf, n_abs, n_int, n_intb, n_max, n_min, n_sum, n_tupl, n_tupt, n_tupc, n_all, n_any, n_gcd, n_isi, n_isit, y_int, y_bl, y_tup, y_lst, y_non, q_app, List.getElem?_cons_zero, List.getElem?_cons_succ, List.getElem?_nil, List.set_cons_zero, List.set_cons_succ, Option.bind_some, Option.map_some, Option.bind_none, List.length_cons, List.length_nil, Bool.false_eq_true, if_true, if_false, List.nil_append, List.cons_append, hv, eb]
theorem law_true (ns : List Int) (hns : ns.length ≤ 63) : ∃ h', evF FT gl 60 f_law [.frz (ns.map D.int)] [] = some (.bl true, h') := by
  obtain ⟨N, hN, hN'⟩ : ∃ N : Nat, (if (if (ns.length : Int) < 4 then (ns.length : Int) else 4) > 2 then (if (ns.length : Int) < 4 then (ns.length : Int) else 4) else 2) = (N : Int) ∧ N ≤ 4 := by
    refine ⟨max 2 (min 4 ns.length), ?_, by omega⟩
    split <;> split <;> omega
  obtain ⟨w1, w2, w3, w4, w5, w6, w7, w8, h', hl⟩ := l_law 59 (by decide) ns (rngL 0 N) (List.range N) [] none none none none none none none none (by intro k hk; have := List.mem_range.mp hk; omega)
  rw [← rngL_map] at hl
  refine ⟨h', ?_⟩
  have hit : evIt (evF FT gl 59) gl (.rng1 (.bt .max (.cons (.int 2) (.cons (.bt .min (.cons (.int 4) (.cons (.bt .len (.cons (.var 0) .nil)) .nil))) .nil)))) [some (.frz (ns.map D.int)), none, none, none, none, none, none, none, none] [] = some ⟨rngL 0 N, none, []⟩ := by
    refine ei_rng1n ?_ (by unfold lim; omega)
    simp only [e_var, e_non, e_bl, e_int, e_str, e_ty, e_glob, e_op, e_neg, e_cmp, e_chn, e_bop, e_not, e_ife, e_tup, e_lst, e_ix, e_sl, e_cl, e_ck, e_bt, e_mt, eb_one, eb_cons, es_nil, es_cons, eo_none, eo_some, ec_none, ec_some, et_name, et_tup, et_tupl, et_sub, ets_nil, ets_cons, ei_seq, ei_rng1, ei_rng2, ei_zip, s_asg_, s_par_, s_ex_, s_ret_, s_retN_, s_ite_, ss_nil_, fin_rt, fin_nx, wipeD, lim, isK, testT, isNon, isAny, o_add, o_sub, o_mul, o_fdiv, o_mod, o_pow, o_addt, o_addl, o_mult, k_eq, k_ne, k_lt, k_le, k_gt, k_ge, k_isb, k_isn, k_isnn, k_eqb, k_eql, k_nel, k_in, k_nin, g_tup_, g_lst_, g_frz_, g_cel_, sl_tup_, sl_lst_, sl_frz_, sq_tup, sq_lst, zp_tup, n_lent, n_lenl, n_lenf, n_abs, n_int, n_intb, n_max, n_min, n_sum, n_tupl, n_tupt, n_tupc, n_all, n_any, n_gcd, n_isi, n_isit, y_int, y_bl, y_tup, y_lst, y_non, q_app, List.getElem?_cons_zero, List.getElem?_cons_succ, List.getElem?_nil, List.set_cons_zero, List.set_cons_succ, Option.bind_some, Option.map_some, Option.bind_none, List.length_cons, List.length_nil, Bool.false_eq_true, if_true, if_false, List.nil_append, List.cons_append, List.length_map, hN]
  rw [run_g (n := 59) (F := ⟨1, 9, b_law, false⟩) [some (.frz (ns.map D.int)), none, none, none, none, none, none, none, none] rfl rfl rfl rfl, b_law, ss_nx (σ' := [some (.frz (ns.map D.int)), w1, w2, w3, w4, w5, w6, w7, w8]) (h' := h'), ss_rt (h' := h') (d := .bl true)]
  · exact fin_rt
  · simp only [e_var, e_non, e_bl, e_int, e_str, e_ty, e_glob, e_op, e_neg, e_cmp, e_chn, e_bop, e_not, e_ife, e_tup, e_lst, e_ix, e_sl, e_cl, e_ck, e_bt, e_mt, eb_one, eb_cons, es_nil, es_cons, eo_none, eo_some, ec_none, ec_some, et_name, et_tup, et_tupl, et_sub, ets_nil, ets_cons, ei_seq, ei_rng1, ei_rng2, ei_zip, s_asg_, s_par_, s_ex_, s_ret_, s_retN_, s_ite_, ss_nil_, fin_rt, fin_nx, wipeD, lim, isK, testT, isNon, isAny, o_add, o_sub, o_mul, o_fdiv, o_mod, o_pow, o_addt, o_addl, o_mult, k_eq, k_ne, k_lt, k_le, k_gt, k_ge, k_isb, k_isn, k_isnn, k_eqb, k_eql, k_nel, k_in, k_nin, g_tup_, g_lst_, g_frz_, g_cel_, sl_tup_, sl_lst_, sl_frz_, sq_tup, sq_lst, zp_tup, n_lent, n_lenl, n_lenf, n_abs, n_int, n_intb, n_max, n_min, n_sum, n_tupl, n_tupt, n_tupc, n_all, n_any, n_gcd, n_isi, n_isit, y_int, y_bl, y_tup, y_lst, y_non, q_app, List.getElem?_cons_zero, List.getElem?_cons_succ, List.getElem?_nil, List.set_cons_zero, List.set_cons_succ, Option.bind_some, Option.map_some, Option.bind_none, List.length_cons, List.length_nil, Bool.false_eq_true, if_true, if_false, List.nil_append, List.cons_append]
  · rw [s_for_, hit]
    exact hl
end K03

open PySem PySem.W PyProof.Rows
set_option maxHeartbeats 0 in
theorem PySem.Challenge.cw_polytopebench_k03_whole_excess_along_way_holds : PySem.Challenge.rw_polytopebench_k03_whole_excess_along_way.Holds := by
  w_on; o_law; k_head; (case hw => w_witness2)
  k_fill
  refine L2.walk_of (l := PySem.Challenge.rw_polytopebench_k03_whole_excess_along_way) (n := 63) (k := 60) (x := "script") (CX := fun _ => L2.CX0) (sp := fun w => Py.spL _) rfl (by decide) rfl ⟨rfl, by decide, by decide⟩ (fun w h Y => PySem.W.kIn_of Y) ?F (fun _ _ a ns hl hO hS => ⟨a, ns, rfl, Py.only_frz hO hS, hl, fun _ => rfl⟩) (fun _ _ _ _ _ h => h)
  case F =>
    intro w mg fa h KX G hmg
    refine' K03.fin K03.law_true KX G hmg (K03.top_mk (K03.at__law_box KX G ?a0 ?l0 ?c0 ?k0) (K03.at__law_cell KX G ?a1 ?l1 ?c1 ?k1) (K03.at__law_take KX G ?a2 ?l2 ?c2 ?k2) (K03.at__law_factor KX G ?a3 ?l3 ?c3 ?k3) (K03.at__law_side KX G ?a4 ?l4 ?c4 ?k4) (K03.at__law_drawn_side KX G ?a5 ?l5 ?c5 ?k5) (K03.at__law_point KX G ?a6 ?l6 ?c6 ?k6) (K03.at__law_any_point KX G ?a7 ?l7 ?c7 ?k7) (K03.at__law_same KX G ?a8 ?l8 ?c8 ?k8) (K03.at__law_low KX G ?a9 ?l9 ?c9 ?k9) (K03.at__law_plus KX G ?a10 ?l10 ?c10 ?k10) (K03.at__law_less KX G ?a11 ?l11 ?c11 ?k11) (K03.at__law_times KX G ?a12 ?l12 ?c12 ?k12) (K03.at_is_tuple KX G ?a13 ?l13 ?c13 ?k13) (K03.at_is_integer KX G ?a14 ?l14 ?c14 ?k14) (K03.at_are_integers KX G ?a15 ?l15 ?c15 ?k15) (K03.at_shared_factor KX G ?a16 ?l16 ?c16 ?k16) (K03.at_is_side_of KX G ?a17 ?l17 ?c17 ?k17) (K03.at_is_side KX G ?a18 ?l18 ?c18 ?k18) (K03.at_check_side KX G ?a19 ?l19 ?c19 ?k19) (K03.at_is_of_size KX G ?a20 ?l20 ?c20 ?k20) (K03.at_check_like KX G ?a21 ?l21 ?c21 ?k21) (K03.at_size_of KX G ?a22 ?l22 ?c22 ?k22) (K03.at_check_both KX G ?a23 ?l23 ?c23 ?k23) (K03.at_lowest KX G ?a24 ?l24 ?c24 ?k24) (K03.at_excess_of KX G ?a25 ?l25 ?c25 ?k25) (K03.at_excess KX G ?a26 ?l26 ?c26 ?k26) (K03.at__law_share KX G ?a27 ?l27 ?c27 ?k27) (K03.at_sign_of KX G ?a28 ?l28 ?c28 ?k28) (K03.at_standing KX G ?a29 ?l29 ?c29 ?k29) (K03.at_is_point KX G ?a30 ?l30 ?c30 ?k30) (K03.at_check_point KX G ?a31 ?l31 ?c31 ?k31) (K03.at_check_two KX G ?a32 ?l32 ?c32 ?k32) (K03.at_point_from KX G ?a33 ?l33 ?c33 ?k33) (K03.at_mixed KX G ?a34 ?l34 ?c34 ?k34) (K03.at_is_fraction KX G ?a35 ?l35 ?c35 ?k35) (K03.at_compared KX G ?a36 ?l36 ?c36 ?k36) (K03.at_between KX G ?a37 ?l37 ?c37 ?k37) (K03.at__law_sign KX G ?a38 ?l38 ?c38 ?k38) (K03.at__law_over KX G ?a39 ?l39 ?c39 ?k39) (K03.at_turned_side KX G ?a40 ?l40 ?c40 ?k40) (K03.at_opposite KX G ?a41 ?l41 ?c41 ?k41) (K03.at__law_at KX G ?a42 ?l42 ?c42 ?k42) (K03.at__law_places KX G ?a43 ?l43 ?c43 ?k43) (K03.at__law_mix KX G ?a44 ?l44 ?c44 ?k44) (K03.at__law_way_right KX G ?a45 ?l45 ?c45 ?k45) (K03.at_push_from KX G ?a46 ?l46 ?c46 ?k46) (K03.at_push_between KX G ?a47 ?l47 ?c47 ?k47) (K03.at_added KX G ?a48 ?l48 ?c48 ?k48) (K03.at_moved KX G ?a49 ?l49 ?c49 ?k49) (K03.at_check_fraction KX G ?a50 ?l50 ?c50 ?k50) (K03.at_stretched KX G ?a51 ?l51 ?c51 ?k51) (K03.at_scaled KX G ?a52 ?l52 ?c52 ?k52) (K03.at_places_in KX G ?a53 ?l53 ?c53 ?k53) (K03.at_places_of KX G ?a54 ?l54 ?c54 ?k54) (K03.at_from_places KX G ?a55 ?l55 ?c55 ?k55) (K03.at_point_at KX G ?a56 ?l56 ?c56 ?k56) (K03.at_middle KX G ?a57 ?l57 ?c57 ?k57) (K03.at__law_pushed_right KX G ?a58 ?l58 ?c58 ?k58) (K03.at__law_parts_right KX G ?a59 ?l59 ?c59 ?k59) (K03.at_side_from KX G ?a60 ?l60 ?c60 ?k60) (K03.at_side_of KX G ?a61 ?l61 ?c61 ?k61) (K03.at_law KX G ?a62 ?l62 ?c62 ?k62) (K03.bn_mk KX G ?z_abs ?z_all ?z_any ?z_bool ?z_dict ?z_int ?z_isinstance ?z_len ?z_list ?z_max ?z_min ?z_range ?z_str ?z_sum ?z_tuple ?z_zip) (K03.gcd_mk KX G ?zg) (K03.gl_mk KX G ?g_ONE ?gl_ONE ?g_ZERO ?gl_ZERO)) ?a ?l ?c ?k
    (case a0 => k_is); (case l0 => k_is); (case c0 => k_is); (case k0 => k_is)
    (case a1 => k_is); (case l1 => k_is); (case c1 => k_is); (case k1 => k_is)
    (case a2 => k_is); (case l2 => k_is); (case c2 => k_is); (case k2 => k_is)
    (case a3 => k_is); (case l3 => k_is); (case c3 => k_is); (case k3 => k_is)
    (case a4 => k_is); (case l4 => k_is); (case c4 => k_is); (case k4 => k_is)
    (case a5 => k_is); (case l5 => k_is); (case c5 => k_is); (case k5 => k_is)
    (case a6 => k_is); (case l6 => k_is); (case c6 => k_is); (case k6 => k_is)
    (case a7 => k_is); (case l7 => k_is); (case c7 => k_is); (case k7 => k_is)
    (case a8 => k_is); (case l8 => k_is); (case c8 => k_is); (case k8 => k_is)
    (case a9 => k_is); (case l9 => k_is); (case c9 => k_is); (case k9 => k_is)
    (case a10 => k_is); (case l10 => k_is); (case c10 => k_is); (case k10 => k_is)
    (case a11 => k_is); (case l11 => k_is); (case c11 => k_is); (case k11 => k_is)
    (case a12 => k_is); (case l12 => k_is); (case c12 => k_is); (case k12 => k_is)
    (case a13 => k_is); (case l13 => k_is); (case c13 => k_is); (case k13 => k_is)
    (case a14 => k_is); (case l14 => k_is); (case c14 => k_is); (case k14 => k_is)
    (case a15 => k_is); (case l15 => k_is); (case c15 => k_is); (case k15 => k_is)
    (case a16 => k_is); (case l16 => k_is); (case c16 => k_is); (case k16 => k_is)
    (case a17 => k_is); (case l17 => k_is); (case c17 => k_is); (case k17 => k_is)
    (case a18 => k_is); (case l18 => k_is); (case c18 => k_is); (case k18 => k_is)
    (case a19 => k_is); (case l19 => k_is); (case c19 => k_is); (case k19 => k_is)
    (case a20 => k_is); (case l20 => k_is); (case c20 => k_is); (case k20 => k_is)
    (case a21 => k_is); (case l21 => k_is); (case c21 => k_is); (case k21 => k_is)
    (case a22 => k_is); (case l22 => k_is); (case c22 => k_is); (case k22 => k_is)
    (case a23 => k_is); (case l23 => k_is); (case c23 => k_is); (case k23 => k_is)
    (case a24 => k_is); (case l24 => k_is); (case c24 => k_is); (case k24 => k_is)
    (case a25 => k_is); (case l25 => k_is); (case c25 => k_is); (case k25 => k_is)
    (case a26 => k_is); (case l26 => k_is); (case c26 => k_is); (case k26 => k_is)
    (case a27 => k_is); (case l27 => k_is); (case c27 => k_is); (case k27 => k_is)
    (case a28 => k_is); (case l28 => k_is); (case c28 => k_is); (case k28 => k_is)
    (case a29 => k_is); (case l29 => k_is); (case c29 => k_is); (case k29 => k_is)
    (case a30 => k_is); (case l30 => k_is); (case c30 => k_is); (case k30 => k_is)
    (case a31 => k_is); (case l31 => k_is); (case c31 => k_is); (case k31 => k_is)
    (case a32 => k_is); (case l32 => k_is); (case c32 => k_is); (case k32 => k_is)
    (case a33 => k_is); (case l33 => k_is); (case c33 => k_is); (case k33 => k_is)
    (case a34 => k_is); (case l34 => k_is); (case c34 => k_is); (case k34 => k_is)
    (case a35 => k_is); (case l35 => k_is); (case c35 => k_is); (case k35 => k_is)
    (case a36 => k_is); (case l36 => k_is); (case c36 => k_is); (case k36 => k_is)
    (case a37 => k_is); (case l37 => k_is); (case c37 => k_is); (case k37 => k_is)
    (case a38 => k_is); (case l38 => k_is); (case c38 => k_is); (case k38 => k_is)
    (case a39 => k_is); (case l39 => k_is); (case c39 => k_is); (case k39 => k_is)
    (case a40 => k_is); (case l40 => k_is); (case c40 => k_is); (case k40 => k_is)
    (case a41 => k_is); (case l41 => k_is); (case c41 => k_is); (case k41 => k_is)
    (case a42 => k_is); (case l42 => k_is); (case c42 => k_is); (case k42 => k_is)
    (case a43 => k_is); (case l43 => k_is); (case c43 => k_is); (case k43 => k_is)
    (case a44 => k_is); (case l44 => k_is); (case c44 => k_is); (case k44 => k_is)
    (case a45 => k_is); (case l45 => k_is); (case c45 => k_is); (case k45 => k_is)
    (case a46 => k_is); (case l46 => k_is); (case c46 => k_is); (case k46 => k_is)
    (case a47 => k_is); (case l47 => k_is); (case c47 => k_is); (case k47 => k_is)
    (case a48 => k_is); (case l48 => k_is); (case c48 => k_is); (case k48 => k_is)
    (case a49 => k_is); (case l49 => k_is); (case c49 => k_is); (case k49 => k_is)
    (case a50 => k_is); (case l50 => k_is); (case c50 => k_is); (case k50 => k_is)
    (case a51 => k_is); (case l51 => k_is); (case c51 => k_is); (case k51 => k_is)
    (case a52 => k_is); (case l52 => k_is); (case c52 => k_is); (case k52 => k_is)
    (case a53 => k_is); (case l53 => k_is); (case c53 => k_is); (case k53 => k_is)
    (case a54 => k_is); (case l54 => k_is); (case c54 => k_is); (case k54 => k_is)
    (case a55 => k_is); (case l55 => k_is); (case c55 => k_is); (case k55 => k_is)
    (case a56 => k_is); (case l56 => k_is); (case c56 => k_is); (case k56 => k_is)
    (case a57 => k_is); (case l57 => k_is); (case c57 => k_is); (case k57 => k_is)
    (case a58 => k_is); (case l58 => k_is); (case c58 => k_is); (case k58 => k_is)
    (case a59 => k_is); (case l59 => k_is); (case c59 => k_is); (case k59 => k_is)
    (case a60 => k_is); (case l60 => k_is); (case c60 => k_is); (case k60 => k_is)
    (case a61 => k_is); (case l61 => k_is); (case c61 => k_is); (case k61 => k_is)
    (case a62 => k_is); (case l62 => k_is); (case c62 => k_is); (case k62 => k_is)
    (case z_abs => k_is)
    (case z_all => k_is)
    (case z_any => k_is)
    (case z_bool => k_is)
    (case z_dict => k_is)
    (case z_int => k_is)
    (case z_isinstance => k_is)
    (case z_len => k_is)
    (case z_list => k_is)
    (case z_max => k_is)
    (case z_min => k_is)
    (case z_range => k_is)
    (case z_str => k_is)
    (case z_sum => k_is)
    (case z_tuple => k_is)
    (case z_zip => k_is)
    (case zg => k_is)
    (case g_ONE => k_is)
    (case gl_ONE => k_is)
    (case g_ZERO => k_is)
    (case gl_ZERO => k_is)
    (case a => k_is); (case l => k_is); (case c => k_is); (case k => k_is)
