import PyProof.Rows.All
import Wide.All
import OpenK.AllK
import Wide.FinOn
import HandS.ForMost
import HandS.IsInst
import HandS.TupAny
import HandS.Zip
import HandS.Wide
import HandS.WideBits
import HandS.Deep
import HandS.Defaults
import HandS.Flow
import HandS.Style
import KE.SortData
import HandS.TupMul
import PyProof.ReprRoads
import PyProof.CallFns
import KE.GoesMore
import KE.GoesEnum
import HandS.Ends
import HandS.HeadHook2
import HandS.Set
import HandS.SetFor
import HandS.Strs
import HandS.Conv
import HandS.Iter
import HandS.Codes
import HandS.Head0
import HandS.Head1
import HandS.Head2
import HandS.HeadEnd
import HandS.HeadHook1
import PySem.Challenge.RW_showbells_k55_whole_nothing_clears_more
set_option Elab.async false
set_option linter.all false
set_option maxRecDepth 100000
set_option maxHeartbeats 0
/-! Zm 1: the abstract machine: values, heap, the small language, its evaluation. -/
namespace Zm
open PySem L2

/-- a value: data by value, a tuple that holds a live object, a live object -/
inductive D where
  | py (p : PyData)
  | tup (xs : List D)
  | obj (l : Nat)
/-- a live object -/
inductive O where
  | dead
  | lst (xs : List D)
  | dct (kvs : List (PyData × D))
  | ins (c : Nat) (fs : List (Nat × D))
abbrev AH := List O
abbrev Sg := List (Option D)
inductive R (α : Type) where
  | ok (a : α) (h : AH)
  | stuck
def R.bind {α β : Type} : R α → (α → AH → R β) → R β
  | .ok a h, f => f a h
  | .stuck, _ => .stuck
@[simp] theorem R.bind_ok {α β : Type} (a : α) (h : AH) (f : α → AH → R β) : (R.ok a h).bind f = f a h := rfl
@[simp] theorem R.bind_stuck {α β : Type} (f : α → AH → R β) : (R.stuck : R α).bind f = .stuck := rfl

@[reducible] def D.i (n : Int) : D := .py (.int n)
@[reducible] def D.b (b : Bool) : D := .py (.bool b)
@[reducible] def D.non : D := .py .none

/-- all are data -/
def pys : List D → Option (List PyData)
  | [] => some []
  | .py p :: r => (match pys r with
    | some ps => some (p :: ps)
    | none => none)
  | _ :: _ => none
def mkTup (ds : List D) : D := match pys ds with
  | some ps => .py (.tuple ps)
  | none => .tup ds
/-- what a walk over it meets -/
def itemsOf (h : AH) : D → Option (List D)
  | .py (.tuple ps) => some (ps.map .py)
  | .py (.list ps) => some (ps.map .py)
  | .tup xs => some xs
  | .obj l => (match h[l]? with
    | some (.lst xs) => some xs
    | _ => none)
  | _ => none
/-- a datum by value -/
def toPy (h : AH) : D → Option PyData
  | .py p => some p
  | .obj l => (match h[l]? with
    | some (.lst xs) => (match pys xs with
      | some ps => some (.list ps)
      | none => none)
    | _ => none)
  | .tup _ => none

/-! ### operations on data -/
def lim : Nat := 1000000
def small (i : Int) : Bool := decide (-(2 ^ 64) < i) && decide (i < 2 ^ 64)
/-- xs[i], i of any sign -/
def pix (n : Nat) (i : Int) : Option Nat := L2.ixN n i
def binP : Operator → PyData → PyData → Option PyData
  | .Add, .int a, .int b => some (.int (a + b))
  | .Add, .str a, .str b => if a.length + b.length ≤ lim then some (.str (a ++ b)) else none
  | .Add, .tuple a, .tuple b => if a.length + b.length ≤ lim then some (.tuple (a ++ b)) else none
  | .Add, .list a, .list b => if a.length + b.length ≤ lim then some (.list (a ++ b)) else none
  | .Sub, .int a, .int b => some (.int (a - b))
  | .Mult, .int a, .int b => if small a then some (.int (a * b)) else none
  | .Mult, .list a, .int k => if decide (0 ≤ k) && decide (k ≤ 1000) && decide (a.length ≤ 1000) then some (.list (List.replicate k.toNat a).flatten) else none
  | .Mult, .tuple a, .int k => if decide (0 ≤ k) && decide (k ≤ 1000) && decide (a.length ≤ 1000) then some (.tuple (List.replicate k.toNat a).flatten) else none
  | .FloorDiv, .int a, .int b => if decide (0 < b) && decide (b < 1073741824) then some (.int (a / b)) else none
  | .Mod, .int a, .int b => if 0 < b then some (.int (a % b)) else none
  | .Pow, .int a, .int b => if small a && decide (0 ≤ b) && decide (b ≤ 1000) then some (.int (a ^ b.toNat)) else none
  | .RShift, .int a, .int b => if 0 ≤ b then some (.int (a / 2 ^ b.toNat)) else none
  | .BitAnd, .int a, .int b => some (.int (Builtin.bitAnd a b))
  | _, _, _ => none
def kindP : PyData → Nat
  | .none => 0
  | .bool _ => 1
  | .int _ => 2
  | .str _ => 3
  | .list _ => 4
  | .tuple _ => 5
  | .dict _ => 6
def shp (p : PyData) : Bool := SeqAt.shaped p
def cmpP : CmpOp → PyData → PyData → Option Bool
  | .Eq, a, b => if shp a && shp b then some (PyData.eqv a b) else none
  | .NotEq, a, b => if shp a && shp b then some (!PyData.eqv a b) else none
  | .Lt, .int a, .int b => some (decide (a < b))
  | .LtE, .int a, .int b => some (decide (a ≤ b))
  | .Gt, .int a, .int b => some (decide (b < a))
  | .GtE, .int a, .int b => some (decide (b ≤ a))
  | .Lt, .tuple a, .tuple b => if PySem.W.alike (.tuple a) (.tuple b) && decide ((PyData.tuple a).depth ≤ 64) && (!(PyData.tuple a).hasDict && !(PyData.tuple b).hasDict) then some (PySem.W.dataLt (.tuple a) (.tuple b)) else none
  | .Lt, .str a, .str b => some (decide (a.cps.toList < b.cps.toList))
  | .In, a, .tuple ps => if shp a && ps.all shp then some (ps.any fun z => PyData.eqv z a) else none
  | .In, a, .list ps => if shp a && ps.all shp then some (ps.any fun z => PyData.eqv z a) else none
  | .NotIn, a, .tuple ps => if shp a && ps.all shp then some (!ps.any fun z => PyData.eqv z a) else none
  | .NotIn, a, .list ps => if shp a && ps.all shp then some (!ps.any fun z => PyData.eqv z a) else none
  | .Is, .bool a, .bool b => some (decide (a = b))
  | .IsNot, .bool a, .bool b => some (!decide (a = b))
  | _, _, _ => none
def isNone : D → Bool
  | .py .none => true
  | _ => false
def cmpD (h : AH) (op : CmpOp) (a b : D) : Option Bool := match op, b with
  | .Is, .py .none => some (isNone a)
  | .IsNot, .py .none => some (!isNone a)
  | op, _ => (match toPy h a, toPy h b with
    | some p, some q => cmpP op p q
    | _, _ => none)
def binD (h : AH) (op : Operator) (a b : D) : Option D := match toPy h a, toPy h b with
  | some p, some q => (match binP op p q with
    | some r => some (.py r)
    | none => none)
  | _, _ => none
/-- a[i] -/
def idxP : PyData → Int → Option PyData
  | .tuple ps, i => L2.atI ps i
  | .list ps, i => L2.atI ps i
  | _, _ => none
def idxD (h : AH) (a : D) (i : D) : Option D := match i with
  | .py (.int n) => (match a with
    | .py p => (match idxP p n with
      | some q => some (.py q)
      | none => none)
    | .tup xs => L2.atI xs n
    | .obj l => (match h[l]? with
      | some (.lst xs) => L2.atI xs n
      | _ => none))
  | _ => none
def cutP {α : Type} (xs : List α) (lo hi : Option Int) : List α := (xs.drop (HT.sIx xs.length 0 lo)).take (HT.sIx xs.length xs.length hi - HT.sIx xs.length 0 lo)
/-- a part of a slice: a number -/
def partD : D → Option Int
  | .py (.int n) => some n
  | _ => none
def okI (n : Int) : Bool := decide (-(2 ^ 62) ≤ n) && decide (n < 2 ^ 62)
def sliP : PyData → Option Int → Option Int → Option PyData
  | .tuple ps, lo, hi => some (.tuple (cutP ps lo hi))
  | .list ps, lo, hi => some (.list (cutP ps lo hi))
  | _, _, _ => none
/-- the kinds that isinstance asks for -/
inductive Ty where
  | int | bool | str | list | tuple | dict
  deriving DecidableEq
def isP : Ty → PyData → Bool
  | .int, .int _ => true
  | .int, .bool _ => true
  | .bool, .bool _ => true
  | .str, .str _ => true
  | .list, .list _ => true
  | .tuple, .tuple _ => true
  | .dict, .dict _ => true
  | _, _ => false
def isD (h : AH) (t : Ty) : D → Option Bool
  | .py p => some (isP t p)
  | .tup _ => some (decide (t = .tuple))
  | .obj l => (match h[l]? with
    | some (.lst _) => some (decide (t = .list))
    | _ => none)
def bools : List PyData → Option (List Bool)
  | [] => some []
  | .bool b :: r => (match bools r with
    | some bs => some (b :: bs)
    | none => none)
  | _ :: _ => none
def intL : List PyData → Option (List Int)
  | [] => some []
  | .int b :: r => (match intL r with
    | some bs => some (b :: bs)
    | none => none)
  | _ :: _ => none
/-- built-in functions -/
inductive Bi where
  | len | all | any | sum | min | max | tuple | list | sorted | sset | divmod | int | repr
  deriving DecidableEq
/-- tuples, the first of them () -/
def headE : List PyData → Bool
  | .tuple [] :: r => r.all fun a => match a with
    | .tuple _ => true
    | _ => false
  | _ => false
/-- may be sorted -/
def sortOk (ps : List PyData) : Bool := (ps.all fun a => ps.all fun b => PySem.W.alike a b) && ((ps.all fun a => match a with
  | .tuple (_ :: _) => true
  | _ => false) || ((ps.all fun a => match a with
  | .tuple _ => false
  | .none => false
  | _ => true) || headE ps)) && (ps.all fun a => decide (a.depth ≤ 64))
def sortP (ps : List PyData) : List PyData := ps.mergeSort (PySem.W.dataLe false id)
def seqP : PyData → Option (List PyData)
  | .tuple ps => some ps
  | .list ps => some ps
  | _ => none
/-- one of each, the first of equal ones kept -/
def onceP : List PyData → List PyData
  | [] => []
  | p :: r => p :: (onceP r).filter fun q => !PyData.eqv q p
def biP : Bi → List PyData → Option PyData
  | .len, [.tuple ps] => some (.int ps.length)
  | .len, [.list ps] => some (.int ps.length)
  | .len, [.str s] => if s.length ≤ lim then some (.int s.length) else none
  | .all, [.list ps] => (bools ps).map fun bs => .bool (bs.all id)
  | .any, [.list ps] => (bools ps).map fun bs => .bool (bs.any id)
  | .sum, [.list ps] => (intL ps).map fun ns => .int ns.sum
  | .sum, [.tuple ps] => (intL ps).map fun ns => .int ns.sum
  | .min, [.int a, .int b] => some (.int (if b < a then b else a))
  | .max, [.int a, .int b] => some (.int (if b > a then b else a))
  | .max, [.list ps] => (match intL ps with
    | some (n :: ns) => some (.int (ns.foldl max n))
    | _ => none)
  | .min, [.list ps] => (match intL ps with
    | some (n :: ns) => some (.int (ns.foldl min n))
    | _ => none)
  | .tuple, [.tuple ps] => some (.tuple ps)
  | .tuple, [.list ps] => some (.tuple ps)
  | .list, [.tuple ps] => some (.list ps)
  | .list, [.list ps] => some (.list ps)
  | .sorted, [p] => (match seqP p with
    | some ps => if sortOk ps then some (.list (sortP ps)) else none
    | none => none)
  | .divmod, [.int a, .int b] => if decide (0 < b) && decide (b < 1073741824) then some (.tuple [.int (a / b), .int (a % b)]) else none
  | .int, [.bool b] => some (.int (if b then 1 else 0))
  | .int, [.int n] => some (.int n)
  | .repr, [p] => if p.showable && (!p.hasDict || isP .dict p) && decide (p.depth ≤ 64) && decide (p.shown.length ≤ lim) then some (.str p.shown) else none
  | _, _ => none
def insI (x : Int) : List Int → List Int
  | [] => [x]
  | y :: r => if x < y then x :: y :: r else if x = y then y :: r else y :: insI x r
/-- the members in order, one of each -/
def ssetI : List Int → List Int
  | [] => []
  | x :: r => insI x (ssetI r)
/-- sorted(set(xs)) -/
def ssetP : List PyData → Option PyData
  | [p] => (match seqP p with
    | some ps => (match intL ps with
      | some ns => if ns.length < 60 then some (.list ((ssetI ns).map .int)) else none
      | none => none)
    | none => none)
  | _ => none
def toPys (h : AH) : List D → Option (List PyData)
  | [] => some []
  | d :: r => (match toPy h d, toPys h r with
    | some p, some ps => some (p :: ps)
    | _, _ => none)
def biD (h : AH) (b : Bi) (ds : List D) : Option D := match toPys h ds with
  | some ps => (match biP b ps with
    | some q => some (.py q)
    | none => none)
  | none => none
/-- methods of live lists: the value, the new object -/
inductive Mt where
  | append
  deriving DecidableEq
def metO : Mt → O → List D → Option (D × O)
  | .append, .lst xs, [d] => if xs.length < lim then some (.non, .lst (xs ++ [d])) else none
  | _, _, _ => none

/-! ### the small language -/
inductive E where
  | nil
  | cons (a r : E)
  | var (i : Nat)
  | lit (p : PyData)
  | glb (x : Nat) (p : PyData)
  | bin (o : Operator) (a b : E)
  | neg (n : Int)
  | cmp (o : CmpOp) (a b : E)
  | cmp2 (o o' : CmpOp) (a b c : E)
  | conj (a b : E)
  | disj (a b : E)
  | inv (a : E)
  | ite (c a b : E)
  | tup (es : E)
  | lst (live : Bool) (es : E)
  | dct (kvs : List (PyData × PyData))
  | idx (a i : E)
  | sli (a lo hi : E)
  | none_
  | comp (own : List Nat) (elt tg it cond : E)
  | call (f : Nat) (es : E)
  | isi (a : E) (t : Ty)
  | bi (b : Bi) (es : E)
  | live (b : Bi) (es : E)
  | sset (es : E)
  | rep (a b : E)
  | addL (a b : E)
  | rev (a : E)
  | rngL (a : E)
  | rngT (a : E)
  | ixo (a b : E)
  | compN (own : List Nat) (elt tg it cond : E)
  | met (m : Mt) (o es : E)
  | frz (a : E)
  | rng1 (a : E)
  | rng2 (a b : E)
  | rng3 (a b c : E)
  | zip (a b : E)
  | enum (a : E)
inductive S where
  | nil
  | cons (a r : S)
  | asg (t e : E)
  | expr (e : E)
  | ret (e : E)
  | sif (c : E) (a b : S)
  | sfor (t it : E) (b : S)
  | swh (n : Nat) (c : E) (b : S)
  | raise
inductive Out where
  | nx (σ : Sg)
  | rt (d : D)
abbrev Orc := Nat → List D → AH → R D

def rO {α : Type} (h : AH) : Option α → R α
  | some a => .ok a h
  | none => .stuck
def asB : D → Option Bool
  | .py (.bool b) => some b
  | _ => none
/-- a comprehension's turns -/
def compL (asg : D → Sg → AH → R Sg) (cond elt : Sg → AH → R D) (σ : Sg) (ok : AH → Bool) : List D → AH → R (List D)
  | [], h => match ok h with
    | false => .stuck
    | true => .ok [] h
  | x :: xs, h => match ok h with
    | false => .stuck
    | true => (asg x σ h).bind fun σ1 h1 => (cond σ1 h1).bind fun c h2 => match c with
      | .py (.bool true) => (elt σ1 h2).bind fun y h3 => (compL asg cond elt σ ok xs h3).bind fun ys h4 => .ok (y :: ys) h4
      | .py (.bool false) => compL asg cond elt σ ok xs h2
      | _ => .stuck
def forL (asg : D → Sg → AH → R Sg) (body : Sg → AH → R Out) (ok : AH → Bool) : List D → Sg → AH → R Out
  | [], σ, h => match ok h with
    | false => .stuck
    | true => .ok (.nx σ) h
  | x :: xs, σ, h => match ok h with
    | false => .stuck
    | true => (asg x σ h).bind fun σ1 h1 => (body σ1 h1).bind fun o h2 => match o with
      | .nx σ2 => forL asg body ok xs σ2 h2
      | .rt d => .ok (.rt d) h2
def whL (c : Sg → AH → R D) (body : Sg → AH → R Out) : Nat → Sg → AH → R Out
  | 0, _, _ => .stuck
  | n + 1, σ, h => (c σ h).bind fun b h1 => match b with
    | .py (.bool true) => (body σ h1).bind fun o h2 => (match o with
      | .nx σ2 => whL c body n σ2 h2
      | .rt d => .ok (.rt d) h2)
    | .py (.bool false) => .ok (.nx σ) h1
    | _ => .stuck
def wipeS (σ : Sg) : List Nat → Sg
  | [] => σ
  | i :: r => (wipeS σ r).set i none
/-- what is walked: its items, the live list that it is -/
structure Src where
  xs : List D
  live : Option Nat
open Classical in
/-- the live list that is walked is as it was -/
noncomputable def okS (s : Src) (h : AH) : Bool := match s.live with
  | none => true
  | some l => decide (h[l]? = some (.lst s.xs))
def rangeL (lo : Int) : Nat → List D
  | 0 => []
  | n + 1 => .i lo :: rangeL (lo + 1) n
def zipD : List D → List D → List D
  | x :: xs, y :: ys => mkTup [x, y] :: zipD xs ys
  | _, _ => []
def enumD (k : Int) : List D → List D
  | [] => []
  | x :: xs => mkTup [.i k, x] :: enumD (k + 1) xs
def r62 (i : Int) : Bool := decide (-(2 ^ 62) ≤ i) && decide (i < 2 ^ 62)
def rng2S : D → D → Option Src
  | .py (.int m), .py (.int n) => if r62 m && r62 n then some ⟨rangeL m (n - m).toNat, none⟩ else none
  | _, _ => none
/-- how many steps -/
def rsz (m n c : Int) : Nat := if m < n then ((n - m - 1) / c + 1).toNat else 0
def rng3S : D → D → D → Option Src
  | .py (.int m), .py (.int n), .py (.int c) => if r62 m && r62 n && (decide (0 < c) && decide (c < 1073741824)) then some ⟨(List.range (rsz m n c)).map fun i => .i (m + (i : Nat) * c), none⟩ else none
  | _, _, _ => none
def zipS : D → D → Option Src
  | .py (.tuple ps), .py (.tuple qs) => some ⟨zipD (ps.map .py) (qs.map .py), none⟩
  | .py (.list ps), .py (.list qs) => some ⟨zipD (ps.map .py) (qs.map .py), none⟩
  | .py (.list ps), .py (.tuple qs) => some ⟨zipD (ps.map .py) (qs.map .py), none⟩
  | .py (.tuple ps), .py (.list qs) => some ⟨zipD (ps.map .py) (qs.map .py), none⟩
  | _, _ => none
def setIdx (h : AH) (o i v : D) : Option AH := match o, i with
  | .obj l, .py (.int n) => (match h[l]? with
    | some (.lst xs) => (match L2.ixN xs.length n with
      | some j => some (h.set l (.lst (xs.set j v)))
      | none => none)
    | _ => none)
  | _, _ => none
mutual
/-- the value -/
noncomputable def ev (C : Orc) : E → Sg → AH → R D
  | .var i, σ, h => (match σ[i]? with
    | some (some d) => .ok d h
    | _ => .stuck)
  | .lit p, _, h => .ok (.py p) h
  | .glb _ p, _, h => .ok (.py p) h
  | .neg n, _, h => .ok (.i (-n)) h
  | .bin o a b, σ, h => (ev C a σ h).bind fun x h1 => (ev C b σ h1).bind fun y h2 => rO h2 (binD h2 o x y)
  | .cmp o a b, σ, h => (ev C a σ h).bind fun x h1 => (ev C b σ h1).bind fun y h2 => rO h2 ((cmpD h2 o x y).map .b)
  | .cmp2 o o' a b c, σ, h => (ev C a σ h).bind fun x h1 => (ev C b σ h1).bind fun y h2 => match cmpD h2 o x y with
    | some true => (ev C c σ h2).bind fun z h3 => rO h3 ((cmpD h3 o' y z).map .b)
    | some false => .ok (.b false) h2
    | none => .stuck
  | .conj a b, σ, h => (ev C a σ h).bind fun x h1 => match x with
    | .py (.bool true) => ev C b σ h1
    | .py (.bool false) => .ok (.b false) h1
    | _ => .stuck
  | .disj a b, σ, h => (ev C a σ h).bind fun x h1 => match x with
    | .py (.bool false) => ev C b σ h1
    | .py (.bool true) => .ok (.b true) h1
    | _ => .stuck
  | .inv a, σ, h => (ev C a σ h).bind fun x h1 => match x with
    | .py (.bool b) => .ok (.b (!b)) h1
    | _ => .stuck
  | .ite c a b, σ, h => (ev C c σ h).bind fun x h1 => match x with
    | .py (.bool true) => ev C a σ h1
    | .py (.bool false) => ev C b σ h1
    | _ => .stuck
  | .tup es, σ, h => (evs C es σ h).bind fun ds h1 => .ok (mkTup ds) h1
  | .lst false es, σ, h => (evs C es σ h).bind fun ds h1 => (match pys ds with
    | some ps => .ok (.py (.list ps)) h1
    | none => .stuck)
  | .lst true es, σ, h => (evs C es σ h).bind fun ds h1 => .ok (.obj h1.length) (h1 ++ [.lst ds])
  | .dct kvs, _, h => .ok (.py (.dict kvs)) h
  | .idx a i, σ, h => (ev C a σ h).bind fun x h1 => (ev C i σ h1).bind fun y h2 => rO h2 (idxD h2 x y)
  | .sli a lo hi, σ, h => (ev C a σ h).bind fun x h1 => (evp C lo σ h1).bind fun u h2 => (evp C hi σ h2).bind fun v h3 =>
    (match toPy h3 x with
    | some p => rO h3 ((sliP p u v).map .py)
    | _ => .stuck)
  | .comp own elt tg it cond, σ, h => (evi C it σ h).bind fun sr h1 => (match decide (sr.xs.length ≤ lim) with
    | false => .stuck
    | true => (compL (asg C tg) (ev C cond) (ev C elt) (wipeS σ own) (okS sr) sr.xs h1).bind fun ys h2 => (match pys ys with
      | some ps => .ok (.py (.list ps)) h2
      | none => .stuck))
  | .call f es, σ, h => (evs C es σ h).bind fun ds h1 => C f ds h1
  | .isi a t, σ, h => (ev C a σ h).bind fun x h1 => rO h1 ((isD h1 t x).map .b)
  | .bi b es, σ, h => (evs C es σ h).bind fun ds h1 => rO h1 (biD h1 b ds)
  | .sset es, σ, h => (evs C es σ h).bind fun ds h1 => rO h1 (match toPys h1 ds with
    | some ps => (ssetP ps).map .py
    | none => none)
  | .live b es, σ, h => (evs C es σ h).bind fun ds h1 => (match biD h1 b ds with
    | some (.py (.list ps)) => .ok (.obj h1.length) (h1 ++ [.lst (ps.map .py)])
    | _ => .stuck)
  | .rep a b, σ, h => (ev C a σ h).bind fun x h1 => (ev C b σ h1).bind fun y h2 => (match binD h2 .Mult x y with
    | some (.py (.list ps)) => .ok (.obj h2.length) (h2 ++ [.lst (ps.map .py)])
    | _ => .stuck)
  | .addL a b, σ, h => (ev C a σ h).bind fun x h1 => (ev C b σ h1).bind fun y h2 => (match binD h2 .Add x y with
    | some (.py (.list ps)) => .ok (.obj h2.length) (h2 ++ [.lst (ps.map .py)])
    | _ => .stuck)
  | .rev a, σ, h => (ev C a σ h).bind fun x h1 => (match toPy h1 x with
    | some (.tuple ps) => .ok (.py (.tuple ps.reverse)) h1
    | some (.list ps) => .ok (.py (.list ps.reverse)) h1
    | _ => .stuck)
  | .rngL a, σ, h => (ev C a σ h).bind fun x h1 => (match x with
    | .py (.int n) => if decide (0 ≤ n) && decide (n ≤ 1000000) then .ok (.py (.list ((List.range n.toNat).map fun i => .int (i : Nat)))) h1 else .stuck
    | _ => .stuck)
  | .rngT a, σ, h => (ev C a σ h).bind fun x h1 => (match x with
    | .py (.int n) => if decide (0 ≤ n) && decide (n ≤ 1000000) then .ok (.py (.tuple ((List.range n.toNat).map fun i => .int (i : Nat)))) h1 else .stuck
    | _ => .stuck)
  | .ixo a b, σ, h => (ev C a σ h).bind fun x h1 => (ev C b σ h1).bind fun y h2 => (match x, y with
    | .py (.list ps), .py q => (match decide (shp (.list ps) = true ∧ shp q = true), ps.findIdx? (fun z => PyData.eqv z q) with
      | true, some j => .ok (.i (j : Nat)) h2
      | _, _ => .stuck)
    | _, _ => .stuck)
  | .compN own elt tg it cond, σ, h => (evi C it σ h).bind fun sr h1 => (match decide (sr.xs.length ≤ lim) with
    | false => .stuck
    | true => (compL (asg C tg) (ev C cond) (ev C elt) (wipeS σ own) (okS sr) sr.xs h1).bind fun ys h2 => .ok (.obj h2.length) (h2 ++ [.lst ys]))
  | .met m o es, σ, h => (ev C o σ h).bind fun x h1 => (match x with
    | .obj l => (match h1[l]? with
      | some (.lst _) => (evs C es σ h1).bind fun ds h2 => (match h2[l]? with
        | some ob => (match metO m ob ds with
          | some (v, ob') => .ok v (h2.set l ob')
          | none => .stuck)
        | none => .stuck)
      | _ => .stuck)
    | _ => .stuck)
  | .frz a, σ, h => (ev C a σ h).bind fun x h1 => (match x with
    | .obj l => (match h1[l]? with
      | some (.lst xs) => (match pys xs with
        | some ps => .ok (.py (.list ps)) (h1.set l .dead)
        | none => .stuck)
      | _ => .stuck)
    | _ => .stuck)
  | _, _, _ => .stuck
/-- a slice's part -/
noncomputable def evp (C : Orc) : E → Sg → AH → R (Option Int)
  | .none_, _, h => .ok none h
  | .cons a .nil, σ, h => (ev C a σ h).bind fun x h1 => (match partD x with
    | some n => .ok (some n) h1
    | none => .stuck)
  | _, _, _ => .stuck
/-- a row of values -/
noncomputable def evs (C : Orc) : E → Sg → AH → R (List D)
  | .nil, _, h => .ok [] h
  | .cons a r, σ, h => (ev C a σ h).bind fun x h1 => (evs C r σ h1).bind fun xs h2 => .ok (x :: xs) h2
  | _, _, _ => .stuck
/-- what a walk over it meets -/
noncomputable def evi (C : Orc) : E → Sg → AH → R Src
  | .rng1 a, σ, h => (ev C a σ h).bind fun x h1 => (match x with
    | .py (.int n) => if r62 n then .ok ⟨rangeL 0 n.toNat, none⟩ h1 else .stuck
    | _ => .stuck)
  | .rng2 a b, σ, h => (ev C a σ h).bind fun x h1 => (ev C b σ h1).bind fun y h2 => rO h2 (rng2S x y)
  | .rng3 a b c, σ, h => (ev C a σ h).bind fun x h1 => (ev C b σ h1).bind fun y h2 => (ev C c σ h2).bind fun z h3 => rO h3 (rng3S x y z)
  | .zip a b, σ, h => (ev C a σ h).bind fun x h1 => (ev C b σ h1).bind fun y h2 => rO h2 (zipS x y)
  | .enum a, σ, h => (ev C a σ h).bind fun x h1 => (match x with
    | .py p => (match seqP p with
      | some ps => .ok ⟨enumD 0 (ps.map .py), none⟩ h1
      | _ => .stuck)
    | _ => .stuck)
  | .cons a .nil, σ, h => (ev C a σ h).bind fun x h1 => (match x with
    | .py p => (match seqP p with
      | some ps => .ok ⟨ps.map .py, none⟩ h1
      | none => .stuck)
    | .tup xs => .ok ⟨xs, none⟩ h1
    | .obj l => (match h1[l]? with
      | some (.lst xs) => .ok ⟨xs, some l⟩ h1
      | _ => .stuck))
  | _, _, _ => .stuck
/-- a store -/
noncomputable def asg (C : Orc) : E → D → Sg → AH → R Sg
  | .var i, d, σ, h => .ok (σ.set i (some d)) h
  | .tup ts, d, σ, h => (match d with
    | .py (.tuple ps) => asgs C ts (ps.map .py) σ h
    | .tup xs => asgs C ts xs σ h
    | _ => .stuck)
  | .idx o i, d, σ, h => (ev C o σ h).bind fun x h1 => (ev C i σ h1).bind fun y h2 => (match setIdx h2 x y d with
    | some h3 => .ok σ h3
    | none => .stuck)
  | _, _, _, _ => .stuck
noncomputable def asgs (C : Orc) : E → List D → Sg → AH → R Sg
  | .nil, [], σ, h => .ok σ h
  | .cons t r, d :: ds, σ, h => (asg C t d σ h).bind fun σ1 h1 => asgs C r ds σ1 h1
  | _, _, _, _ => .stuck
end
noncomputable def ex (C : Orc) : S → Sg → AH → R Out
  | .nil, σ, h => .ok (.nx σ) h
  | .cons a r, σ, h => (ex C a σ h).bind fun o h1 => (match o with
    | .nx σ1 => ex C r σ1 h1
    | .rt d => .ok (.rt d) h1)
  | .asg t e, σ, h => (ev C e σ h).bind fun d h1 => (asg C t d σ h1).bind fun σ1 h2 => .ok (.nx σ1) h2
  | .expr e, σ, h => (ev C e σ h).bind fun _ h1 => .ok (.nx σ) h1
  | .ret e, σ, h => (ev C e σ h).bind fun d h1 => .ok (.rt d) h1
  | .sif c a b, σ, h => (ev C c σ h).bind fun x h1 => (match x with
    | .py (.bool true) => ex C a σ h1
    | .py (.bool false) => ex C b σ h1
    | _ => .stuck)
  | .sfor t it b, σ, h => (evi C it σ h).bind fun sr h1 => forL (asg C t) (ex C b) (okS sr) sr.xs σ h1
  | .swh n c b, σ, h => whL (ev C c) (ex C b) n σ h
  | .raise, _, _ => .stuck

/-! ### defs -/
/-- what is left of the heap when a def is left: all; what stood ahead; that and one new list -/
inductive Pol where
  | keep | pure | fresh
structure Fn where
  np : Nat
  ns : Nat
  body : S
  pol : Pol
/-- no live object is named -/
def plainO : O → Prop
  | .dead => True
  | .lst xs => ∃ ps : List PyData, xs = ps.map .py
  | .dct _ => False
  | .ins _ _ => False
/-- the old part: as it was, or plain -/
def Chg (h0 h1 : AH) : Prop := h1.length = h0.length ∧ ∀ i : Nat, h1[i]? = h0[i]? ∨ ∃ o, h1[i]? = some o ∧ plainO o
open Classical in
noncomputable def leave (pol : Pol) (h0 : AH) (d : D) (h1 : AH) : R D := match pol with
  | .keep => .ok d h1
  | .pure => (match d with
    | .py p => if Chg h0 (h1.take h0.length) then .ok (.py p) (h1.take h0.length) else .stuck
    | _ => .stuck)
  | .fresh => (match d with
    | .obj l => (match h1[l]? with
      | some (.lst xs) => (match pys xs with
        | some ps => if Chg h0 (h1.take h0.length) ∧ h0.length ≤ l then .ok (.obj h0.length) (h1.take h0.length ++ [.lst (ps.map .py)]) else .stuck
        | none => .stuck)
      | _ => .stuck)
    | _ => .stuck)
def initS (f : Fn) (ds : List D) : Sg := ds.map some ++ List.replicate (f.ns - ds.length) none
noncomputable def callN (F : List Fn) : Nat → Orc
  | 0, _, _, _ => .stuck
  | k + 1, f, ds, h => match F[f]? with
    | none => .stuck
    | some fn => if ds.length = fn.np then (ex (callN F k) fn.body (initS fn ds) h).bind fun o h1 => (match o with
        | .rt d => leave fn.pol h d h1
        | .nx _ => leave fn.pol h .non h1) else .stuck
end Zm
/-! Zm 2: how the machine's values stand for the model's. -/
namespace Zm
open PySem PySem.Spec PyProof.Rows L2

/-- what no step changes: tuples, what is known to the object -/
structure Ext (H H' : Hp) : Prop where
  tup : ∀ b xs, H b = some (.tup xs) → H' b = some (.tup xs)
  frz : ∀ b o u, H b = some (.frz o u) → H' b = some (.frz o u)
theorem Ext.refl (H : Hp) : Ext H H := ⟨fun _ _ h => h, fun _ _ _ h => h⟩
theorem Ext.trans {H H1 H2 : Hp} (a : Ext H H1) (b : Ext H1 H2) : Ext H H2 := ⟨fun x xs h => b.tup x xs (a.tup x xs h), fun x o u h => b.frz x o u (a.frz x o u h)⟩
theorem Ext.new {H : Hp} {p : Addr} {o : HO} (h : H p = none) : Ext H (upd H p o) :=
  ⟨fun a xs e => by rw [upd_ne (ne_of_none e h)]; exact e, fun a ob u e => by rw [upd_ne (ne_of_none e h)]; exact e⟩
/-- an object that may be written -/
theorem Ext.mut {H : Hp} {p : Addr} {o u : HO} (h : H p = some o) (ht : ∀ xs, o ≠ .tup xs) (hf : ∀ ob w, o ≠ .frz ob w) : Ext H (upd H p u) :=
  ⟨fun a xs e => by
    rw [upd_ne (ne_of e h fun z => ht xs z.symm)]
    exact e, fun a ob w e => by
    rw [upd_ne (ne_of e h fun z => hf ob w z.symm)]
    exact e⟩

/-- a list that stays as it is -/
def FzL (K : PySem.W.Frag) (H : Hp) (a : Addr) (xs : List V) : Prop := (∃ o, H a = some (.frz o (.lst xs))) ∨
  ∃ (its : Array Value) (n : Nat), K.lookup a = some { cls := .type "list", data := .seq its n } ∧ its.size ≤ sizeLine ∧ Vals xs its.toList
theorem FzL.sq {K : PySem.W.Frag} {H : Hp} {a : Addr} {xs : List V} (h : FzL K H a xs) : SqL K H a xs := by
  rcases h with ⟨o, h⟩ | h
  · exact .inl (.inr ⟨o, h⟩)
  · obtain ⟨its, n, h1, h2, h3⟩ := h
    exact .inr ⟨_, its, n, h1, rfl, rfl, rfl, h2, h3⟩
theorem FzL.ext {K : PySem.W.Frag} {H H' : Hp} {a : Addr} {xs : List V} (e : Ext H H') (h : FzL K H a xs) : FzL K H' a xs := by
  rcases h with ⟨o, h⟩ | h
  · exact .inl ⟨o, e.frz _ _ _ h⟩
  · exact .inr h
theorem sqt_ext {K : PySem.W.Frag} {H H' : Hp} {a : Addr} {xs : List V} (e : Ext H H') (h : SqT K H a xs) : SqT K H' a xs := by
  rcases h with (h | ⟨o, h⟩) | h
  · exact .inl (.inl (e.tup _ _ h))
  · exact .inl (.inr ⟨o, e.frz _ _ _ h⟩)
  · exact .inr h

/-- a value that is no object -/
def scV : PyData → Option V
  | .none => some .non
  | .bool b => some (.bl b)
  | .int i => some (.int i)
  | .str x => some (.str x)
  | _ => none
def dkK : PyData → Option Key
  | .int i => some (.inl i)
  | .str x => some (.inr x)
  | _ => none
/-- the pairs of a dict of such values -/
def dkV : List (PyData × PyData) → Option (List (Key × V))
  | [] => some []
  | p :: r => (match dkK p.1, scV p.2, dkV r with
    | some k, some v, some q => some ((k, v) :: q)
    | _, _, _ => none)
mutual
/-- data by value -/
inductive Dq (K : PySem.W.Frag) (H : Hp) : PyData → V → Prop
  | non : Dq K H .none .non
  | bl (b : Bool) : Dq K H (.bool b) (.bl b)
  | int (i : Int) : Dq K H (.int i) (.int i)
  | str (x : Str) : Dq K H (.str x) (.str x)
  | lst {a : Addr} {xs : List V} {ds : List PyData} : FzL K H a xs → DqA K H ds xs → Dq K H (.list ds) (.ref a)
  | tup {a : Addr} {xs : List V} {ds : List PyData} : SqT K H a xs → DqA K H ds xs → Dq K H (.tuple ds) (.ref a)
  | dct {a : Addr} {kvs : List (PyData × PyData)} {ks : List (Key × V)} : (∃ o, H a = some (.frz o (.dK ks))) → dkV kvs = some ks → Dq K H (.dict kvs) (.ref a)
inductive DqA (K : PySem.W.Frag) (H : Hp) : List PyData → List V → Prop
  | nil : DqA K H [] []
  | cons {v : V} {vs : List V} {d : PyData} {ds : List PyData} : Dq K H d v → DqA K H ds vs → DqA K H (d :: ds) (v :: vs)
end
mutual
theorem Dq.ext {K : PySem.W.Frag} {H H' : Hp} (e : Ext H H') : ∀ {d : PyData} {v : V}, Dq K H d v → Dq K H' d v
  | _, _, .non => .non
  | _, _, .bl b => .bl b
  | _, _, .int i => .int i
  | _, _, .str x => .str x
  | _, _, .lst h r => .lst (h.ext e) (DqA.ext e r)
  | _, _, .tup h r => .tup (sqt_ext e h) (DqA.ext e r)
  | _, _, .dct ⟨o, h⟩ q => .dct ⟨o, e.frz _ _ _ h⟩ q
theorem DqA.ext {K : PySem.W.Frag} {H H' : Hp} (e : Ext H H') : ∀ {ds : List PyData} {vs : List V}, DqA K H ds vs → DqA K H' ds vs
  | _, _, .nil => .nil
  | _, _, .cons h r => .cons (Dq.ext e h) (DqA.ext e r)
end
mutual
theorem Dq.dp {K : PySem.W.Frag} {H : Hp} : ∀ {d : PyData} {v : V}, Dq K H d v → d.hasDict = false → Dp K H v d
  | _, _, .non, _ => .non
  | _, _, .bl b, _ => .bl b
  | _, _, .int i, _ => .int i
  | _, _, .str x, _ => .str x
  | _, _, .lst h r, n => .lst h.sq (DqA.dp r (by simpa only [PyData.hasDict] using n))
  | _, _, .tup h r, n => .tup h (DqA.dp r (by simpa only [PyData.hasDict] using n))
  | _, _, .dct _ _, n => by simp [PyData.hasDict] at n
theorem DqA.dp {K : PySem.W.Frag} {H : Hp} : ∀ {ds : List PyData} {vs : List V}, DqA K H ds vs → PyData.hasDictAll ds = false → DpAll K H vs ds
  | _, _, .nil, _ => .nil
  | _, _, .cons h r, n => by
    simp only [PyData.hasDictAll, Bool.or_eq_false_iff] at n
    exact .cons (Dq.dp h n.1) (DqA.dp r n.2)
end
theorem DqA.length {K : PySem.W.Frag} {H : Hp} : ∀ {ds : List PyData} {vs : List V}, DqA K H ds vs → ds.length = vs.length
  | _, _, .nil => rfl
  | _, _, .cons _ r => congrArg (· + 1) r.length
theorem DqA.get {K : PySem.W.Frag} {H : Hp} : ∀ {ds : List PyData} {vs : List V} {i : Nat} {d : PyData}, DqA K H ds vs → ds[i]? = some d → ∃ v, vs[i]? = some v ∧ Dq K H d v
  | _, _, _, _, .nil, e => by simp at e
  | _, _, 0, _, .cons h _, e => by simp at e; subst e; exact ⟨_, rfl, h⟩
  | _, _, i + 1, d, .cons _ r, e => by
    obtain ⟨v, h1, h2⟩ := DqA.get (i := i) (d := d) r (by simpa using e)
    exact ⟨v, by simpa using h1, h2⟩
theorem DqA.append {K : PySem.W.Frag} {H : Hp} : ∀ {ds es : List PyData} {vs ws : List V}, DqA K H ds vs → DqA K H es ws → DqA K H (ds ++ es) (vs ++ ws)
  | _, _, _, _, .nil, s => s
  | _, _, _, _, .cons h r, s => .cons h (r.append s)
theorem DqA.take {K : PySem.W.Frag} {H : Hp} : ∀ {ds : List PyData} {vs : List V} (n : Nat), DqA K H ds vs → DqA K H (ds.take n) (vs.take n)
  | _, _, 0, _ => .nil
  | _, _, _ + 1, .nil => .nil
  | _, _, n + 1, .cons h r => .cons h (DqA.take n r)
theorem DqA.drop {K : PySem.W.Frag} {H : Hp} : ∀ {ds : List PyData} {vs : List V} (n : Nat), DqA K H ds vs → DqA K H (ds.drop n) (vs.drop n)
  | _, _, 0, r => r
  | _, _, _ + 1, .nil => .nil
  | _, _, n + 1, .cons _ r => DqA.drop n r

/-! ### all values -/
mutual
inductive Rv (K : PySem.W.Frag) (ρ : Nat → Addr) (H : Hp) : D → V → Prop
  | py {p : PyData} {v : V} : Dq K H p v → Rv K ρ H (.py p) v
  | tup {xs : List D} {a : Addr} {vs : List V} : SqT K H a vs → RvA K ρ H xs vs → Rv K ρ H (.tup xs) (.ref a)
  | obj (l : Nat) : Rv K ρ H (.obj l) (.ref (ρ l))
inductive RvA (K : PySem.W.Frag) (ρ : Nat → Addr) (H : Hp) : List D → List V → Prop
  | nil : RvA K ρ H [] []
  | cons {v : V} {vs : List V} {d : D} {ds : List D} : Rv K ρ H d v → RvA K ρ H ds vs → RvA K ρ H (d :: ds) (v :: vs)
end
mutual
/-- the live objects that are named stand below n -/
def bel (n : Nat) : D → Prop
  | .py _ => True
  | .obj l => l < n
  | .tup xs => belA n xs
def belA (n : Nat) : List D → Prop
  | [] => True
  | d :: r => bel n d ∧ belA n r
end
mutual
theorem bel.mono {m n : Nat} (h : m ≤ n) : ∀ {d : D}, bel m d → bel n d
  | .py _, _ => by simp only [bel]
  | .obj l, q => by simp only [bel] at q ⊢; omega
  | .tup xs, q => by simp only [bel] at q ⊢; exact belA.mono h q
theorem belA.mono {m n : Nat} (h : m ≤ n) : ∀ {ds : List D}, belA m ds → belA n ds
  | [], _ => by simp only [belA]
  | d :: r, q => by simp only [belA] at q ⊢; exact ⟨bel.mono h q.1, belA.mono h q.2⟩
end
theorem belA_iff {n : Nat} : ∀ {ds : List D}, belA n ds ↔ ∀ d ∈ ds, bel n d
  | [] => by simp [belA]
  | d :: r => by simp [belA, belA_iff (ds := r)]
theorem belA_py (n : Nat) (ps : List PyData) : belA n (ps.map .py) := belA_iff.mpr fun d hd => by
  obtain ⟨p, _, rfl⟩ := List.mem_map.mp hd
  simp only [bel]
mutual
theorem Rv.step {K : PySem.W.Frag} {ρ ρ' : Nat → Addr} {H H' : Hp} {n : Nat} (e : Ext H H') (hρ : ∀ l, l < n → ρ' l = ρ l) : ∀ {d : D} {v : V}, bel n d → Rv K ρ H d v → Rv K ρ' H' d v
  | .py _, _, _, h => by
    cases h with
    | py h => exact .py (h.ext e)
  | .tup xs, _, b, h => by
    cases h with
    | tup h r => exact .tup (sqt_ext e h) (RvA.step e hρ (ds := xs) (by simpa only [bel] using b) r)
  | .obj l, _, b, h => by
    cases h with
    | obj => exact (hρ l (by simpa only [bel] using b)) ▸ (Rv.obj l : Rv K ρ' H' (.obj l) (.ref (ρ' l)))
theorem RvA.step {K : PySem.W.Frag} {ρ ρ' : Nat → Addr} {H H' : Hp} {n : Nat} (e : Ext H H') (hρ : ∀ l, l < n → ρ' l = ρ l) : ∀ {ds : List D} {vs : List V}, belA n ds → RvA K ρ H ds vs → RvA K ρ' H' ds vs
  | [], _, _, h => by
    cases h
    exact .nil
  | d :: ds, _, b, h => by
    cases h with
    | cons h r => exact .cons (Rv.step e hρ (d := d) (by simp only [belA] at b; exact b.1) h) (RvA.step e hρ (ds := ds) (by simp only [belA] at b; exact b.2) r)
end
theorem RvA.length {K : PySem.W.Frag} {ρ : Nat → Addr} {H : Hp} : ∀ {ds : List D} {vs : List V}, RvA K ρ H ds vs → ds.length = vs.length
  | _, _, .nil => rfl
  | _, _, .cons _ r => congrArg (· + 1) r.length
theorem RvA.get {K : PySem.W.Frag} {ρ : Nat → Addr} {H : Hp} : ∀ {ds : List D} {vs : List V} {i : Nat} {d : D}, RvA K ρ H ds vs → ds[i]? = some d → ∃ v, vs[i]? = some v ∧ Rv K ρ H d v
  | _, _, _, _, .nil, e => by simp at e
  | _, _, 0, _, .cons h _, e => by simp at e; subst e; exact ⟨_, rfl, h⟩
  | _, _, i + 1, d, .cons _ r, e => by
    obtain ⟨v, h1, h2⟩ := RvA.get (i := i) (d := d) r (by simpa using e)
    exact ⟨v, by simpa using h1, h2⟩
theorem RvA.append {K : PySem.W.Frag} {ρ : Nat → Addr} {H : Hp} : ∀ {ds es : List D} {vs ws : List V}, RvA K ρ H ds vs → RvA K ρ H es ws → RvA K ρ H (ds ++ es) (vs ++ ws)
  | _, _, _, _, .nil, s => s
  | _, _, _, _, .cons h r, s => .cons h (r.append s)
theorem RvA.set {K : PySem.W.Frag} {ρ : Nat → Addr} {H : Hp} {d : D} {v : V} (h : Rv K ρ H d v) : ∀ {ds : List D} {vs : List V} (i : Nat), RvA K ρ H ds vs → RvA K ρ H (ds.set i d) (vs.set i v)
  | _, _, _, .nil => .nil
  | _, _, 0, .cons _ r => .cons h r
  | _, _, i + 1, .cons q r => .cons q (RvA.set h i r)
theorem RvA.of_py {K : PySem.W.Frag} {ρ : Nat → Addr} {H : Hp} : ∀ {ps : List PyData} {vs : List V}, DqA K H ps vs → RvA K ρ H (ps.map .py) vs
  | _, _, .nil => .nil
  | _, _, .cons h r => .cons (.py h) (RvA.of_py r)
theorem RvA.to_py {K : PySem.W.Frag} {ρ : Nat → Addr} {H : Hp} : ∀ {ds : List D} {ps : List PyData} {vs : List V}, pys ds = some ps → RvA K ρ H ds vs → DqA K H ps vs
  | [], ps, _, e, r => by
    simp only [pys, Option.some.injEq] at e
    subst e
    cases r
    exact .nil
  | .py p :: ds, ps, _, e, r => by
    cases r with
    | cons h r =>
      cases q : pys ds with
      | none => simp [pys, q] at e
      | some qs =>
        simp only [pys, q, Option.some.injEq] at e
        subst e
        cases h with
        | py h => exact .cons h (RvA.to_py q r)
  | .tup _ :: _, _, _, e, _ => by simp [pys] at e
  | .obj _ :: _, _, _, e, _ => by simp [pys] at e
theorem pys_map : ∀ ps : List PyData, pys (ps.map .py) = some ps
  | [] => rfl
  | p :: r => by simp [pys, pys_map r]
theorem pys_eq : ∀ {ds : List D} {ps : List PyData}, pys ds = some ps → ds = ps.map .py
  | [], ps, e => by
    simp only [pys, Option.some.injEq] at e
    subst e
    rfl
  | .py p :: ds, ps, e => by
    cases q : pys ds with
    | none => simp [pys, q] at e
    | some qs =>
      simp only [pys, q, Option.some.injEq] at e
      subst e
      rw [pys_eq q]
      rfl
  | .tup _ :: _, _, e => by simp [pys] at e
  | .obj _ :: _, _, e => by simp [pys] at e

/-! ### the live heap -/
def OkO (K : PySem.W.Frag) (ρ : Nat → Addr) (H : Hp) (n : Nat) (a : Addr) : O → Prop
  | .dead => True
  | .lst xs => belA n xs ∧ ∃ vs, H a = some (.lst vs) ∧ RvA K ρ H xs vs
  | .dct _ => False
  | .ins _ _ => False
def isLive : O → Bool
  | .dead => false
  | _ => true
structure Lv (K : PySem.W.Frag) (pr : List (Addr × HO)) (ρ : Nat → Addr) (H : Hp) (h : AH) : Prop where
  at_ : ∀ (l : Nat) (o : O), h[l]? = some o → OkO K ρ H h.length (ρ l) o
  inj : ∀ (l m : Nat) (o u : O), h[l]? = some o → h[m]? = some u → isLive o = true → isLive u = true → ρ l = ρ m → l = m
  pr : ∀ (a : Addr) (o : HO), (a, o) ∈ pr → H a = some o ∧ ∀ (l : Nat) (u : O), h[l]? = some u → isLive u = true → ρ l ≠ a
/-- from one state to a later one -/
structure Nx (ρ : Nat → Addr) (H : Hp) (h : AH) (ρ' : Nat → Addr) (H' : Hp) (h' : AH) : Prop where
  ext : Ext H H'
  same : ∀ l, l < h.length → ρ' l = ρ l
  le : h.length ≤ h'.length
section
variable {K : PySem.W.Frag} {pr : List (Addr × HO)} {ρ ρ1 ρ2 : Nat → Addr} {H H1 H2 : Hp} {h h1 h2 : AH}
theorem Nx.refl : Nx ρ H h ρ H h := ⟨Ext.refl H, fun _ _ => rfl, Nat.le_refl _⟩
theorem Nx.trans (a : Nx ρ H h ρ1 H1 h1) (b : Nx ρ1 H1 h1 ρ2 H2 h2) : Nx ρ H h ρ2 H2 h2 :=
  ⟨a.ext.trans b.ext, fun l q => (b.same l (Nat.lt_of_lt_of_le q a.le)).trans (a.same l q), Nat.le_trans a.le b.le⟩
theorem Rv.nx {d : D} {v : V} (n : Nx ρ H h ρ1 H1 h1) (b : bel h.length d) (r : Rv K ρ H d v) : Rv K ρ1 H1 d v := r.step n.ext n.same b
theorem RvA.nx {ds : List D} {vs : List V} (n : Nx ρ H h ρ1 H1 h1) (b : belA h.length ds) (r : RvA K ρ H ds vs) : RvA K ρ1 H1 ds vs := r.step n.ext n.same b
/-- only tuples, lists that stay and the like come in -/
theorem Lv.ext (L : Lv K pr ρ H h) (e : Ext H H1) (hl : ∀ a vs, H a = some (.lst vs) → H1 a = some (.lst vs)) (hp : ∀ a o, (a, o) ∈ pr → H1 a = some o) : Lv K pr ρ H1 h := by
  refine ⟨fun l o q => ?_, L.inj, fun a o m => ⟨hp a o m, (L.pr a o m).2⟩⟩
  have z := L.at_ l o q
  cases o with
  | dead => trivial
  | lst xs =>
    obtain ⟨b, vs, e1, r⟩ := z
    exact ⟨b, vs, hl _ _ e1, r.step e (fun _ _ => rfl) b⟩
  | dct _ => exact z.elim
  | ins _ _ => exact z.elim
theorem Lv.new (L : Lv K pr ρ H h) {p : Addr} {o : HO} (hp : H p = none) : Lv K pr ρ (upd H p o) h :=
  L.ext (Ext.new hp) (fun a vs e => by rw [upd_ne (ne_of_none e hp)]; exact e) fun a o m => by rw [upd_ne (ne_of_none (L.pr a o m).1 hp)]; exact (L.pr a o m).1
/-- a new live list -/
theorem Lv.alloc (L : Lv K pr ρ H h) {p : Addr} {xs : List D} {vs : List V} (hp : H p = none) (b : belA h.length xs) (r : RvA K ρ H xs vs) :
    ∃ ρ', Nx ρ H h ρ' (upd H p (.lst vs)) (h ++ [.lst xs]) ∧ Lv K pr ρ' (upd H p (.lst vs)) (h ++ [.lst xs]) ∧ ρ' h.length = p := by
  have nw : ∀ l, l < h.length → (fun l => if l = h.length then p else ρ l) l = ρ l := fun l q => if_neg (Nat.ne_of_lt q)
  refine ⟨fun l => if l = h.length then p else ρ l, ⟨Ext.new hp, nw, by simp⟩, ⟨fun l o q => ?_, fun l m o u ql qm ho hu e => ?_, fun a o m => ⟨by rw [upd_ne (ne_of_none (L.pr a o m).1 hp)]; exact (L.pr a o m).1, fun l u q hu => ?_⟩⟩, if_pos rfl⟩
  · by_cases hl : l < h.length
    · rw [List.getElem?_append_left hl] at q
      have z := L.at_ l o q
      rw [if_neg (Nat.ne_of_lt hl)]
      cases o with
      | dead => trivial
      | lst ys =>
        obtain ⟨b1, ws, e1, r1⟩ := z
        exact ⟨b1.mono (by simp), ws, by rw [upd_ne (ne_of_none e1 hp)]; exact e1, r1.step (Ext.new hp) nw b1⟩
      | dct _ => exact z.elim
      | ins _ _ => exact z.elim
    · have hl2 : l = h.length := by
        have := (List.getElem?_eq_some_iff.mp q).1
        simp at this
        omega
      subst hl2
      rw [List.getElem?_append_right (Nat.le_refl _)] at q
      simp at q
      subst q
      rw [if_pos rfl]
      exact ⟨b.mono (by simp), vs, upd_same, r.step (Ext.new hp) nw b⟩
  · have bd : ∀ (l : Nat) (o : O), (h ++ [O.lst xs])[l]? = some o → l ≤ h.length := fun l o q => by
      have := (List.getElem?_eq_some_iff.mp q).1
      simp at this
      omega
    have atOld : ∀ (l : Nat) (o : O), l < h.length → (h ++ [O.lst xs])[l]? = some o → isLive o = true → ∃ ws, H (ρ l) = some (.lst ws) := fun l o hl q ho => by
      rw [List.getElem?_append_left hl] at q
      have z := L.at_ l o q
      cases o with
      | dead => cases ho
      | lst ys =>
        obtain ⟨_, ws, e1, _⟩ := z
        exact ⟨ws, e1⟩
      | dct _ => exact z.elim
      | ins _ _ => exact z.elim
    have e : (if l = h.length then p else ρ l) = (if m = h.length then p else ρ m) := e
    have bl := bd l o ql
    have bm := bd m u qm
    by_cases hl : l = h.length
    · by_cases hm : m = h.length
      · rw [hl, hm]
      · rw [if_pos hl, if_neg hm] at e
        obtain ⟨ws, e2⟩ := atOld m u (by omega) qm hu
        rw [← e, hp] at e2
        cases e2
    · by_cases hm : m = h.length
      · rw [if_neg hl, if_pos hm] at e
        obtain ⟨ws, e2⟩ := atOld l o (by omega) ql ho
        rw [e, hp] at e2
        cases e2
      · rw [if_neg hl, if_neg hm] at e
        rw [List.getElem?_append_left (by omega)] at ql qm
        exact L.inj l m o u ql qm ho hu e
  · show (if l = h.length then p else ρ l) ≠ a
    by_cases hl : l = h.length
    · rw [if_pos hl]
      exact (ne_of_none (L.pr a o m).1 hp).symm
    · rw [if_neg hl]
      have hb := (List.getElem?_eq_some_iff.mp q).1
      simp at hb
      rw [List.getElem?_append_left (by omega)] at q
      exact (L.pr a o m).2 l u q hu
/-- a live list changed -/
theorem Lv.put (L : Lv K pr ρ H h) {l : Nat} {xs ys : List D} {vs ws : List V} (hl : h[l]? = some (.lst xs)) (hv : H (ρ l) = some (.lst vs)) (b : belA h.length ys) (r : RvA K ρ H ys ws) :
    Nx ρ H h ρ (upd H (ρ l) (.lst ws)) (h.set l (.lst ys)) ∧ Lv K pr ρ (upd H (ρ l) (.lst ws)) (h.set l (.lst ys)) := by
  have ex : Ext H (upd H (ρ l) (.lst ws)) := Ext.mut hv (fun _ z => by cases z) (fun _ _ z => by cases z)
  refine ⟨⟨ex, fun _ _ => rfl, by simp⟩, ⟨fun m o q => ?_, fun m n o u qm qn ho hu e => ?_, fun a o m => ⟨by rw [upd_ne (Ne.symm ((L.pr a o m).2 l _ hl rfl))]; exact (L.pr a o m).1, fun k u q hu => ?_⟩⟩⟩
  · rw [List.length_set]
    by_cases hm : m = l
    · subst hm
      rw [List.getElem?_set_self (List.getElem?_eq_some_iff.mp hl).1] at q
      cases q
      exact ⟨b, ws, upd_same, r.step ex (fun _ _ => rfl) b⟩
    · rw [List.getElem?_set_ne (Ne.symm hm)] at q
      have z := L.at_ m o q
      cases o with
      | dead => trivial
      | lst zs =>
        obtain ⟨b1, us, e1, r1⟩ := z
        refine ⟨b1, us, ?_, r1.step ex (fun _ _ => rfl) b1⟩
        rw [upd_ne fun e => hm (L.inj m l _ _ q hl rfl rfl e)]
        exact e1
      | dct _ => exact z.elim
      | ins _ _ => exact z.elim
  · have at2 : ∀ (m : Nat) (o : O), (h.set l (O.lst ys))[m]? = some o → isLive o = true → ∃ o', h[m]? = some o' ∧ isLive o' = true := fun m o q ho => by
      by_cases hm : m = l
      · subst hm
        exact ⟨_, hl, rfl⟩
      · rw [List.getElem?_set_ne (Ne.symm hm)] at q
        exact ⟨o, q, ho⟩
    obtain ⟨o', q1, h1⟩ := at2 m o qm ho
    obtain ⟨u', q2, h2⟩ := at2 n u qn hu
    exact L.inj m n o' u' q1 q2 h1 h2 e
  · by_cases hk : k = l
    · rw [hk]
      exact (L.pr a o m).2 l _ hl rfl
    · rw [List.getElem?_set_ne (Ne.symm hk)] at q
      exact (L.pr a o m).2 k u q hu
/-- a live list is no longer followed -/
theorem Lv.drop (L : Lv K pr ρ H h) {l : Nat} {xs : List D} {vs : List V} {o : Obj} (hl : h[l]? = some (.lst xs)) (hv : H (ρ l) = some (.lst vs)) :
    Nx ρ H h ρ (upd H (ρ l) (.frz o (.lst vs))) (h.set l .dead) ∧ Lv K pr ρ (upd H (ρ l) (.frz o (.lst vs))) (h.set l .dead) := by
  have ex : Ext H (upd H (ρ l) (.frz o (.lst vs))) := Ext.mut hv (fun _ z => by cases z) (fun _ _ z => by cases z)
  refine ⟨⟨ex, fun _ _ => rfl, by simp⟩, ⟨fun m u q => ?_, fun m n u w qm qn hu hw e => ?_, fun a o m => ⟨by rw [upd_ne (Ne.symm ((L.pr a o m).2 l _ hl rfl))]; exact (L.pr a o m).1, fun k u q hu => ?_⟩⟩⟩
  · rw [List.length_set]
    by_cases hm : m = l
    · subst hm
      rw [List.getElem?_set_self (List.getElem?_eq_some_iff.mp hl).1] at q
      cases q
      trivial
    · rw [List.getElem?_set_ne (Ne.symm hm)] at q
      have z := L.at_ m u q
      cases u with
      | dead => trivial
      | lst zs =>
        obtain ⟨b1, us, e1, r1⟩ := z
        refine ⟨b1, us, ?_, r1.step ex (fun _ _ => rfl) b1⟩
        rw [upd_ne fun e => hm (L.inj m l _ _ q hl rfl rfl e)]
        exact e1
      | dct _ => exact z.elim
      | ins _ _ => exact z.elim
  · have at2 : ∀ (m : Nat) (o : O), (h.set l O.dead)[m]? = some o → isLive o = true → h[m]? = some o := fun m o q ho => by
      by_cases hm : m = l
      · subst hm
        rw [List.getElem?_set_self (List.getElem?_eq_some_iff.mp hl).1] at q
        cases q
        cases ho
      · rw [List.getElem?_set_ne (Ne.symm hm)] at q
        exact q
    exact L.inj m n u w (at2 m u qm hu) (at2 n w qn hw) hu hw e
  · by_cases hk : k = l
    · rw [hk]
      exact (L.pr a o m).2 l _ hl rfl
    · rw [List.getElem?_set_ne (Ne.symm hk)] at q
      exact (L.pr a o m).2 k u q hu
theorem Lv.lst (L : Lv K pr ρ H h) {l : Nat} {xs : List D} (hl : h[l]? = some (.lst xs)) : belA h.length xs ∧ ∃ vs, H (ρ l) = some (.lst vs) ∧ RvA K ρ H xs vs := L.at_ l _ hl
end

/-! ### slots -/
structure SgOk (K : PySem.W.Frag) (ρ : Nat → Addr) (H : Hp) (n : Nat) (σ : Sg) (τ : L2.St) : Prop where
  len : σ.length = τ.length
  at_ : ∀ (i : Nat) (d : D), σ[i]? = some (some d) → bel n d ∧ ∃ v, τ[i]? = some (some v) ∧ Rv K ρ H d v
section
variable {K : PySem.W.Frag} {ρ ρ1 : Nat → Addr} {H H1 : Hp} {h h1 : AH} {σ : Sg} {τ : L2.St}
theorem SgOk.nx (S : SgOk K ρ H h.length σ τ) (n : Nx ρ H h ρ1 H1 h1) : SgOk K ρ1 H1 h1.length σ τ :=
  ⟨S.len, fun i d e => let ⟨b, v, e1, r⟩ := S.at_ i d e; ⟨b.mono n.le, v, e1, r.nx n b⟩⟩
theorem SgOk.set {n : Nat} (S : SgOk K ρ H n σ τ) {d : D} {v : V} (b : bel n d) (r : Rv K ρ H d v) (i : Nat) : SgOk K ρ H n (σ.set i (some d)) (τ.set i (some v)) := by
  refine ⟨by simp [S.len], fun j e q => ?_⟩
  by_cases hj : i = j
  · subst hj
    have hi : i < σ.length := by
      have := (List.getElem?_eq_some_iff.mp q).1
      simpa using this
    rw [List.getElem?_set_self hi] at q
    cases q
    exact ⟨b, v, by rw [List.getElem?_set_self (by rw [← S.len]; exact hi)], r⟩
  · rw [List.getElem?_set_ne hj] at q
    obtain ⟨b1, w, e1, r1⟩ := S.at_ j e q
    exact ⟨b1, w, by rw [List.getElem?_set_ne hj]; exact e1, r1⟩
theorem SgOk.wipe {n : Nat} (S : SgOk K ρ H n σ τ) : ∀ is : List Nat, SgOk K ρ H n (wipeS σ is) (L2.wipe τ is)
  | [] => S
  | i :: r => by
    have T := S.wipe r
    refine ⟨by simp [wipeS, L2.wipe, T.len], fun j e q => ?_⟩
    unfold wipeS at q
    unfold L2.wipe
    by_cases hj : i = j
    · subst hj
      have hi : i < (wipeS σ r).length := by
        have := (List.getElem?_eq_some_iff.mp q).1
        simpa using this
      rw [List.getElem?_set_self hi] at q
      cases q
    · rw [List.getElem?_set_ne hj] at q ⊢
      exact T.at_ j e q
end
end Zm
/-! Zm 3: what is weakest; operations on values. -/
namespace Zm
open PySem PySem.Spec PyProof.Rows L2
section
variable {X : Cx} {pins : List (Addr × Obj)} {σ : L2.St} {H H1 : Hp} {s : Shared}

/-! ### the weakest wishes -/
def WE (X : Cx) (e : Expr) : TE := fun σ H Q => ∀ (pins : List (Addr × Obj)) (s : Shared), Inv X pins σ H s → wpAny (model X.prog X.w) X.A (eval e X.env) (EP X pins σ Q) X.xe s
def WT (X : Cx) (e : Expr) : TT := fun σ H Q => ∀ (pins : List (Addr × Obj)) (s : Shared), Inv X pins σ H s → wpAny (model X.prog X.w) X.A (isTrue e X.env (eval e X.env)) (TP X pins σ Q) X.xe s
def WW (X : Cx) (e : Expr) : TT := fun σ H Q => ∀ (wh : Sem Value) (pins : List (Addr × Obj)) (s : Shared), Inv X pins σ H s → wpAny (model X.prog X.w) X.A (isTrue e X.env wh) (TP X pins σ Q) X.xe s
def WA (X : Cx) (es : List Expr) : TA := fun σ H Q => ∀ (pos : Pos) (pins : List (Addr × Obj)) (s : Shared), Inv X pins σ H s → wpAny (model X.prog X.w) X.A (spliced (backTo pos (starEach es X.env))) (AP X pins σ Q) X.xe s
def WS (X : Cx) (st : Stmt) : TS := fun D σ H => ∀ (pins : List (Addr × Obj)) (s : Shared), Inv X pins σ H s → wpAny (model X.prog X.w) X.A (exec st X.env) (SP X pins D) X.xe s
def WSs (X : Cx) (st : List Stmt) : TS := fun D σ H => ∀ (pins : List (Addr × Obj)) (s : Shared), Inv X pins σ H s → wpAny (model X.prog X.w) X.A (execs st X.env) (SP X pins D) X.xe s
def WG (X : Cx) (t : Expr) : TG := fun v σ H Q => ∀ (pins : List (Addr × Obj)) (s : Shared) (u : Value), Inv X pins σ H s → RelV v u → wpAny (model X.prog X.w) X.A (assign t X.env u) (fun _ s' => ∃ σ' H', Inv X pins σ' H' s' ∧ Q σ' H') X.xe s
def WGs (X : Cx) (ts : List Expr) : TGs := fun vs σ H Q => ∀ (pins : List (Addr × Obj)) (s : Shared) (us : List Value), Inv X pins σ H s → Vals vs us →
  wpAny (model X.prog X.w) X.A (assignInOrder ((assignEach ts X.env).map (·.2)) us) (fun _ s' => ∃ σ' H', Inv X pins σ' H' s' ∧ Q σ' H') X.xe s
def WI (X : Cx) (tg it : Expr) : TI := fun σ H R => ∀ (pins : List (Addr × Obj)) (s : Shared), Inv X pins σ H s → wpAny (model X.prog X.w) X.A (eval it X.env) (fun v s1 => wpAny (model X.prog X.w) X.A (pyIter v) (PIE X pins σ tg R) X.xe s1) X.xe s
def W2 (X : Cx) (f : Value → Value → Sem Value) : R2 := fun x y H Q => ∀ (pins : List (Addr × Obj)) (σ : L2.St) (s : Shared) (v u : Value), Inv X pins σ H s → RelV x v → RelV y u → wpAny (model X.prog X.w) X.A (f v u) (EP X pins σ Q) X.xe s
theorem pe_we {e : Expr} : PE X e (WE X e) := ⟨fun pins s _ _ _ I h => h pins s I⟩
theorem pt_wt {e : Expr} : PT X e (WT X e) := ⟨fun pins s _ _ _ I h => h pins s I⟩
theorem pw_ww {e : Expr} : PW X e (WW X e) := ⟨fun wh pins s _ _ _ I h => h wh pins s I⟩
theorem pa_wa {es : List Expr} : PA X es (WA X es) := ⟨fun pos pins s _ _ _ I h => h pos pins s I⟩
theorem ps_ws {st : Stmt} : PS X st (WS X st) := ⟨fun pins s _ _ _ I h => h pins s I⟩
theorem pss_wss {st : List Stmt} : PSs X st (WSs X st) := ⟨fun pins s _ _ _ I h => h pins s I⟩
theorem pg_wg {t : Expr} : PG X t (WG X t) := ⟨fun pins s _ _ _ u _ I r h => h pins s u I r⟩
theorem pgs_wgs {ts : List Expr} : PGs X ts (WGs X ts) := ⟨fun pins s _ _ _ us _ I r h => h pins s us I r⟩
theorem pi_wi {tg it : Expr} : PI X tg it (WI X tg it) := ⟨fun pins s _ _ _ I h => h pins s I⟩
theorem op_w2 {f : Value → Value → Sem Value} : OpR X f (W2 X f) := fun pins s σ _ _ _ v u _ I rx ry h => h pins σ s v u I rx ry
theorem we_of {e : Expr} {t : TE} {Q : VK} (h : PE X e t) (q : t σ H Q) : WE X e σ H Q := fun pins s I => h.run pins s σ H Q I q
theorem wt_of {e : Expr} {t : TT} {Q : Bool → Hp → Prop} (h : PT X e t) (q : t σ H Q) : WT X e σ H Q := fun pins s I => h.run pins s σ H Q I q
theorem ww_of {e : Expr} {t : TT} {Q : Bool → Hp → Prop} (h : PW X e t) (q : t σ H Q) : WW X e σ H Q := fun wh pins s I => h.run wh pins s σ H Q I q
theorem wa_of {es : List Expr} {t : TA} {Q : List V → Hp → Prop} (h : PA X es t) (q : t σ H Q) : WA X es σ H Q := fun pos pins s I => h.run pos pins s σ H Q I q
theorem ws_of {st : Stmt} {t : TS} {D : Ends} (h : PS X st t) (q : t D σ H) : WS X st D σ H := fun pins s I => h.run pins s σ H D I q
theorem wss_of {st : List Stmt} {t : TS} {D : Ends} (h : PSs X st t) (q : t D σ H) : WSs X st D σ H := fun pins s I => h.run pins s σ H D I q
theorem wg_of {tg : Expr} {t : TG} {v : V} {Q : L2.St → Hp → Prop} (h : PG X tg t) (q : t v σ H Q) : WG X tg v σ H Q := fun pins s u I r => h.run pins s σ H v u Q I r q
theorem wgs_of {tg : List Expr} {t : TGs} {v : List V} {Q : L2.St → Hp → Prop} (h : PGs X tg t) (q : t v σ H Q) : WGs X tg v σ H Q := fun pins s u I r => h.run pins s σ H v u Q I r q
theorem wi_of {tg it : Expr} {t : TI} {R : It → Hp → Prop} (h : PI X tg it t) (q : t σ H R) : WI X tg it σ H R := fun pins s I => h.run pins s σ H R I q
theorem w2_of {f : Value → Value → Sem Value} {r : R2} {x y : V} {Q : VK} (h : OpR X f r) (q : r x y H Q) : W2 X f x y H Q := fun pins σ s v u I rx ry => h pins s σ H x y v u Q I rx ry q
theorem we_mono {e : Expr} {Q Q' : VK} (h : WE X e σ H Q) (k : ∀ v H', Q v H' → Q' v H') : WE X e σ H Q' := fun pins s I => thn (h pins s I) fun _ _ ⟨v, H', I', r, q⟩ => ⟨v, H', I', r, k v H' q⟩
theorem w2_mono {f : Value → Value → Sem Value} {x y : V} {Q Q' : VK} (h : W2 X f x y H Q) (k : ∀ v H', Q v H' → Q' v H') : W2 X f x y H Q' := fun pins σ s v u I rx ry => thn (h pins σ s v u I rx ry) fun _ _ ⟨v, H', I', r, q⟩ => ⟨v, H', I', r, k v H' q⟩

/-! ### a list that is no longer written -/
theorem Inv.freeze {a : Addr} {xs : List V} (I : Inv X pins σ H s) (e : H a = some (.lst xs)) : ∃ o, Inv X pins σ (upd H a (.frz o (.lst xs))) s := by
  obtain ⟨z, its, n, r, e1⟩ := I.hok a _ e
  refine ⟨{ cls := .type "list", data := .seq its.toArray n }, I.ok, I.os, I.bare, ⟨I.base.keep, I.base.slot, fun b o q n0 hx => ?_, I.base.there, fun b xs q => ?_, fun b o u q => ?_, fun b ps q => ?_⟩, I.loc, I.cell, ?_, fun x c q => ?_, fun p hp => ?_, fun b u q => ?_, I.len⟩
  · have q2 := I.base.free b o q n0 hx
    rw [upd_ne fun z => by rw [z, e] at q2; cases q2]
    exact q2
  · have q2 := I.base.tups b xs q
    rw [upd_ne (ne_of q2 e fun z => by cases z)]
    exact q2
  · have q2 := I.base.frzs b o u q
    rw [upd_ne (ne_of q2 e fun z => by cases z)]
    exact q2
  · obtain ⟨more, q2⟩ := I.base.tbls b ps q
    exact ⟨more, by rw [upd_ne (ne_of q2 e fun z => by cases z)]; exact q2⟩
  · have q2 := I.free
    rw [upd_ne fun z => by rw [z, e] at q2; cases q2]
    exact q2
  · have q2 := I.freeC x c q
    rw [upd_ne fun z => by rw [z, e] at q2; cases q2]
    exact q2
  · obtain ⟨p1, p2, p3⟩ := I.pin p hp
    exact ⟨p1, by rw [upd_ne fun z => by rw [z, e] at p2; cases p2]; exact p2, p3⟩
  · by_cases hb : b = a
    · subst hb
      rw [upd_same] at q
      cases q
      exact ⟨e1, z, its, n, r, e1⟩
    · rw [upd_ne hb] at q
      exact (I.hok b u q).stay (fun c v _ z => z) (fun c z => by rw [upd_ne (ne_of z e fun z => by cases z)]; exact z) fun c ys z => by
        rw [upd_ne (ne_of z e fun z => by cases z)]
        exact z
/-- .. as a wish -/
def Fz (Q : VK) : VK := fun v H => ∃ a xs, v = .ref a ∧ H a = some (.lst xs) ∧ ∀ o, Q v (upd H a (.frz o (.lst xs)))
theorem ep_frz {Q : VK} {u : Value} (h : EP X pins σ (Fz Q) u s) : EP X pins σ Q u s := by
  obtain ⟨v, H', I, r, a, xs, rfl, e, q⟩ := h
  obtain ⟨o, I2⟩ := Inv.freeze I e
  exact ⟨_, _, I2, r, q o⟩
theorem we_frz {e : Expr} {Q : VK} (h : WE X e σ H (Fz Q)) : WE X e σ H Q := fun pins s I => thn (h pins s I) fun _ _ q => ep_frz q
theorem w2_frz {f : Value → Value → Sem Value} {x y : V} {Q : VK} (h : W2 X f x y H (Fz Q)) : W2 X f x y H Q := fun pins σ s v u I rx ry => thn (h pins σ s v u I rx ry) fun _ _ q => ep_frz q

/-! ### what is to be reached: a value of the machine -/
def Post (K : PySem.W.Frag) (pr : List (Addr × HO)) (ρ : Nat → Addr) (H : Hp) (h : AH) (d : D) (h1 : AH) (Q : VK) : Prop := ∀ ρ' H' v, Nx ρ H h ρ' H' h1 → Lv K pr ρ' H' h1 → bel h1.length d → Rv K ρ' H' d v → Q v H'
variable {K : PySem.W.Frag} {pr : List (Addr × HO)} {ρ : Nat → Addr} {h h1 : AH} {Q : VK}
theorem Post.py {p : PyData} {v : V} (P : Post K pr ρ H h (.py p) h Q) (L : Lv K pr ρ H h) (r : Dq K H p v) : Q v H := P ρ H v Nx.refl L (by simp only [bel]) (.py r)
theorem Post.tupN {ps : List PyData} {vs : List V} {p : Addr} (P : Post K pr ρ H h (.py (.tuple ps)) h Q) (L : Lv K pr ρ H h) (r : DqA K H ps vs) (hp : H p = none) : Q (.ref p) (upd H p (.tup vs)) :=
  P ρ _ _ ⟨Ext.new hp, fun _ _ => rfl, Nat.le_refl _⟩ (L.new hp) (by simp only [bel]) (.py (.tup (.inl (.inl upd_same)) (r.ext (Ext.new hp))))
theorem Post.lstN {ps : List PyData} {vs : List V} {p : Addr} (P : Post K pr ρ H h (.py (.list ps)) h Q) (L : Lv K pr ρ H h) (r : DqA K H ps vs) (hp : H p = none) : Fz Q (.ref p) (upd H p (.lst vs)) := by
  refine ⟨p, vs, rfl, upd_same, fun o => ?_⟩
  rw [upd_upd]
  exact P ρ _ _ ⟨Ext.new hp, fun _ _ => rfl, Nat.le_refl _⟩ (L.new hp) (by simp only [bel]) (.py (.lst (.inl ⟨o, upd_same⟩) (r.ext (Ext.new hp))))

/-! ### what a value reads as -/
/-- a list to be read -/
def RdL (K : PySem.W.Frag) (H : Hp) (a : Addr) (xs : List V) : Prop := H a = some (.lst xs) ∨ FzL K H a xs
theorem RdL.sq {a : Addr} {xs : List V} (r : RdL K H a xs) : SqL K H a xs := by
  rcases r with r | r
  · exact .inl (.inl r)
  · exact r.sq
theorem RdL.at_ {a : Addr} {xs : List V} (r : RdL X.K H a xs) (I : Inv X pins σ H s) : xs.length ≤ sizeLine ∧ ∃ (its : List Value) (n : Nat), Vals xs its ∧ xs.length = its.length ∧ s.heap.get? a = some { cls := .type "list", data := .seq its.toArray n } := by
  rcases r with r | ⟨o, r⟩ | ⟨its, n, r1, r2, r3⟩
  · exact I.lstM r
  · obtain ⟨e, z, its, n, r, e1⟩ := I.hok a _ r
    exact ⟨z, its, n, r, r.length, e1⟩
  · have hl : xs.length = its.size := by
      have := r3.length
      simpa using this
    exact ⟨by rw [hl]; exact r2, its.toList, n, r3, by rw [Array.length_toList]; exact hl, by simpa using I.kIn a _ r1⟩
theorem Dq.none_ {v : V} (r : Dq K H .none v) : v = .non := by cases r; rfl
theorem Dq.bool_ {v : V} {b : Bool} (r : Dq K H (.bool b) v) : v = .bl b := by cases r; rfl
theorem Dq.int_ {v : V} {i : Int} (r : Dq K H (.int i) v) : v = .int i := by cases r; rfl
theorem Dq.str_ {v : V} {x : Str} (r : Dq K H (.str x) v) : v = .str x := by cases r; rfl
theorem Dq.list_ {v : V} {ps : List PyData} (r : Dq K H (.list ps) v) : ∃ a xs, v = .ref a ∧ FzL K H a xs ∧ DqA K H ps xs := by
  cases r with
  | lst h r => exact ⟨_, _, rfl, h, r⟩
theorem Dq.tuple_ {v : V} {ps : List PyData} (r : Dq K H (.tuple ps) v) : ∃ a xs, v = .ref a ∧ SqT K H a xs ∧ DqA K H ps xs := by
  cases r with
  | tup h r => exact ⟨_, _, rfl, h, r⟩
/-- toPy: data, or a live list of data -/
theorem toPy_cases {d : D} {p : PyData} (e : toPy h d = some p) : d = .py p ∨ ∃ l ps, d = .obj l ∧ h[l]? = some (.lst (ps.map .py)) ∧ p = .list ps := by
  cases d with
  | py q =>
    simp only [toPy, Option.some.injEq] at e
    subst e
    exact .inl rfl
  | tup xs => simp [toPy] at e
  | obj l =>
    simp only [toPy] at e
    split at e
    · rename_i xs hl
      split at e
      · rename_i ps hp
        simp only [Option.some.injEq] at e
        subst e
        rw [pys_eq hp] at hl
        exact .inr ⟨l, ps, rfl, hl, rfl⟩
      · cases e
    · cases e
theorem rd_list {d : D} {ps : List PyData} {v : V} (e : toPy h d = some (.list ps)) (L : Lv K pr ρ H h) (r : Rv K ρ H d v) : ∃ a xs, v = .ref a ∧ RdL K H a xs ∧ DqA K H ps xs := by
  rcases toPy_cases e with rfl | ⟨l, qs, rfl, hl, z⟩
  · cases r with
    | py r =>
      obtain ⟨a, xs, rfl, h1, h2⟩ := r.list_
      exact ⟨a, xs, rfl, .inr h1, h2⟩
  · cases z
    obtain ⟨_, vs, e1, r1⟩ := L.lst hl
    cases r with
    | obj => exact ⟨_, vs, rfl, .inl e1, RvA.to_py (pys_map ps) r1⟩
theorem rd_at {d : D} {p : PyData} {v : V} (e : toPy h d = some p) (hp : ∀ ps, p ≠ .list ps) (r : Rv K ρ H d v) : Dq K H p v := by
  rcases toPy_cases e with rfl | ⟨l, qs, rfl, hl, z⟩
  · cases r with
    | py r => exact r
  · exact absurd z (hp qs)
theorem rd_dp {d : D} {p : PyData} {v : V} (e : toPy h d = some p) (L : Lv K pr ρ H h) (r : Rv K ρ H d v) (hn : p.hasDict = false) : Dp K H v p := by
  rcases toPy_cases e with rfl | ⟨l, qs, rfl, hl, z⟩
  · cases r with
    | py r => exact r.dp hn
  · subst z
    obtain ⟨a, xs, rfl, h1, h2⟩ := rd_list e L r
    exact .lst h1.sq (h2.dp (by simpa only [PyData.hasDict] using hn))
theorem shp_noDictA : ∀ {ps : List PyData}, ps.all shp = true → PyData.hasDictAll ps = false
  | [], _ => rfl
  | p :: r, e => by
    rw [List.all_cons, Bool.and_eq_true] at e
    have h1 := e.1
    unfold shp SeqAt.shaped at h1
    rw [Bool.and_eq_true] at h1
    rw [PyData.hasDictAll, PyData.hasDict_of_canLay p h1.1, shp_noDictA e.2]
    rfl
mutual
theorem alike_noDict : ∀ {p : PyData}, PySem.W.alike p p = true → p.hasDict = false
  | .none, _ => rfl
  | .bool _, _ => rfl
  | .int _, _ => rfl
  | .str _, _ => rfl
  | .list xs, e => by
    rw [PySem.W.alike] at e
    rw [PyData.hasDict]
    exact alike_noDictA e
  | .tuple xs, e => by
    rw [PySem.W.alike] at e
    rw [PyData.hasDict]
    exact alike_noDictA e
  | .dict _, e => by simp [PySem.W.alike] at e
theorem alike_noDictA : ∀ {ps : List PyData}, PySem.W.alikeAll ps ps = true → PyData.hasDictAll ps = false
  | [], _ => rfl
  | p :: r, e => by
    rw [PySem.W.alikeAll, Bool.and_eq_true] at e
    rw [PyData.hasDictAll, alike_noDict e.1, alike_noDictA e.2]
    rfl
end
theorem shp_noDict {p : PyData} (e : shp p = true) : p.hasDict = false := by
  unfold shp SeqAt.shaped at e
  rw [Bool.and_eq_true] at e
  exact PyData.hasDict_of_canLay p e.1
end
end Zm
/-! Zm 4: operators. -/
namespace Zm
open PySem PySem.Spec PyProof.Rows L2

/-! ### tuple * n, n any; list * n of a list that is read -/
theorem tuple_mulS (l : Addr) (items : Array Value) (n : Nat) (dd : Option Addr) (sl : Array (Option Value)) (x : Int) (u : Tok) (c0 : (decide (x < -(2 ^ 63)) || decide (x ≥ 2 ^ 63)) = false) (c1 : (items.isEmpty || x == 1) = true) :
    Meets (Builtin.«tuple.__mul__» ⟨[.ref l, .int x u], []⟩) (fun _ R s => s.heap.get? l = some { cls := .type "tuple", dict := dd, data := .seq items n, slots := sl } ∧ R (.ok (.ret (Value.ref l))) s) :=
  .of_wp fun prog w A R s h => by
    obtain ⟨hp, g, d, tk, os⟩ := s
    obtain ⟨hl, h⟩ := h
    have f1 := AutoSeq1.idx_int
    wp_walk using wpAny_loadPart' hl
    repeat (first
      | (refine wpAny_ite_false (decide_eq_false (by rw [c0]; exact Bool.false_ne_true)) ?_; wp_walk using wpAny_loadPart' hl)
      | (refine wpAny_ite_true (decide_eq_true c1) ?_; wp_walk using wpAny_loadPart' hl))
    exact ⟨_, rfl, h⟩
theorem tuple_mul0 (l : Addr) (items : Array Value) (n : Nat) (dd : Option Addr) (sl : Array (Option Value)) (x : Int) (u : Tok) (c0 : (decide (x < -(2 ^ 63)) || decide (x ≥ 2 ^ 63)) = false) (c1 : (items.isEmpty || x == 1) = false) (c2 : (decide (x ≤ 0) || items.isEmpty) = true) :
    Meets (Builtin.«tuple.__mul__» ⟨[.ref l, .int x u], []⟩) (fun _ R s => s.heap.get? l = some { cls := .type "tuple", dict := dd, data := .seq items n, slots := sl } ∧
      R (.ok (.ret (Value.ref s.heap.objs.size))) { s with heap := s.heap.push { cls := Value.type "tuple", data := Data.seq #[] }, toks := s.toks }) :=
  .of_wp fun prog w A R s h => by
    obtain ⟨hp, g, d, tk, os⟩ := s
    obtain ⟨hl, h⟩ := h
    have f1 := AutoSeq1.idx_int
    wp_walk using wpAny_loadPart' hl
    repeat (first
      | (refine wpAny_ite_false (decide_eq_false (by rw [c0]; exact Bool.false_ne_true)) ?_; wp_walk using wpAny_loadPart' hl)
      | (refine wpAny_ite_false (decide_eq_false (by rw [c1]; exact Bool.false_ne_true)) ?_; wp_walk using wpAny_loadPart' hl)
      | (refine wpAny_ite_true (decide_eq_true c2) ?_; wp_walk using wpAny_loadPart' hl))
    exact ⟨_, rfl, h⟩
section
variable {X : Cx}
/-- tuple * k -/
def rRepA (K : PySem.W.Frag) : R2 := fun x y H Q => ∃ l k xs, x = .ref l ∧ y = .int k ∧ SqT K H l xs ∧ 0 ≤ k ∧ k ≤ 1000 ∧ xs.length ≤ 1000 ∧
  (xs = [] ∨ k = 1 → Q (.ref l) H) ∧ (xs ≠ [] → k ≠ 1 → ∀ p, H p = none → Q (.ref p) (upd H p (.tup (List.replicate k.toNat xs).flatten)))
theorem op_repA : OpR X (binaryOp .Mult) (rRepA X.K) := by
  intro pins s σ H x y v u Q I rx ry h
  obtain ⟨l, k, xs, rfl, rfl, hT, h1, h2, hz, q1, q2⟩ := h
  by_cases hg : xs ≠ [] ∧ 2 ≤ k
  · exact op_repT (X := X) pins s σ H _ _ v u Q I rx ry ⟨l, k, xs, rfl, rfl, hT, hg.1, hg.2, h2, hz, q2 hg.1 (by omega)⟩
  · cases rx
    obtain ⟨t, rfl⟩ := ry
    obtain ⟨its, r, ⟨⟨cls, dd, data, sl⟩, ho, hc, n, hd⟩, hs⟩ := I.tuple hT
    simp only at hc hd
    subst hc hd
    have hle : its.length = xs.length := r.length.symm
    have c0 : (decide (k < -(2 ^ 63)) || decide (k ≥ 2 ^ 63)) = false := by
      rw [decide_eq_false (by omega), decide_eq_false (by omega)] <;> rfl
    have emp : its.toArray.isEmpty = true ↔ xs = [] := by
      rw [List.isEmpty_toArray, List.isEmpty_iff]
      constructor
      · intro e
        rw [e] at hle
        exact List.eq_nil_of_length_eq_zero hle.symm
      · intro e
        rw [e] at hle
        exact List.eq_nil_of_length_eq_zero hle
    by_cases hs1 : xs = [] ∨ k = 1
    · have c1 : (its.toArray.isEmpty || k == 1) = true := by
        rcases hs1 with e | e
        · rw [emp.mpr e, Bool.true_or]
        · rw [e]
          simp
      refine wpAny_binaryOp_repeat_ref (T := "tuple") (U := "int") (by decide) ⟨_, ho, rfl⟩ (fun s' => typeIs_int s' k t) noFill_tuple_mul F.fills_int_mul F.slot_int_rmul repeat_tuple F.slot_int_index.lookup
        (call_meets F.slot_int_rmul (typeIs_int s k t) F.entry_int_rmul (F.args_int_rmul_2 _ _) (int_rmul_tuple k t l its.toArray n dd sl)
          ⟨ho, rfl, ⟨_, ho, rfl⟩, call_meets F.slot_tuple_mul ⟨_, ho, rfl⟩ F.entry_tuple_mul (F.args_tuple_mul_2 _ _) (tuple_mulS l its.toArray n dd sl k t c0 c1) ⟨ho, ?_⟩⟩)
      exact ⟨.ref l, H, I, rfl, q1 hs1⟩
    · have h3 : xs ≠ [] := fun e => hs1 (.inl e)
      have h4 : k ≠ 1 := fun e => hs1 (.inr e)
      have h5 : k = 0 := by
        by_cases h6 : 2 ≤ k
        · exact absurd ⟨h3, h6⟩ hg
        · omega
      subst h5
      have c1 : (its.toArray.isEmpty || (0 : Int) == 1) = false := by
        cases e : its.toArray.isEmpty with
        | true => exact absurd (emp.mp e) h3
        | false => rfl
      have c2 : (decide ((0 : Int) ≤ 0) || its.toArray.isEmpty) = true := rfl
      refine wpAny_binaryOp_repeat_ref (T := "tuple") (U := "int") (by decide) ⟨_, ho, rfl⟩ (fun s' => typeIs_int s' 0 t) noFill_tuple_mul F.fills_int_mul F.slot_int_rmul repeat_tuple F.slot_int_index.lookup
        (call_meets F.slot_int_rmul (typeIs_int s 0 t) F.entry_int_rmul (F.args_int_rmul_2 _ _) (int_rmul_tuple 0 t l its.toArray n dd sl)
          ⟨ho, rfl, ⟨_, ho, rfl⟩, call_meets F.slot_tuple_mul ⟨_, ho, rfl⟩ F.entry_tuple_mul (F.args_tuple_mul_2 _ _) (tuple_mul0 l its.toArray n dd sl 0 t c0 c1 c2) ⟨ho, ?_⟩⟩)
      refine ⟨.ref s.heap.objs.size, _, I.laid (t' := s.toks) (o := .tup []) (fun b ob q => Heap.get?_push_of_some _ q) (Nat.le_refl _) ?_, rfl, q2 h3 h4 _ (I.hok.fresh (Nat.le_refl _))⟩
      exact ⟨Nat.zero_le _, [], .nil, IsTup.new _ _⟩
/-- list + list, of lists that are read -/
def rCatL (K : PySem.W.Frag) : R2 := fun x y H Q => ∃ l b xs zs, x = .ref l ∧ y = .ref b ∧ RdL K H l xs ∧ RdL K H b zs ∧ xs.length + zs.length ≤ sizeLine ∧ ∀ p, H p = none → Q (.ref p) (upd H p (.lst (xs ++ zs)))
theorem op_catL : OpR X (binaryOp .Add) (rCatL X.K) := by
  intro pins s σ H x y v u Q I rx ry h
  obtain ⟨l, b, xs, zs, rfl, rfl, hH, hB, hz, q⟩ := h
  cases rx
  cases ry
  obtain ⟨z, its, n, r, hl, e⟩ := hH.at_ I
  obtain ⟨z2, its2, n2, r2, hl2, e2⟩ := hB.at_ I
  refine PySem.P.add_list e e2 ?_ (by rw [List.size_toArray, List.size_toArray]; omega)
  have ea : its.toArray ++ its2.toArray = (its ++ its2).toArray := by simp
  rw [ea]
  exact ⟨.ref _, _, I.lnew (t' := s.toks) (r.append r2) (by rw [List.length_append]; omega), rfl, q _ I.fresh⟩
/-- list * k -/
def rRepL (K : PySem.W.Frag) : R2 := fun x y H Q => ∃ l k xs, x = .ref l ∧ y = .int k ∧ RdL K H l xs ∧ -(2 ^ 63) ≤ k ∧ k < 2 ^ 63 ∧ xs.length * k.toNat ≤ sizeLine ∧
  ∀ p, H p = none → Q (.ref p) (upd H p (.lst (List.replicate k.toNat xs).flatten))
theorem op_repL : OpR X (binaryOp .Mult) (rRepL X.K) := by
  intro pins s σ H x y v u Q I rx ry h
  obtain ⟨l, k, xs, rfl, rfl, hH, h1, h2, hz, q⟩ := h
  cases rx
  obtain ⟨t, rfl⟩ := ry
  obtain ⟨z, its, n, r, hl, e⟩ := hH.at_ I
  have hlen : its.toArray.size * k.toNat ≤ sizeLine := by rw [List.size_toArray, ← hl]; exact hz
  have hcap : ¬ its.toArray.size * k.toNat > (2 ^ 63 - 1) / 8 := by
    have : (sizeLine : Nat) ≤ (2 ^ 63 - 1) / 8 := by decide
    omega
  have hfit : ¬ (!Builtin.List.listFitsIndex k) = true := by
    rw [fitsIndex_both h1 h2]
    exact Bool.false_ne_true
  have hlong : ¬ Builtin.List.listTooLong (its.toArray.size * k.toNat) = true := by
    rw [notLongL hlen]
    exact Bool.false_ne_true
  have hnew : List.foldl (fun x1 x2 => x1 ++ x2) #[] (List.replicate (if its.toArray.isEmpty = true then 0 else k.toNat) its.toArray) = (List.replicate k.toNat its).flatten.toArray := by
    have f0 : ∀ m : Nat, List.foldl (fun x1 x2 => x1 ++ x2) #[] (List.replicate m its.toArray) = (List.replicate m its).flatten.toArray := fun m => by
      have := foldl_rep its m []
      rw [List.nil_append] at this
      exact this
    rw [f0]
    cases its with
    | nil => simp
    | cons a r' => rw [if_neg (by simp)]
  refine wpAny_binaryOp_repeat_ref (T := "list") (U := "int") (by decide) ⟨_, e, rfl⟩ (fun s' => typeIs_int s' k t) noFill_list_mul F.fills_int_mul F.slot_int_rmul repeat_list F.slot_int_index.lookup
    (call_meets F.slot_int_rmul (typeIs_int s k t) F.entry_int_rmul (F.args_int_rmul_2 _ _) (int___rmul___int_list k t l its.toArray n)
      ⟨e, rfl, ⟨_, e, rfl⟩, call_meets F.slot_list_mul ⟨_, e, rfl⟩ F.entry_list_mul (F.args_list_mul_2 _ _) (AutoListH.list___mul___list_int_3 l its.toArray n k t hfit hcap hlong) ⟨e, ?_⟩⟩)
  rw [hnew]
  exact ⟨.ref _, _, I.lnew (t' := s.toks) (r.rep k.toNat) (by rw [PyProof.Rows.lm_len_rep_flat, Nat.mul_comm]; exact hz), rfl, q _ I.fresh⟩
end

structure Gd (X : Cx) : Prop where
  calm : X.calm = true
  nd : X.N.Nodup
  hu : X.A.units + 150 < cLine
  gs : X.A.guards = some []
theorem lim_line : lim ≤ sizeLine := by decide
theorem DqA.rep {K : PySem.W.Frag} {H : Hp} {ds : List PyData} {vs : List V} (r : DqA K H ds vs) : ∀ n : Nat, DqA K H (List.replicate n ds).flatten (List.replicate n vs).flatten
  | 0 => .nil
  | n + 1 => by
    rw [List.replicate_succ, List.replicate_succ, List.flatten_cons, List.flatten_cons]
    exact r.append (r.rep n)
theorem DqA.nil_ {K : PySem.W.Frag} {H : Hp} {ds : List PyData} (r : DqA K H ds []) : ds = [] := by cases r; rfl
section
variable {X : Cx} {pr : List (Addr × HO)} {ρ : Nat → Addr} {H : Hp} {h : AH} {Q : VK} {a b r : D} {x y : V}
/-- a op b -/
theorem bin_ok {o : Operator} (L : Lv X.K pr ρ H h) (ra : Rv X.K ρ H a x) (rb : Rv X.K ρ H b y) (e : binD h o a b = some r) (P : Post X.K pr ρ H h r h Q) : W2 X (binaryOp o) x y H Q := by
  unfold binD at e
  split at e
  rotate_left
  · cases e
  rename_i p q hp hq
  split at e
  rotate_left
  · cases e
  rename_i r' hr
  cases e
  have fi : ∀ {i : Int}, p = .int i → x = .int i := fun z => (z ▸ rd_at hp (fun _ w => by rw [z] at w; cases w) ra : Dq X.K H (.int _) x).int_
  have gi : ∀ {i : Int}, q = .int i → y = .int i := fun z => (z ▸ rd_at hq (fun _ w => by rw [z] at w; cases w) rb : Dq X.K H (.int _) y).int_
  unfold binP at hr
  split at hr
  · -- int + int
    cases hr
    exact w2_of op_add ⟨_, _, fi rfl, gi rfl, P.py L (.int _)⟩
  · -- str + str
    split at hr
    · cases hr
      rename_i s1 s2 hz
      exact w2_of op_add_str ⟨s1, s2, (rd_at hp (fun _ w => by cases w) ra).str_, (rd_at hq (fun _ w => by cases w) rb).str_, Nat.le_trans hz lim_line, P.py L (.str _)⟩
    · cases hr
  · -- tuple + tuple
    split at hr
    · cases hr
      rename_i u v hz
      obtain ⟨pa, xs, rfl, h1, h2⟩ := (rd_at hp (fun _ w => by cases w) ra).tuple_
      obtain ⟨pb, ys, rfl, h3, h4⟩ := (rd_at hq (fun _ w => by cases w) rb).tuple_
      refine w2_of op_catA ⟨pa, pb, xs, ys, rfl, rfl, h1, h3, by rw [← h2.length, ← h4.length]; exact Nat.le_trans hz lim_line, fun z => ?_, fun _ z => ?_, fun _ _ t ht => ?_⟩
      · subst z
        have e0 := h2.nil_
        subst e0
        exact P.py L (.tup h3 h4)
      · subst z
        have e0 := h4.nil_
        subst e0
        rw [List.append_nil] at P
        exact P.py L (.tup h1 h2)
      · exact P.tupN L (h2.append h4) ht
    · cases hr
  · -- list + list
    split at hr
    · cases hr
      rename_i u v hz
      obtain ⟨pa, xs, rfl, h1, h2⟩ := rd_list hp L ra
      obtain ⟨pb, ys, rfl, h3, h4⟩ := rd_list hq L rb
      refine w2_frz (w2_of op_catL ⟨pa, pb, xs, ys, rfl, rfl, h1, h3, by rw [← h2.length, ← h4.length]; exact Nat.le_trans hz lim_line, fun t ht => ?_⟩)
      exact P.lstN L (h2.append h4) ht
    · cases hr
  · -- int - int
    cases hr
    exact w2_of op_sub ⟨_, _, fi rfl, gi rfl, P.py L (.int _)⟩
  · -- int * int
    split at hr
    · cases hr
      rename_i i j hs
      have hs2 := Bool.and_eq_true_iff.mp hs
      exact w2_of op_mul ⟨_, _, fi rfl, gi rfl, .inl ⟨of_decide_eq_true hs2.1, of_decide_eq_true hs2.2⟩, P.py L (.int _)⟩
    · cases hr
  · -- list * int
    split at hr
    · cases hr
      rename_i u k hs
      obtain ⟨h5, h6⟩ := Bool.and_eq_true_iff.mp hs
      obtain ⟨h7, h8⟩ := Bool.and_eq_true_iff.mp h5
      have h6 := of_decide_eq_true h6
      have h7 := of_decide_eq_true h7
      have h8 := of_decide_eq_true h8
      obtain ⟨pa, xs, rfl, h1, h2⟩ := rd_list hp L ra
      refine w2_frz (w2_of op_repL ⟨pa, k, xs, rfl, gi rfl, h1, by omega, by omega, ?_, fun t ht => ?_⟩)
      · rw [← h2.length]
        have : u.length * k.toNat ≤ 1000 * 1000 := Nat.mul_le_mul h6 (by omega)
        exact Nat.le_trans this lim_line
      · exact P.lstN L (h2.rep _) ht
    · cases hr
  · -- tuple * int
    split at hr
    · cases hr
      rename_i u k hs
      obtain ⟨h5, h6⟩ := Bool.and_eq_true_iff.mp hs
      obtain ⟨h7, h8⟩ := Bool.and_eq_true_iff.mp h5
      have h6 := of_decide_eq_true h6
      have h7 := of_decide_eq_true h7
      have h8 := of_decide_eq_true h8
      obtain ⟨pa, xs, rfl, h1, h2⟩ := (rd_at hp (fun _ w => by cases w) ra).tuple_
      refine w2_of op_repA ⟨pa, k, xs, rfl, gi rfl, h1, h7, h8, by rw [← h2.length]; exact h6, fun z => ?_, fun _ _ t ht => ?_⟩
      · rcases z with z | z
        · subst z
          have e0 := h2.nil_
          subst e0
          have e1 : (List.replicate k.toNat ([] : List PyData)).flatten = [] := by simp
          rw [e1] at P
          exact P.py L (.tup h1 h2)
        · subst z
          have e1 : (List.replicate (1 : Int).toNat u).flatten = u := by simp
          rw [e1] at P
          exact P.py L (.tup h1 h2)
      · exact P.tupN L (h2.rep _) ht
    · cases hr
  · -- int // int
    split at hr
    · cases hr
      rename_i i j hs
      obtain ⟨h5, h6⟩ := Bool.and_eq_true_iff.mp hs
      exact w2_of op_fdiv ⟨_, _, fi rfl, gi rfl, ⟨of_decide_eq_true h5, of_decide_eq_true h6⟩, P.py L (.int _)⟩
    · cases hr
  · -- int % int
    split at hr
    · cases hr
      rename_i i j hs
      exact w2_of op_mod ⟨_, _, fi rfl, gi rfl, hs, P.py L (.int _)⟩
    · cases hr
  · -- int ** int
    split at hr
    · cases hr
      rename_i i j hs
      obtain ⟨h5, h6⟩ := Bool.and_eq_true_iff.mp hs
      obtain ⟨h7, h8⟩ := Bool.and_eq_true_iff.mp h5
      obtain ⟨h9, h10⟩ := Bool.and_eq_true_iff.mp h7
      have h9 := of_decide_eq_true h9
      have h10 := of_decide_eq_true h10
      have h6 := of_decide_eq_true h6
      have h8 := of_decide_eq_true h8
      exact w2_of op_pow ⟨_, _, fi rfl, gi rfl, ⟨h8, by omega, by omega⟩, P.py L (.int _)⟩
    · cases hr
  · -- int >> int
    split at hr
    · cases hr
      rename_i i j hs
      exact w2_of op_shr ⟨_, _, fi rfl, gi rfl, hs, P.py L (.int _)⟩
    · cases hr
  · -- int & int
    cases hr
    exact w2_of op_and ⟨_, _, fi rfl, gi rfl, P.py L (.int _)⟩
  · cases hr
end
end Zm
/-! Zm 5: comparisons, places, slices, isinstance. -/
namespace Zm
open PySem PySem.Spec PyProof.Rows L2
theorem shp_all {ps : List PyData} (h : ps.all shp = true) : PyData.canLayAll0 ps = true ∧ PyData.depthAll ps ≤ 64 := by
  induction ps with
  | nil => exact ⟨by simp [PyData.canLayAll0], by simp [PyData.depthAll]⟩
  | cons p r ih =>
    rw [List.all_cons, Bool.and_eq_true] at h
    obtain ⟨h1, h2⟩ := h
    obtain ⟨i1, i2⟩ := ih h2
    have c1 := SeqAt.canLay_of_shaped h1
    have d1 := SeqAt.depth_of_shaped h1
    refine ⟨by simp [PyData.canLayAll0, c1, i1], ?_⟩
    simp only [PyData.depthAll]
    omega
section
variable {X : Cx} {pr : List (Addr × HO)} {ρ : Nat → Addr} {H : Hp} {h : AH} {Q : VK} {a b r : D} {x y : V}
/-- x in t, t < u, by what is read -/
def rInT (K : PySem.W.Frag) (neg : Bool) : R2 := fun x y H Q => ∃ d ds, Dp K H x d ∧ Dp K H y (.tuple ds) ∧ shp d = true ∧ ds.all shp = true ∧ Q (.bl (if neg then !ds.any fun z => PyData.eqv z d else ds.any fun z => PyData.eqv z d)) H
theorem room_in {d : PyData} {A : Around} {n : Nat} (sd : shp d = true) (hu : A.units + 65 < cLine) : A.units + 1 + min n d.depth < cLine := by
  have := SeqAt.depth_of_shaped sd
  have h2 : min n d.depth ≤ d.depth := Nat.min_le_right _ _
  omega
theorem op_inT (hu : X.A.units + 65 < cLine) : OpR X (compareOp .In) (rInT X.K false) := by
  intro pins s σ H x y v u Q I rx ry h
  obtain ⟨d, ds, hd, he, sd, se, q⟩ := h
  obtain ⟨as, r1⟩ := Dp.reads I d x v hd rx
  obtain ⟨bs, r2⟩ := Dp.reads I (.tuple ds) y u he ry
  exact SeqAt.in_tuple_reads r2 r1 (shp_all se).1 (SeqAt.canLay_of_shaped sd) (room_in sd hu) ⟨.bl _, H, I, rfl, q⟩
theorem op_notInT (hu : X.A.units + 65 < cLine) : OpR X (compareOp .NotIn) (rInT X.K true) := by
  intro pins s σ H x y v u Q I rx ry h
  obtain ⟨d, ds, hd, he, sd, se, q⟩ := h
  obtain ⟨as, r1⟩ := Dp.reads I d x v hd rx
  obtain ⟨bs, r2⟩ := Dp.reads I (.tuple ds) y u he ry
  exact SeqAt.notIn_tuple_reads r2 r1 (shp_all se).1 (SeqAt.canLay_of_shaped sd) (room_in sd hu) ⟨.bl _, H, I, rfl, q⟩
def rInLs (K : PySem.W.Frag) (neg : Bool) : R2 := fun x y H Q => ∃ d ds, Dp K H x d ∧ Dp K H y (.list ds) ∧ shp d = true ∧ ds.all shp = true ∧ Q (.bl (if neg then !ds.any fun z => PyData.eqv z d else ds.any fun z => PyData.eqv z d)) H
theorem op_inLs (hu : X.A.units + 65 < cLine) : OpR X (compareOp .In) (rInLs X.K false) := by
  intro pins s σ H x y v u Q I rx ry h
  obtain ⟨d, ds, hd, he, sd, se, q⟩ := h
  obtain ⟨as, r1⟩ := Dp.reads I d x v hd rx
  obtain ⟨bs, r2⟩ := Dp.reads I (.list ds) y u he ry
  exact SeqAt.in_list_reads r2 r1 (shp_all se).1 (SeqAt.canLay_of_shaped sd) (room_in sd hu) ⟨.bl _, H, I, rfl, q⟩
theorem op_notInLs (hu : X.A.units + 65 < cLine) : OpR X (compareOp .NotIn) (rInLs X.K true) := by
  intro pins s σ H x y v u Q I rx ry h
  obtain ⟨d, ds, hd, he, sd, se, q⟩ := h
  obtain ⟨as, r1⟩ := Dp.reads I d x v hd rx
  obtain ⟨bs, r2⟩ := Dp.reads I (.list ds) y u he ry
  exact SeqAt.notIn_list_reads r2 r1 (shp_all se).1 (SeqAt.canLay_of_shaped sd) (room_in sd hu) ⟨.bl _, H, I, rfl, q⟩
def rLtD (K : PySem.W.Frag) : R2 := fun x y H Q => ∃ d e, Dp K H x d ∧ Dp K H y e ∧ PySem.W.alike d e = true ∧ d ≠ .none ∧ d.depth ≤ 64 ∧ Q (.bl (PySem.W.dataLt d e)) H
theorem op_ltD (hu : X.A.units + 65 < cLine) : OpR X (compareOp .Lt) (rLtD X.K) := by
  intro pins s σ H x y v u Q I rx ry h
  obtain ⟨d, e, hd, he, al, hn, dp, q⟩ := h
  obtain ⟨as, r1⟩ := Dp.reads I d x v hd rx
  obtain ⟨bs, r2⟩ := Dp.reads I e y u he ry
  have hm : min d.depth e.depth ≤ d.depth := Nat.min_le_left _ _
  exact PySem.W.rcLt_alike d e X.A s v u as bs r1 r2 al hn (by omega) X.prog X.w X.xe _ ⟨.bl _, H, I, rfl, q⟩
theorem toPy_none {d : D} (e : toPy h d = some .none) : d = .py .none := by
  rcases toPy_cases e with z | ⟨_, _, _, _, z⟩
  · exact z
  · cases z
theorem rv_isNone (ra : Rv X.K ρ H a x) : isNone a = decide (x = .non) := by
  cases ra with
  | py q => cases q <;> rfl
  | tup _ _ => rfl
  | obj l => rfl
theorem cmp_ok {o : CmpOp} {c : Bool} (G : Gd X) (L : Lv X.K pr ρ H h) (ra : Rv X.K ρ H a x) (rb : Rv X.K ρ H b y) (e : cmpD h o a b = some c) (P : Post X.K pr ρ H h (.b c) h Q) : W2 X (compareOp o) x y H Q := by
  have hu := G.hu
  unfold cmpD at e
  split at e
  · cases e
    have ey : y = .non := by
      cases rb with
      | py q => exact q.none_
    refine w2_of op_isN ⟨ey, ?_⟩
    rw [← rv_isNone ra]
    exact P.py L (.bl _)
  · cases e
    have ey : y = .non := by
      cases rb with
      | py q => exact q.none_
    refine w2_of op_notN ⟨ey, ?_⟩
    rw [← rv_isNone ra]
    exact P.py L (.bl _)
  split at e
  rotate_left
  · cases e
  rename_i p q hp hq
  have fi : ∀ {i : Int}, p = .int i → x = .int i := fun z => (z ▸ rd_at hp (fun _ w => by rw [z] at w; cases w) ra : Dq X.K H (.int _) x).int_
  have gi : ∀ {i : Int}, q = .int i → y = .int i := fun z => (z ▸ rd_at hq (fun _ w => by rw [z] at w; cases w) rb : Dq X.K H (.int _) y).int_
  have da := rd_dp hp L ra
  have db := rd_dp hq L rb
  have fin : Q (.bl c) H := P.py L (.bl c)
  unfold cmpP at e
  split at e
  · split at e
    · cases e
      rename_i hs
      obtain ⟨h1, h2⟩ := Bool.and_eq_true_iff.mp hs
      exact w2_of (op_eqD (by omega)) ⟨_, _, da (shp_noDict h1), db (shp_noDict h2), h1, h2, fin⟩
    · cases e
  · split at e
    · cases e
      rename_i hs
      obtain ⟨h1, h2⟩ := Bool.and_eq_true_iff.mp hs
      exact w2_of (op_neD (by omega)) ⟨_, _, da (shp_noDict h1), db (shp_noDict h2), h1, h2, fin⟩
    · cases e
  · cases e
    exact w2_of op_lt ⟨_, _, fi rfl, gi rfl, fin⟩
  · cases e
    exact w2_of op_le ⟨_, _, fi rfl, gi rfl, fin⟩
  · cases e
    exact w2_of op_gt ⟨_, _, fi rfl, gi rfl, fin⟩
  · cases e
    exact w2_of op_ge ⟨_, _, fi rfl, gi rfl, fin⟩
  · split at e
    · cases e
      rename_i hs
      obtain ⟨h0, h3⟩ := Bool.and_eq_true_iff.mp hs
      obtain ⟨h1, h2⟩ := Bool.and_eq_true_iff.mp h0
      obtain ⟨h4, h5⟩ := Bool.and_eq_true_iff.mp h3
      exact w2_of (op_ltD (by omega)) ⟨_, _, da (by simpa using h4), db (by simpa using h5), h1, fun z => (by cases z), of_decide_eq_true h2, fin⟩
    · cases e
  · cases e
    exact w2_of op_lt_str ⟨_, _, (rd_at hp (fun _ w => by cases w) ra).str_, (rd_at hq (fun _ w => by cases w) rb).str_, fin⟩
  · split at e
    · cases e
      rename_i hs
      obtain ⟨h1, h2⟩ := Bool.and_eq_true_iff.mp hs
      exact w2_of (op_inT (by omega)) ⟨_, _, da (shp_noDict h1), db (by rw [PyData.hasDict]; exact shp_noDictA h2), h1, h2, fin⟩
    · cases e
  · split at e
    · cases e
      rename_i hs
      obtain ⟨h1, h2⟩ := Bool.and_eq_true_iff.mp hs
      exact w2_of (op_inLs (by omega)) ⟨_, _, da (shp_noDict h1), db (by rw [PyData.hasDict]; exact shp_noDictA h2), h1, h2, fin⟩
    · cases e
  · split at e
    · cases e
      rename_i hs
      obtain ⟨h1, h2⟩ := Bool.and_eq_true_iff.mp hs
      exact w2_of (op_notInT (by omega)) ⟨_, _, da (shp_noDict h1), db (by rw [PyData.hasDict]; exact shp_noDictA h2), h1, h2, fin⟩
    · cases e
  · split at e
    · cases e
      rename_i hs
      obtain ⟨h1, h2⟩ := Bool.and_eq_true_iff.mp hs
      exact w2_of (op_notInLs (by omega)) ⟨_, _, da (shp_noDict h1), db (by rw [PyData.hasDict]; exact shp_noDictA h2), h1, h2, fin⟩
    · cases e
  · cases e
    exact w2_of op_isBl ⟨_, _, (rd_at hp (fun _ w => by cases w) ra).bool_, (rd_at hq (fun _ w => by cases w) rb).bool_, fin⟩
  · cases e
    exact w2_of op_notBl ⟨_, _, (rd_at hp (fun _ w => by cases w) ra).bool_, (rd_at hq (fun _ w => by cases w) rb).bool_, fin⟩
  · cases e
end
end Zm
/-! Zm q: sorted of tuples of which the first is (). -/
namespace Zm
open PySem PySem.Spec PySem.W PySem.Calls PyProof.Rows PySem.SeqAt
section
variable {prog : Program} {w : World} {A : Around} {E : Value → Shared → Prop} {s : Shared}
theorem call_tuple_lt {Q : Value → Shared → Prop} {l b : Addr} {items items2 : Array Value} {e r : Nat → Bool} (hl : s.heap.IsTuple l items) (hb : s.heap.IsTuple b items2)
    (he : ∀ j (h1 : j < items.size) (h2 : j < items2.size), EqAt A.in1 s items[j] items2[j] (e j)) (hr : ∀ j (h1 : j < items.size) (h2 : j < items2.size), e j = false → RcLt A.in1 s items[j] items2[j] (r j))
    (h : Q (.bool (firstLt e r (decide (items.size < items2.size)) (List.range (min items.size items2.size)))) s) : wpAny (model prog w) A (call (.builtin "tuple.__lt__") [.ref l, .ref b]) Q E s := by
  obtain ⟨⟨cls, dd, data, sl⟩, ho, hc, n, hd⟩ := id hl
  obtain ⟨⟨cls2, dd2, data2, sl2⟩, ho2, hc2, n2, hd2⟩ := id hb
  simp only at hc hd hc2 hd2
  subst hc hd hc2 hd2
  exact call_meets F.slot_tuple_lt ⟨_, ho, rfl⟩ F.entry_tuple_lt (F.args_tuple_lt_2 _ _) (tuple_ltAt l b items items2 n n2 dd dd2 sl sl2 e r) ⟨ho, ho2, he, hr, h⟩
theorem oneLt_tup {xs ys : List PyData} {a b : Value} {as bs : List Addr} {Q : Bool → Shared → Prop} (ra : Reads s.heap a (.tuple xs) as) (rb : Reads s.heap b (.tuple ys) bs) (h : alike (.tuple xs) (.tuple ys) = true)
    (hu : A.units + min (PyData.tuple xs).depth (PyData.tuple ys).depth < cLine) (hq : Q (dataLt (.tuple xs) (.tuple ys)) s) : wpAny (model prog w) A (oneLt' true a b) Q E s := by
  have hal : alikeAll xs ys = true := by simpa [alike] using h
  cases ra with
  | @tuple l o vs n _ as₁ h1 h2 h3 h4 =>
    cases rb with
    | @tuple l' o' vs' n' _ bs₁ k1 k2 k3 k4 =>
      have n1 : vs.size = xs.length := by simpa using ReadsAll.length _ _ _ h4
      have n2 : vs'.size = ys.length := by simpa using ReadsAll.length _ _ _ k4
      rw [dataLt_tuple, ← firstLt_toks xs ys hal, ← n1, ← n2] at hq
      rw [oneLt'_eq]
      simp only [if_true]
      refine wpAny_bind (wpAny_cRoomFor (room_here hu) ?_)
      refine wpAny_bind (wpAny_callSpecialIfBound?_slot (T := "tuple") ⟨_, h1, h2⟩ F.slot_tuple_lt (call_tuple_lt (e := pairEq xs ys) (r := fun j => dataLt (xs.getD j .none) (ys.getD j .none)) ⟨_, h1, h2, _, h3⟩ ⟨_, k1, k2, _, k3⟩ (fun j j1 j2 => ?_) (fun j j1 j2 hj => ?_) ?_))
      · have := eqAt_alikeAll xs ys A.in1 s vs.toList vs'.toList _ _ h4 k4 hal (SeqAt.room_in hu) j (by simpa using j1) (by simpa using j2)
        simpa using this
      · have := rcLt_alikeAll xs ys A.in1 s vs.toList vs'.toList _ _ h4 k4 hal (SeqAt.room_in hu) j (by simpa using j1) (by simpa using j2) hj
        simpa using this
      · exact wpAny_truthy_bool hq
theorem firstsE {M : Model} : ∀ {vs : List Value} {ds : List PyData}, EachIs (fun v d => ∃ as, Reads s.heap v d as) vs ds → (∀ d, d ∈ ds → ∃ xs, d = .tuple xs) → ∃ fs : List (Option Value), (∀ r, ds = .tuple [] :: r → ∃ t, fs = none :: t) ∧ ∀ Q : List (Option Value) → Shared → Prop, Q fs s → wpAny M A (vs.mapM firstOfTuple') Q E s
  | _, _, .nil, _ => ⟨[], fun r z => (by cases z), fun Q h => by rw [List.mapM_nil]; exact wpAny_pure h⟩
  | _, _, .cons (b := d) ⟨as, r⟩ t, ht => by
    obtain ⟨fs, _, h2⟩ := firstsE (M := M) t fun d hd => ht d (List.mem_cons_of_mem _ hd)
    obtain ⟨xs, rfl⟩ := ht d List.mem_cons_self
    cases r with
    | @tuple a o vs n _ _ ho hc hd hr =>
      refine ⟨vs[0]? :: fs, fun r z => ?_, fun Q h => ?_⟩
      · cases z
        have e : vs.toList = [] := by
          cases q : vs.toList with
          | nil => rfl
          | cons x r =>
            rw [q] at hr
            cases hr
        have e2 : vs[0]? = none := by rw [← Array.getElem?_toList, e]; rfl
        exact ⟨fs, by rw [e2]⟩
      · rw [List.mapM_cons]
        refine wpAny_bind ?_
        rw [kas_first_eq]
        refine wpAny_bind (Looks.here (show Looks M s.heap (typeOf (.ref a)) o.cls from (Looks.ld ho).andThen .now) ?_)
        rw [hc, if_neg (by first | decide | simp)]
        refine wpAny_bind (listItems_at ho hd (wpAny_pure ?_))
        exact wpAny_bind (h2 (fun bs s' => wpAny M A (pure (vs[0]? :: bs)) Q E s') (wpAny_pure h))
theorem kindE {vs : List Value} {ds : List PyData} {Q : SortKind → Shared → Prop} (e : EachIs (fun v d => ∃ as, Reads s.heap v d as) vs ds) (ht : ∀ d, d ∈ ds → ∃ xs, d = .tuple xs) (h0 : ∃ r, ds = .tuple [] :: r) (hq : Q oneType' s) :
    wpAny (model prog w) A (keyKind' vs.toArray) Q E s := by
  obtain ⟨fs, f1, f2⟩ := firstsE (A := A) (E := E) (M := model prog w) e ht
  obtain ⟨r, rfl⟩ := h0
  obtain ⟨t, rfl⟩ := f1 r rfl
  have hT : ∀ v ∈ vs, Looks (model prog w) s.heap (typeOf v) (Value.type "tuple") := fun v hv => by
    obtain ⟨d, hd, as, r1⟩ := e.left v hv
    obtain ⟨xs, rfl⟩ := ht d hd
    exact looks_reads r1
  rw [keyKind'_eq, List.mapM_toArray, map_eq_pure_bind]
  refine wpAny_bind (wpAny_bind (f2 _ (wpAny_pure ?_)))
  rw [if_neg (by simp), if_neg (by simp)]
  rw [oneTypeOnly'_eq, List.mapM_toArray, map_eq_pure_bind]
  refine wpAny_bind (wpAny_bind (wpAny_bind (kas_mapM (r := Value.type "tuple") _ (fun v hv Q' hq => (hT v hv).here hq) (wpAny_pure ?_))))
  have hall : ((List.map (fun _ => Value.type "tuple") vs).toArray.all fun x => x == Value.type "tuple") = true := by
    simp only [List.all_toArray, List.all_map, List.all_eq_true]
    intro _ _
    rfl
  have h0 : (List.map (fun _ => Value.type "tuple") vs).toArray[0]? = some (Value.type "tuple") := by
    cases e
    simp
  rw [h0]
  simp only [hall, if_true]
  exact wpAny_pure (wpAny_pure hq)
/-- may be sorted -/
def Srt2 (ds : List PyData) : Prop := Sortable ds ∨ ((∀ d, d ∈ ds → ∃ xs, d = .tuple xs) ∧ ∃ r, ds = .tuple [] :: r)
theorem sortsAt2 {vs : List Value} {ds : List PyData} (e : EachIs (fun v d => ∃ as, Reads s.heap v d as) vs ds) (hal : AllAlike ds) (hk : Srt2 ds) (hu : ∀ d, d ∈ ds → A.units + d.depth < cLine) : SortsAt prog w A s (dataKind s.heap ds) vs := by
  rcases hk with hk | ⟨ht, h0⟩
  · exact SortsAt.data e hal hk hu
  refine ⟨fun v hv => ?_, oneType', ?_, fun h2 E Q hq => kindE e ht h0 hq⟩
  · obtain ⟨d, hd, as, r⟩ := e.left v hv
    exact ⟨_, dataKind_some hal hd r⟩
  · intro E x y a b Q ha hb hq
    obtain ⟨d, as, hd, ra, rfl⟩ := dataKind_inv ha
    obtain ⟨d', as', hd', rb, rfl⟩ := dataKind_inv hb
    have hroom : A.units + min d.depth d'.depth < cLine := Nat.lt_of_le_of_lt (Nat.add_le_add_left (Nat.min_le_left _ _) _) (hu d hd)
    have hdd := hal d hd d' hd'
    obtain ⟨x1, rfl⟩ := ht d hd
    obtain ⟨x2, rfl⟩ := ht d' hd'
    rw [keyLt'_oneType]
    exact oneLt_tup ra rb hdd hroom hq
end
end Zm
/-! Zm 6: sorted of what can be collected; sum, max, min of tuples. -/
namespace Zm
open PySem PySem.Spec PySem.W PySem.Calls PyProof.Rows
section
variable {prog : Program} {w : World} {A : Around} {E : Value → Shared → Prop} {s : Shared} {vs : List Value} {bs : List PyData} {R : Value → PyData → Prop}
/-- sorted(x), x what may be collected -/
theorem sorted_gen {x : Value} {Q : Value → Shared → Prop}
    (hcoll : ∀ Q' : List Value → Shared → Prop, (∀ h' : Heap, (∀ b o, s.heap.get? b = some o → h'.get? b = some o) → Q' vs { s with heap := h' }) → wpAny (model prog w) A.in1 (collect x) Q' E s)
    (e : EachIs R vs bs) (er : EachIs (fun v b => ∃ as, Reads s.heap v b as) vs bs) (hal : AllAlike bs) (hk : Srt2 bs) (hL : bs.length ≤ sizeLine)
    (hu : ∀ b, b ∈ bs → A.units + 2 + b.depth < cLine)
    (h : ∀ (h1 : Heap) (out : List Value) (D : Addr) (n : Nat) (h' : Heap), (∀ b o, s.heap.get? b = some o → h1.get? b = some o) → (∀ b o, h1.get? b = some o → h'.get? b = some o) → h1.objs.size ≤ D → h'.get? D = some (seqObj "list" out.toArray n) → out.length = bs.length → EachIs R out (bs.mergeSort (dataLe false id)) → Q (.ref D) { s with heap := h' }) :
    wpAny (model prog w) A (call (.builtin "sorted") [x]) Q E s := by
  have hLv : vs.length ≤ sizeLine := by rw [e.length]; exact hL
  have em : bs.map id = bs := List.map_id bs
  refine call_function_entry_kw kind_sorted plain_sorted entry_sorted (args_sorted1 _) ?_
  unfold Builtin.«sorted»
  refine wpAny_bind (m := checkCount "sorted" 1 1 _) (wpAny_pure ?_)
  refine wpAny_bind (hcoll _ fun h1 hk1 => ?_)
  refine wpAny_bind (wpAny_newList ?_ hLv)
  have ho : (h1.push (seqObj "list" vs.toArray 0)).get? h1.objs.size = some (seqObj "list" vs.toArray 0) := Heap.get?_push_size _ rfl
  have old1 : ∀ b o, h1.get? b = some o → (h1.push (seqObj "list" vs.toArray 0)).get? b = some o := fun b o q => Heap.get?_push_of_some _ q
  have er' : EachIs (fun v b => ∃ as, Reads (sortingHeap (h1.push (seqObj "list" vs.toArray 0)) h1.objs.size vs) v b as) vs bs := er.mono fun _ _ ⟨as, r⟩ => ⟨as, PyProof.Rows.Reads.keeps (fun b o q => sortingHeap_old (Nat.ne_of_lt (Heap.lt_size (hk1 b o q))) (old1 b o (hk1 b o q))) r⟩
  show wpAny _ _ _ _ _ { s with heap := h1.push (seqObj "list" vs.toArray 0) }
  refine wpAny_bind (wpAny_holding (wpAny_call_entry_kw slot_list_sort ⟨_, ho, rfl⟩ entry_list_sort ?body (args_list_sort _)))
  case body =>
    show wpAny (model prog w) A.in1.in1 (Builtin.«list.sort» ⟨[.ref h1.objs.size], []⟩) _ _ _
    refine list_sort_vals (κ := dataKind (sortingHeap (h1.push (seqObj "list" vs.toArray 0)) h1.objs.size vs) (bs.map id)) ho (sortsAt2 (s := { s with heap := sortingHeap (h1.push (seqObj "list" vs.toArray 0)) h1.objs.size vs }) (by rw [em]; exact er') (by rw [em]; exact hal) (by rw [em]; exact hk) (by
      rw [em]
      intro b hb
      have := hu b hb
      show A.units + 1 + 1 + _ < _
      omega)) hLv ?_
    refine ⟨_, rfl, wpAny_pure ⟨_, rfl, ?_⟩⟩
    obtain ⟨n, hn⟩ := sortedHeap_at (out := (sortVals (dataKind (sortingHeap (h1.push (seqObj "list" vs.toArray 0)) h1.objs.size vs) (bs.map id)) false vs vs).toArray) (vs := vs) ho
    refine h h1 _ h1.objs.size n _ hk1 (fun b o q => ?_) (Nat.le_refl _) hn ?_ ?_
    · rw [sortedHeap_old (Nat.ne_of_lt (Heap.lt_size q)) (Heap.lt_size (old1 b o q))]
      exact old1 b o q
    · rw [sortVals_length false rfl]
      exact e.length
    · exact sortVals_data (enc := id) false e er' (by rw [em]; exact hal)
end
end Zm
/-! Zm 7: built-in functions. -/
namespace Zm
open PySem PySem.Spec PyProof.Rows L2
section
variable {X : Cx} {pr : List (Addr × HO)} {ρ : Nat → Addr} {H : Hp} {h : AH} {Q : VK}
/-- a call, as weakest wish -/
def WC (X : Cx) (f : Value) : List V → Hp → VK → Prop := fun xs H Q => ∀ (pins : List (Addr × Obj)) (s : Shared) (σ : L2.St) (us : List Value), Inv X pins σ H s → Vals xs us →
  wpAny (model X.prog X.w) X.A (call f us) (EP X pins σ Q) X.xe s
theorem callR_wc {f : Value} : CallR X f (WC X f) := fun pins s σ _ _ us _ I r h => h pins s σ us I r
theorem wc_of {f : Value} {r : List V → Hp → VK → Prop} {xs : List V} (hc : CallR X f r) (q : r xs H Q) : WC X f xs H Q := fun pins s σ us I rv => hc pins s σ H xs us Q I rv q
theorem wc_frz {f : Value} {xs : List V} (q : WC X f xs H (Fz Q)) : WC X f xs H Q := fun pins s σ us I rv => thn (q pins s σ us I rv) fun _ _ q => ep_frz q

/-! ### data of one kind -/
theorem bools_v {K : PySem.W.Frag} : ∀ {ps : List PyData} {bs : List Bool} {vs : List V}, bools ps = some bs → DqA K H ps vs → vs = bs.map V.bl
  | [], bs, _, e, r => by
    cases r
    simp only [bools, Option.some.injEq] at e
    subst e
    rfl
  | .bool b :: ps, bs, _, e, r => by
    simp only [bools] at e
    split at e
    · cases e
      rename_i bs' hb
      cases r with
      | cons r1 r2 =>
        rw [r1.bool_, bools_v hb r2]
        rfl
    · cases e
  | .none :: _, _, _, e, _ => by simp [bools] at e
  | .int _ :: _, _, _, e, _ => by simp [bools] at e
  | .str _ :: _, _, _, e, _ => by simp [bools] at e
  | .list _ :: _, _, _, e, _ => by simp [bools] at e
  | .tuple _ :: _, _, _, e, _ => by simp [bools] at e
  | .dict _ :: _, _, _, e, _ => by simp [bools] at e
theorem intL_v {K : PySem.W.Frag} : ∀ {ps : List PyData} {ns : List Int} {vs : List V}, intL ps = some ns → DqA K H ps vs → vs = ns.map V.int
  | [], bs, _, e, r => by
    cases r
    simp only [intL, Option.some.injEq] at e
    subst e
    rfl
  | .int b :: ps, bs, _, e, r => by
    simp only [intL] at e
    split at e
    · cases e
      rename_i bs' hb
      cases r with
      | cons r1 r2 =>
        rw [r1.int_, intL_v hb r2]
        rfl
    · cases e
  | .none :: _, _, _, e, _ => by simp [intL] at e
  | .bool _ :: _, _, _, e, _ => by simp [intL] at e
  | .str _ :: _, _, _, e, _ => by simp [intL] at e
  | .list _ :: _, _, _, e, _ => by simp [intL] at e
  | .tuple _ :: _, _, _, e, _ => by simp [intL] at e
  | .dict _ :: _, _, _, e, _ => by simp [intL] at e

/-! ### sum of a tuple of ints -/
theorem sum_rawT {prog : Program} {w : World} {A : Around} {E : Value → Shared → Prop} {s : Shared} {l : Addr} {its : List Value} {ns : List Int} {Q : Value → Shared → Prop} (hh : A.handled = none) (hl : s.heap.IsTuple l its.toArray) (hi : IntsAre its ns)
    (h : ∀ h' tk t', (∀ b o, s.heap.get? b = some o → h'.get? b = some o) → Q (.int ns.sum t') { s with heap := h', toks := tk }) : wpAny (model prog w) A (call (.builtin "sum") [.ref l]) Q E s := by
  obtain ⟨xs, e⟩ := hi.allInts.items
  have hn : numsOf (intItems xs).toList = ns := by rw [← e]; exact hi.numsOf
  rw [nums_intItems] at hn
  rw [e] at hl
  have hlt : l < s.heap.objs.size := by obtain ⟨_, q, _⟩ := hl; exact Heap.lt_size q
  refine call_sum_walkG (wpAny_pyIter_tuple hl ?_)
  refine ⟨_, _, _, _, _, _, numAt xs, rfl, Walks.tuple (A := A.in1) hh _ l (Nat.ne_of_lt hlt) (intItems xs), ⟨⟨_, Heap.get?_push_size _ rfl, rfl, rfl⟩, hl.push _⟩, fun b hb => ?_, fun _ _ => intItems_at, fun h' tk t' hk => ?_⟩
  · show b < (s.heap.push _).objs.size
    rw [Heap.size_push]
    rcases List.mem_cons.mp hb with rfl | hb
    · exact Nat.lt_succ_self _
    · rcases List.mem_cons.mp hb with rfl | hb
      · exact Nat.lt_succ_of_lt hlt
      · cases hb
  · have hk2 : ∀ b o, s.heap.get? b = some o → h'.get? b = some o := fun b o q => by
      refine hk b o (fun hm => ?_) (Heap.get?_push_of_some _ q)
      rcases List.mem_cons.mp hm with e1 | hm
      · exact absurd (e1 ▸ Heap.lt_size q) (Nat.lt_irrefl _)
      · cases hm
    have q := h h' tk t' hk2
    have e2 : (intItems xs).size = xs.size := by simp [intItems]
    rw [e2, preSum_eq, List.take_of_length_le (by simp), hn]
    exact q
theorem cr_sumT (hc : X.calm = true) : CallR X (.builtin "sum") (fun vs H Q => ∃ (a : Addr) (ns : List Int), vs = [V.ref a] ∧ SqT X.K H a (ns.map V.int) ∧ Q (.int ns.sum) H) := by
  intro pins s σ H vs us Q I r h
  obtain ⟨a, ns, rfl, hs, q⟩ := h
  obtain ⟨its, rv, hl, _⟩ := I.tuple hs
  rw [Vals.ref1 r]
  exact sum_rawT (I.ok.hd hc) hl rv.ints fun h' tk t' hk => ⟨.int _, H, I.kept hk, ⟨_, rfl⟩, q⟩

/-! ### repr -/
theorem cr_repr (G : Gd X) : CallR X (.builtin "repr") (fun vs H Q => ∃ (v : V) (p : PyData), vs = [v] ∧ Dp X.K H v p ∧ p.hasDict = false ∧ p.showable = true ∧ p.depth ≤ 64 ∧ p.shown.length ≤ sizeLine ∧ Q (.str p.shown) H) := by
  intro pins s σ H vs us Q I r h
  obtain ⟨v, p, rfl, dp, hnd, hs, hd, hz, q⟩ := h
  obtain ⟨u, rfl, ru⟩ := vals1 r
  obtain ⟨as, rd⟩ := Dp.reads I p v u dp ru
  have hu := G.hu
  have hg := G.gs
  cases dp with
  | non =>
    cases ru
    exact P.repr_of_none ⟨.str _, H, I.tok _, ⟨_, rfl⟩, by simpa only [PyData.shown] using q⟩
  | bl b =>
    cases ru
    exact P.repr_of_bool ⟨.str _, H, I.tok _, ⟨_, rfl⟩, by simpa only [PyData.shown] using q⟩
  | int i =>
    obtain ⟨t, rfl⟩ := ru
    refine P.repr_of_int ?_ ⟨.str _, H, I.tok _, ⟨_, rfl⟩, by simpa only [PyData.shown] using q⟩
    simpa only [PyData.showable, decide_eq_true_eq] using hs
  | str x =>
    obtain ⟨t, rfl⟩ := ru
    exact P.repr_of_str ⟨.str _, H, I.tok _, ⟨_, rfl⟩, by simpa only [PyData.shown] using q⟩ (by simpa only [PyData.shown] using hz)
  | lst _ _ =>
    cases ru
    exact repr_of_reads' rd hs (PyData.noDict_hsm hnd) hg (by omega) (fun _ _ e => e) (fun h' u tk hk => ⟨.str _, H, I.kept (t' := tk) hk, ⟨_, rfl⟩, q⟩) hz
  | tup _ _ =>
    cases ru
    exact repr_of_reads' rd hs (PyData.noDict_hsm hnd) hg (by omega) (fun _ _ e => e) (fun h' u tk hk => ⟨.str _, H, I.kept (t' := tk) hk, ⟨_, rfl⟩, q⟩) hz

/-! repr of a dict -/
def encK : Key → PyData
  | .inl i => .int i
  | .inr x => .str x
theorem encK_reads {hp : Heap} {k : Key} {key : Value} (e : keyIs k key = true) : Reads hp key (encK k) [] := by
  rcases keyIs_shape e with ⟨i, t, rfl, rfl⟩ | ⟨x, t, rfl, rfl⟩
  · exact Reads.int i t
  · exact Reads.str x t
theorem scV_reads {hp : Heap} {p : PyData} {v : V} {u : Value} (e : scV p = some v) (r : RelV v u) : Reads hp u p [] := by
  cases p with
  | none =>
    cases e
    cases r
    exact Reads.none
  | bool b =>
    cases e
    cases r
    exact Reads.bool b
  | int i =>
    cases e
    obtain ⟨t, rfl⟩ := r
    exact Reads.int i t
  | str x =>
    cases e
    obtain ⟨t, rfl⟩ := r
    exact Reads.str x t
  | _ => cases e
theorem dkK_enc {p : PyData} {k : Key} (e : dkK p = some k) : p = encK k := by
  cases p with
  | int i => cases e; rfl
  | str x => cases e; rfl
  | _ => cases e
theorem dkV_pairs {hp : Heap} : ∀ {kvs : List (PyData × PyData)} {ks : List (Key × V)} {vs : List (Key × Value)}, dkV kvs = some ks → KV ks vs → PyProof.V.PairsRead hp encK vs kvs []
  | [], _, _, e, r => by
    cases e
    cases r
    exact .nil
  | p :: t, _, _, e, r => by
    simp only [dkV] at e
    split at e
    · rename_i k v q h1 h2 h3
      cases e
      unfold KV at r
      cases r with
      | @cons _ y _ ys h r =>
        obtain ⟨y1, y2⟩ := y
        obtain ⟨g1, g2⟩ := h
        obtain ⟨p1, p2⟩ := p
        have g1' : k = y1 := g1
        subst g1'
        have e1 : p1 = encK k := dkK_enc h1
        rw [e1]
        exact .cons (scV_reads h2 g2) (dkV_pairs h3 r)
    · cases e
theorem cr_reprD (G : Gd X) : CallR X (.builtin "repr") (fun vs H Q => ∃ (a : Addr) (kvs : List (PyData × PyData)) (ks : List (Key × V)), vs = [.ref a] ∧ (∃ o, H a = some (.frz o (.dK ks))) ∧ dkV kvs = some ks ∧ (PyData.dict kvs).showable = true ∧ (PyData.dict kvs).depth ≤ 64 ∧ (PyData.dict kvs).shown.length ≤ sizeLine ∧ Q (.str (PyData.dict kvs).shown) H) := by
  intro pins s σ H vs us Q I r h
  obtain ⟨a, kvs, ks, rfl, ⟨o, ho⟩, hk, hs, hd, hz, q⟩ := h
  obtain ⟨u, rfl, ru⟩ := vals1 r
  cases ru
  obtain ⟨_, hne, vs', rel, dd⟩ := dk_rd I.hok (.inr ⟨o, ho⟩)
  have rd := PyProof.V.reads_dictOf (fun k key e => encK_reads e) dd (dkV_pairs hk rel)
  have hu := G.hu
  have hg := G.gs
  exact repr_of_reads' rd hs (fun _ hm => by
    rw [List.mem_singleton] at hm
    rw [hm] at hne
    simp at hne) hg (by omega) (fun _ _ e => e) (fun h' u tk hk => ⟨.str _, H, I.kept (t' := tk) hk, ⟨_, rfl⟩, q⟩) hz

/-! ### sorted -/
theorem each_dp {K : PySem.W.Frag} : ∀ {ps : List PyData} {vs : List V} {us : List Value}, DqA K H ps vs → (∀ p ∈ ps, p.hasDict = false) → Vals vs us → PySem.W.EachIs (fun u p => ∃ v, RelV v u ∧ Dp K H v p) us ps
  | _, _, _, .nil, _, .nil => .nil
  | _, _, _, .cons h r, n, .cons rv t => .cons ⟨_, rv, h.dp (n _ List.mem_cons_self)⟩ (each_dp r (fun p hp => n p (List.mem_cons_of_mem _ hp)) t)
theorem each_dq {K : PySem.W.Frag} : ∀ {ps : List PyData} {vs : List V} {us : List Value}, DqA K H ps vs → Vals vs us → PySem.W.EachIs (fun u p => ∃ v, RelV v u ∧ Dq K H p v) us ps
  | _, _, _, .nil, .nil => .nil
  | _, _, _, .cons h r, .cons rv t => .cons ⟨_, rv, h⟩ (each_dq r t)
theorem dq_each {K : PySem.W.Frag} : ∀ {us : List Value} {ps : List PyData}, PySem.W.EachIs (fun u p => ∃ v, RelV v u ∧ Dq K H p v) us ps → ∃ vs, DqA K H ps vs ∧ Vals vs us
  | _, _, .nil => ⟨[], .nil, .nil⟩
  | _, _, .cons ⟨v, rv, h⟩ t => by
    obtain ⟨vs, h1, h2⟩ := dq_each t
    exact ⟨v :: vs, .cons h h1, .cons rv h2⟩
theorem sortOk_at {ps : List PyData} (e : sortOk ps = true) : PySem.W.AllAlike ps ∧ Srt2 ps ∧ ∀ a ∈ ps, a.depth ≤ 64 := by
  unfold sortOk at e
  rw [Bool.and_eq_true, Bool.and_eq_true] at e
  obtain ⟨⟨h1, h2⟩, h3⟩ := e
  refine ⟨fun a ha b hb => ?_, ?_, fun a ha => of_decide_eq_true (List.all_eq_true.mp h3 a ha)⟩
  · exact List.all_eq_true.mp (List.all_eq_true.mp h1 a ha) b hb
  · rw [Bool.or_eq_true] at h2
    rcases h2 with h2 | h2
    · refine .inl (.inl fun d hd => ?_)
      have := List.all_eq_true.mp h2 d hd
      cases d with
      | tuple xs => cases xs with
        | nil => cases this
        | cons x r => exact ⟨x, r, rfl⟩
      | none => cases this
      | bool _ => cases this
      | int _ => cases this
      | str _ => cases this
      | list _ => cases this
      | dict _ => cases this
    rw [Bool.or_eq_true] at h2
    rcases h2 with h2 | h2
    · refine .inl (.inr fun d hd => ?_)
      have := List.all_eq_true.mp h2 d hd
      cases d with
      | tuple xs => cases this
      | none => cases this
      | bool _ => exact ⟨fun z => (by cases z), fun _ z => (by cases z)⟩
      | int _ => exact ⟨fun z => (by cases z), fun _ z => (by cases z)⟩
      | str _ => exact ⟨fun z => (by cases z), fun _ z => (by cases z)⟩
      | list _ => exact ⟨fun z => (by cases z), fun _ z => (by cases z)⟩
      | dict _ => exact ⟨fun z => (by cases z), fun _ z => (by cases z)⟩
    · refine .inr ?_
      unfold headE at h2
      split at h2
      rotate_left
      · cases h2
      rename_i r
      refine ⟨fun d hd => ?_, r, rfl⟩
      rcases List.mem_cons.mp hd with q | q
      · exact ⟨[], q⟩
      · have := List.all_eq_true.mp h2 d q
        cases d with
        | tuple xs => exact ⟨xs, rfl⟩
        | _ => cases this
def rSortD (K : PySem.W.Frag) : List V → Hp → VK → Prop := fun vs H Q => ∃ (a : Addr) (xs : List V) (ps : List PyData), vs = [.ref a] ∧ (RdL K H a xs ∨ SqT K H a xs) ∧ DqA K H ps xs ∧ sortOk ps = true ∧
  ∀ (p : Addr) (ys : List V), H p = none → DqA K H (sortP ps) ys → Q (.ref p) (upd H p (.lst ys))
theorem cr_sortD (G : Gd X) : CallR X (.builtin "sorted") (rSortD X.K) := by
  intro pins s σ H vs us Q I r h
  obtain ⟨a, xs, ps, rfl, hs, hd, ok, q⟩ := h
  rw [Vals.ref1 r]
  obtain ⟨al, so, dp⟩ := sortOk_at ok
  have hu := G.hu
  have main : ∀ (its : List Value) (T : String) (o : Obj) (n : Nat), xs.length ≤ sizeLine → Vals xs its → (T = "list" ∨ T = "tuple") → s.heap.get? a = some o → o.cls = .type T → o.data = .seq its.toArray n →
      wpAny (model X.prog X.w) X.A (call (.builtin "sorted") [.ref a]) (EP X pins σ Q) X.xe s := fun its T o n hz rv hT ho hc hdat => by
    have hlen : its.length = ps.length := by have := rv.length; have := hd.length; omega
    refine sorted_gen (vs := its) (bs := ps) (R := fun u p => ∃ v, RelV v u ∧ Dq X.K H p v) (fun Q' hq => ?_) (each_dq hd rv) ?_ al so (by have := hd.length; omega) (fun b hb => by have := dp b hb; omega) ?_
    · exact wpAny_collect_seq a hT ho hc hdat (fun h' k => hq h' k) (by have := rv.length; rw [List.size_toArray]; omega)
    · refine (each_dp hd (fun p hp => alike_noDict (al p hp p hp)) rv).mono fun u p ⟨v, rv, dq⟩ => Dp.reads I p v u dq rv
    · intro h1 out D n' h' k1 k2 hD hat hol ho2
      obtain ⟨ys, y1, y2⟩ := dq_each ho2
      have hl2 : ys.length ≤ sizeLine := by have := y2.length; have := rv.length; omega
      have I0 : Inv X pins σ H { s with heap := h1 } := I.kept (t' := s.toks) k1
      have I1 : Inv X pins σ (upd H D (.lst ys)) { s with heap := h' } := I0.laid (t' := s.toks) k2 hD ⟨hl2, out, n', y2, hat⟩
      exact ⟨.ref D, _, I1, rfl, q D ys (I0.hok.fresh hD) (by unfold sortP; exact y1)⟩
  rcases hs with hs | hs
  · obtain ⟨hz, its, n, rv, _, e⟩ := hs.at_ I
    exact main its "list" _ n hz rv (.inl rfl) e rfl rfl
  · obtain ⟨its, rv, ⟨o, e1, e2, n, e3⟩, hz⟩ := I.tuple hs
    exact main its "tuple" o n hz rv (.inr rfl) e1 e2 e3
end
end Zm
/-! Zm 8: built-in functions by the machine's word; places, slices, kinds. -/
namespace Zm
open PySem PySem.Spec PyProof.Rows L2
def biV : Bi → Value
  | .len => .builtin "len"
  | .all => .builtin "all"
  | .any => .builtin "any"
  | .sum => .builtin "sum"
  | .min => .builtin "min"
  | .max => .builtin "max"
  | .tuple => .type "tuple"
  | .list => .type "list"
  | .sorted => .builtin "sorted"
  | .sset => .none
  | .divmod => .builtin "divmod"
  | .int => .type "int"
  | .repr => .builtin "repr"
theorem rvA1 {K : PySem.W.Frag} {ρ : Nat → Addr} {H : Hp} {d : D} {vs : List V} (r : RvA K ρ H [d] vs) : ∃ v, vs = [v] ∧ Rv K ρ H d v := by
  cases r with
  | cons h t =>
    cases t
    exact ⟨_, rfl, h⟩
theorem rvA2 {K : PySem.W.Frag} {ρ : Nat → Addr} {H : Hp} {d e : D} {vs : List V} (r : RvA K ρ H [d, e] vs) : ∃ v w, vs = [v, w] ∧ Rv K ρ H d v ∧ Rv K ρ H e w := by
  cases r with
  | cons h t =>
    obtain ⟨w, rfl, h2⟩ := rvA1 t
    exact ⟨_, _, rfl, h, h2⟩
theorem toPys_cons {h : AH} {ds : List D} {p : PyData} {ps : List PyData} (e : toPys h ds = some (p :: ps)) : ∃ d r, ds = d :: r ∧ toPy h d = some p ∧ toPys h r = some ps := by
  cases ds with
  | nil => simp [toPys] at e
  | cons d r =>
    simp only [toPys] at e
    split at e
    · rename_i q qs h1 h2
      simp only [Option.some.injEq, List.cons.injEq] at e
      obtain ⟨e1, e2⟩ := e
      subst e1 e2
      exact ⟨d, r, rfl, h1, h2⟩
    · cases e
theorem toPys_nil {h : AH} {ds : List D} (e : toPys h ds = some []) : ds = [] := by
  cases ds with
  | nil => rfl
  | cons d r =>
    simp only [toPys] at e
    split at e
    · cases e
    · cases e
theorem toPys1 {h : AH} {ds : List D} {p : PyData} (e : toPys h ds = some [p]) : ∃ d, ds = [d] ∧ toPy h d = some p := by
  obtain ⟨d, r, rfl, h1, h2⟩ := toPys_cons e
  rw [toPys_nil h2]
  exact ⟨d, rfl, h1⟩
theorem toPys2 {h : AH} {ds : List D} {p q : PyData} (e : toPys h ds = some [p, q]) : ∃ d d', ds = [d, d'] ∧ toPy h d = some p ∧ toPy h d' = some q := by
  obtain ⟨d, r, rfl, h1, h2⟩ := toPys_cons e
  obtain ⟨d', rfl, h3⟩ := toPys1 h2
  exact ⟨d, d', rfl, h1, h3⟩
theorem foldl_max_ge : ∀ (ns : List Int) (n : Int), n ≤ ns.foldl max n ∧ (∀ m ∈ ns, m ≤ ns.foldl max n) ∧ (ns.foldl max n = n ∨ ns.foldl max n ∈ ns)
  | [], n => ⟨Int.le_refl _, fun _ z => (by cases z), .inl rfl⟩
  | m :: r, n => by
    obtain ⟨h1, h2, h3⟩ := foldl_max_ge r (max n m)
    rw [List.foldl_cons]
    refine ⟨by omega, fun k hk => ?_, ?_⟩
    · rcases List.mem_cons.mp hk with rfl | hk
      · omega
      · exact h2 k hk
    · rcases h3 with h3 | h3
      · rw [h3]
        by_cases hm : n ≤ m
        · right
          rw [Int.max_eq_right hm]
          exact List.mem_cons_self
        · left
          exact Int.max_eq_left (by omega)
      · exact .inr (List.mem_cons_of_mem _ h3)
theorem foldl_min_le : ∀ (ns : List Int) (n : Int), ns.foldl min n ≤ n ∧ (∀ m ∈ ns, ns.foldl min n ≤ m) ∧ (ns.foldl min n = n ∨ ns.foldl min n ∈ ns)
  | [], n => ⟨Int.le_refl _, fun _ z => (by cases z), .inl rfl⟩
  | m :: r, n => by
    obtain ⟨h1, h2, h3⟩ := foldl_min_le r (min n m)
    rw [List.foldl_cons]
    refine ⟨by omega, fun k hk => ?_, ?_⟩
    · rcases List.mem_cons.mp hk with rfl | hk
      · omega
      · exact h2 k hk
    · rcases h3 with h3 | h3
      · rw [h3]
        by_cases hm : m ≤ n
        · right
          rw [Int.min_eq_right hm]
          exact List.mem_cons_self
        · left
          exact Int.min_eq_left (by omega)
      · exact .inr (List.mem_cons_of_mem _ h3)
section
variable {X : Cx} {pr : List (Addr × HO)} {ρ : Nat → Addr} {H : Hp} {h : AH} {Q : VK}
theorem DqA.sizes {a : Addr} {ps : List PyData} {xs : List V} (_ : DqA X.K H ps xs) : True := trivial
theorem bi_ok {b : Bi} {ds : List D} {r : D} {xs : List V} (G : Gd X) (L : Lv X.K pr ρ H h) (ra : RvA X.K ρ H ds xs) (e : biD h b ds = some r) (P : Post X.K pr ρ H h r h Q) : WC X (biV b) xs H Q := by
  have hc := G.calm
  unfold biD at e
  split at e
  rotate_left
  · cases e
  rename_i ps hps
  split at e
  rotate_left
  · cases e
  rename_i q hq
  cases e
  unfold biP at hq
  split at hq
  · -- len tuple
    cases hq
    obtain ⟨d, rfl, h1⟩ := toPys1 hps
    obtain ⟨v, rfl, rv⟩ := rvA1 ra
    obtain ⟨a, ys, rfl, h2, h3⟩ := (rd_at h1 (fun _ w => by cases w) rv).tuple_
    refine wc_of call_len_seq ⟨a, ys, rfl, .inr h2, ?_⟩
    rw [← h3.length]
    exact P.py L (.int _)
  · -- len list
    cases hq
    obtain ⟨d, rfl, h1⟩ := toPys1 hps
    obtain ⟨v, rfl, rv⟩ := rvA1 ra
    obtain ⟨a, ys, rfl, h2, h3⟩ := rd_list h1 L rv
    refine wc_of call_len_seq ⟨a, ys, rfl, .inl h2.sq, ?_⟩
    rw [← h3.length]
    exact P.py L (.int _)
  · -- len str
    split at hq
    · cases hq
      rename_i hz
      obtain ⟨d, rfl, h1⟩ := toPys1 hps
      obtain ⟨v, rfl, rv⟩ := rvA1 ra
      rw [(rd_at h1 (fun _ w => by cases w) rv).str_]
      exact wc_of call_len_str ⟨_, rfl, Nat.le_trans hz lim_line, P.py L (.int _)⟩
    · cases hq
  · -- all
    obtain ⟨d, rfl, h1⟩ := toPys1 hps
    obtain ⟨v, rfl, rv⟩ := rvA1 ra
    obtain ⟨a, ys, rfl, h2, h3⟩ := rd_list h1 L rv
    obtain ⟨bs, hb, rfl⟩ := Option.map_eq_some_iff.mp hq
    refine wc_of (cr_all hc) ⟨a, bs, rfl, ?_, P.py L (.bl _)⟩
    rw [← bools_v hb h3]
    exact h2.sq
  · -- any
    obtain ⟨d, rfl, h1⟩ := toPys1 hps
    obtain ⟨v, rfl, rv⟩ := rvA1 ra
    obtain ⟨a, ys, rfl, h2, h3⟩ := rd_list h1 L rv
    obtain ⟨bs, hb, rfl⟩ := Option.map_eq_some_iff.mp hq
    refine wc_of (cr_any hc) ⟨a, bs, rfl, ?_, P.py L (.bl _)⟩
    rw [← bools_v hb h3]
    exact h2.sq
  · -- sum list
    obtain ⟨d, rfl, h1⟩ := toPys1 hps
    obtain ⟨v, rfl, rv⟩ := rvA1 ra
    obtain ⟨a, ys, rfl, h2, h3⟩ := rd_list h1 L rv
    obtain ⟨bs, hb, rfl⟩ := Option.map_eq_some_iff.mp hq
    refine wc_of (cr_sum hc) ⟨a, bs, rfl, ?_, P.py L (.int _)⟩
    rw [← intL_v hb h3]
    exact h2.sq
  · -- sum tuple
    obtain ⟨d, rfl, h1⟩ := toPys1 hps
    obtain ⟨v, rfl, rv⟩ := rvA1 ra
    obtain ⟨a, ys, rfl, h2, h3⟩ := (rd_at h1 (fun _ w => by cases w) rv).tuple_
    obtain ⟨bs, hb, rfl⟩ := Option.map_eq_some_iff.mp hq
    refine wc_of (cr_sumT hc) ⟨a, bs, rfl, ?_, P.py L (.int _)⟩
    rw [← intL_v hb h3]
    exact h2
  · -- min
    cases hq
    obtain ⟨d, d', rfl, h1, h2⟩ := toPys2 hps
    obtain ⟨v, w, rfl, rv, rw'⟩ := rvA2 ra
    rw [(rd_at h1 (fun _ w => by cases w) rv).int_, (rd_at h2 (fun _ w => by cases w) rw').int_]
    exact wc_of (call_min2 hc) ⟨_, _, rfl, P.py L (.int _)⟩
  · -- max
    cases hq
    obtain ⟨d, d', rfl, h1, h2⟩ := toPys2 hps
    obtain ⟨v, w, rfl, rv, rw'⟩ := rvA2 ra
    rw [(rd_at h1 (fun _ w => by cases w) rv).int_, (rd_at h2 (fun _ w => by cases w) rw').int_]
    exact wc_of (call_max2 hc) ⟨_, _, rfl, P.py L (.int _)⟩
  · -- max list
    obtain ⟨d, rfl, h1⟩ := toPys1 hps
    obtain ⟨v, rfl, rv⟩ := rvA1 ra
    obtain ⟨a, ys, rfl, h2, h3⟩ := rd_list h1 L rv
    split at hq
    · cases hq
      rename_i n ns hb
      refine wc_of (cr_max hc) ⟨a, n :: ns, rfl, ?_, Nat.succ_pos _, fun m hm hall => ?_⟩
      · rw [← intL_v hb h3]
        exact h2.sq
      · obtain ⟨g1, g2, g3⟩ := foldl_max_ge ns n
        have e1 : m ≤ ns.foldl max n := by
          rcases List.mem_cons.mp hm with rfl | hm
          · exact g1
          · exact g2 m hm
        have e2 : ns.foldl max n ≤ m := by
          rcases g3 with g3 | g3
          · rw [g3]
            exact hall n List.mem_cons_self
          · exact hall _ (List.mem_cons_of_mem _ g3)
        rw [show m = ns.foldl max n by omega]
        exact P.py L (.int _)
    · cases hq
  · -- min list
    obtain ⟨d, rfl, h1⟩ := toPys1 hps
    obtain ⟨v, rfl, rv⟩ := rvA1 ra
    obtain ⟨a, ys, rfl, h2, h3⟩ := rd_list h1 L rv
    split at hq
    · cases hq
      rename_i n ns hb
      refine wc_of (cr_min hc) ⟨a, n :: ns, rfl, ?_, Nat.succ_pos _, fun m hm hall => ?_⟩
      · rw [← intL_v hb h3]
        exact h2.sq
      · obtain ⟨g1, g2, g3⟩ := foldl_min_le ns n
        have e1 : ns.foldl min n ≤ m := by
          rcases List.mem_cons.mp hm with rfl | hm
          · exact g1
          · exact g2 m hm
        have e2 : m ≤ ns.foldl min n := by
          rcases g3 with g3 | g3
          · rw [g3]
            exact hall n List.mem_cons_self
          · exact hall _ (List.mem_cons_of_mem _ g3)
        rw [show m = ns.foldl min n by omega]
        exact P.py L (.int _)
    · cases hq
  · -- tuple of tuple
    cases hq
    obtain ⟨d, rfl, h1⟩ := toPys1 hps
    obtain ⟨v, rfl, rv⟩ := rvA1 ra
    obtain ⟨a, ys, rfl, h2, h3⟩ := (rd_at h1 (fun _ w => by cases w) rv).tuple_
    exact wc_of call_tuple_of ⟨a, ys, rfl, .inr ⟨h2, P.py L (.tup h2 h3)⟩⟩
  · -- tuple of list
    cases hq
    obtain ⟨d, rfl, h1⟩ := toPys1 hps
    obtain ⟨v, rfl, rv⟩ := rvA1 ra
    obtain ⟨a, ys, rfl, h2, h3⟩ := rd_list h1 L rv
    exact wc_of call_tuple_of ⟨a, ys, rfl, .inl ⟨h2.sq, fun l hl => P.tupN L h3 hl⟩⟩
  · -- list of tuple
    cases hq
    obtain ⟨d, rfl, h1⟩ := toPys1 hps
    obtain ⟨v, rfl, rv⟩ := rvA1 ra
    obtain ⟨a, ys, rfl, h2, h3⟩ := (rd_at h1 (fun _ w => by cases w) rv).tuple_
    exact wc_frz (wc_of call_list_of ⟨a, ys, rfl, .inr h2, fun l hl => P.lstN L h3 hl⟩)
  · -- list of list
    cases hq
    obtain ⟨d, rfl, h1⟩ := toPys1 hps
    obtain ⟨v, rfl, rv⟩ := rvA1 ra
    obtain ⟨a, ys, rfl, h2, h3⟩ := rd_list h1 L rv
    exact wc_frz (wc_of call_list_of ⟨a, ys, rfl, .inl h2.sq, fun l hl => P.lstN L h3 hl⟩)
  · -- sorted
    obtain ⟨d, rfl, h1⟩ := toPys1 hps
    obtain ⟨v, rfl, rv⟩ := rvA1 ra
    split at hq
    rotate_left
    · cases hq
    rename_i p qs hqs
    split at hq
    rotate_left
    · cases hq
    cases hq
    rename_i hok
    refine wc_frz (wc_of (cr_sortD G) ?_)
    unfold seqP at hqs
    split at hqs
    · cases hqs
      obtain ⟨a, ys, rfl, h2, h3⟩ := (rd_at h1 (fun _ w => by cases w) rv).tuple_
      exact ⟨a, ys, _, rfl, .inr h2, h3, hok, fun p zs hp hz => P.lstN L hz hp⟩
    · cases hqs
      obtain ⟨a, ys, rfl, h2, h3⟩ := rd_list h1 L rv
      exact ⟨a, ys, _, rfl, .inl h2, h3, hok, fun p zs hp hz => P.lstN L hz hp⟩
    · cases hqs
  · -- divmod
    split at hq
    · cases hq
      rename_i i j hs
      obtain ⟨h5, h6⟩ := Bool.and_eq_true_iff.mp hs
      obtain ⟨d, d', rfl, h1, h2⟩ := toPys2 hps
      obtain ⟨v, w, rfl, rv, rw'⟩ := rvA2 ra
      rw [(rd_at h1 (fun _ w => by cases w) rv).int_, (rd_at h2 (fun _ w => by cases w) rw').int_]
      exact wc_of call_divmod ⟨_, _, rfl, ⟨of_decide_eq_true h5, of_decide_eq_true h6⟩, fun p hp => P.tupN L (.cons (.int _) (.cons (.int _) .nil)) hp⟩
    · cases hq
  · -- int bool
    cases hq
    obtain ⟨d, rfl, h1⟩ := toPys1 hps
    obtain ⟨v, rfl, rv⟩ := rvA1 ra
    rw [(rd_at h1 (fun _ w => by cases w) rv).bool_]
    exact wc_of call_int1 (.inr ⟨_, rfl, P.py L (.int _)⟩)
  · -- int int
    cases hq
    obtain ⟨d, rfl, h1⟩ := toPys1 hps
    obtain ⟨v, rfl, rv⟩ := rvA1 ra
    rw [(rd_at h1 (fun _ w => by cases w) rv).int_]
    exact wc_of call_int1 (.inl ⟨_, rfl, P.py L (.int _)⟩)
  · -- repr
    split at hq
    · cases hq
      rename_i p hs
      obtain ⟨h5, h6⟩ := Bool.and_eq_true_iff.mp hs
      obtain ⟨h7, h8⟩ := Bool.and_eq_true_iff.mp h5
      obtain ⟨h9, h10⟩ := Bool.and_eq_true_iff.mp h7
      obtain ⟨d, rfl, h1⟩ := toPys1 hps
      obtain ⟨v, rfl, rv⟩ := rvA1 ra
      rcases Bool.or_eq_true_iff.mp h10 with hn | hn
      · have hn' : p.hasDict = false := by simpa using hn
        exact wc_of (cr_repr G) ⟨v, p, rfl, rd_dp h1 L rv hn', hn', h9, of_decide_eq_true h8, Nat.le_trans (of_decide_eq_true h6) lim_line, P.py L (.str _)⟩
      · cases p with
        | dict kvs =>
          have dq := rd_at h1 (fun _ w => by cases w) rv
          cases dq with
          | dct ho hk => exact wc_of (cr_reprD G) ⟨_, kvs, _, rfl, ho, hk, h9, of_decide_eq_true h8, Nat.le_trans (of_decide_eq_true h6) lim_line, P.py L (.str _)⟩
        | _ => cases hn
    · cases hq
  · cases hq
end
end Zm
/-! Zm 9: the machine is sound for expressions. -/
namespace Zm
open PySem PySem.Spec PyProof.Rows L2

theorem R.bind_eq {α β : Type} {r : R α} {f : α → AH → R β} {b : β} {h : AH} (e : r.bind f = .ok b h) : ∃ a h1, r = .ok a h1 ∧ f a h1 = .ok b h := by
  cases r with
  | stuck => cases e
  | ok a h1 => exact ⟨a, h1, rfl, e⟩
theorem rO_eq {α : Type} {h h1 : AH} {o : Option α} {b : α} (e : rO h o = .ok b h1) : o = some b ∧ h1 = h := by
  cases o with
  | none => cases e
  | some a =>
    cases e
    exact ⟨rfl, rfl⟩

/-! ### the standing of a body -/
/-- what is fixed of a block: its scope, its names, the module's functions and constants, the built-in names -/
structure Ga where
  sc : Scope
  N : List Str
  fns : List Str
  gl : List (Str × PyData)
  own : List Str
/-- the built-in names that are used -/
def bltins : List Str := ["len", "all", "any", "sum", "min", "max", "tuple", "list", "sorted", "set", "divmod", "int", "bool", "str", "dict", "repr", "isinstance", "range", "zip", "enumerate"]
/-- a function that does as the machine says -/
def FnS (P : Program) (w : World) (K : PySem.W.Frag) (mg : Str → Option Value) (base : Heap) (k : Nat) (a : Addr) (φ : List D → AH → R D) : Prop :=
  ∀ (A : Around) (outer : List Env) (s : Shared) (H : Hp) (us : List Value) (vs : List V) (pr : List (Addr × HO)) (ρ : Nat → Addr) (h : AH) (ds : List D) (d : D) (h1 : AH) (Q : VK),
    Room k A → A.guards = some [] → Env0 P w K mg base A outer s H → Vals vs us → RvA K ρ H ds vs → belA h.length ds → Lv K pr ρ H h → φ ds h = .ok d h1 → Post K pr ρ H h d h1 Q →
    codeAny (model P w) A (.call (.ref a) ⟨us, []⟩) (CR (fun _ _ _ _ _ _ => False) outer P w H s Q (fun _ _ _ => False)) s
structure XG (Γ : Ga) (C : Orc) (X : Cx) : Prop where
  gd : Gd X
  sc : X.env.scope = Γ.sc
  nn : X.N = Γ.N
  xe : X.xe = fun _ _ => False
  fn : ∀ x ∈ Γ.own, X.fn x = true ∨ X.env.scope.names.lookup x = some .local
  gl : ∀ (i : Nat) (x : Str) (p : PyData), Γ.gl[i]? = some (x, p) → ∃ (v : V) (u : Value), X.mg x = some u ∧ RelV v u ∧ ∀ H, Dq X.K H p v
  bl : ∀ x ∈ bltins, X.mg x = none
  orc : ∃ k, Room k X.A ∧ ∀ (f : Nat) (x : Str), Γ.fns[f]? = some x → ∃ a, X.mg x = some (.ref a) ∧ PySem.W.keepIn X.K (.ref a) = true ∧ FnS X.prog X.w X.K X.mg X.base k a (C f)
theorem wc_fn {X : Cx} {C : Orc} {k f : Nat} {a : Addr} {pr : List (Addr × HO)} {ρ : Nat → Addr} {H : Hp} {h h1 : AH} {ds : List D} {d : D} {vs : List V} {Q : VK} (G : Gd X) (hr : Room k X.A) (F : FnS X.prog X.w X.K X.mg X.base k a (C f))
    (r : RvA X.K ρ H ds vs) (b : belA h.length ds) (L : Lv X.K pr ρ H h) (e : C f ds h = .ok d h1) (P : Post X.K pr ρ H h d h1 Q) : WC X (.ref a) vs H Q := by
  intro pins s σ us I rv
  refine wpAny_call (codeAny_mono (F X.A X.stack s H us vs pr ρ h ds d h1 Q hr G.gs I.env0 rv r b L e P) fun r s' hq => ?_)
  cases r with
  | error e => exact hq.elim
  | ok fl =>
    cases fl with
    | ret u => exact I.after hq
    | next => exact hq.elim
    | brk => exact hq.elim
    | cont => exact hq.elim

/-- an expression does as the machine says -/
structure SE (Γ : Ga) (e : E) (x : Expr) : Prop where
  run : ∀ (C : Orc) (X : Cx), XG Γ C X → ∀ (pr : List (Addr × HO)) (ρ : Nat → Addr) (H : Hp) (h : AH) (σ : Sg) (τ : L2.St) (Q : VK) (d : D) (h1 : AH),
  SgOk X.K ρ H h.length σ τ → Lv X.K pr ρ H h → ev C e σ h = .ok d h1 → Post X.K pr ρ H h d h1 Q → WE X x τ H Q
/-- .. a row of expressions -/
structure SA (Γ : Ga) (e : E) (xs : List Expr) : Prop where
  run : ∀ (C : Orc) (X : Cx), XG Γ C X → ∀ (pr : List (Addr × HO)) (ρ : Nat → Addr) (H : Hp) (h : AH) (σ : Sg) (τ : L2.St) (Q : List V → Hp → Prop) (ds : List D) (h1 : AH),
  SgOk X.K ρ H h.length σ τ → Lv X.K pr ρ H h → evs C e σ h = .ok ds h1 →
  (∀ ρ' H' vs, Nx ρ H h ρ' H' h1 → Lv X.K pr ρ' H' h1 → belA h1.length ds → RvA X.K ρ' H' ds vs → ds.length = xs.length → Q vs H') → WA X xs τ H Q
/-- .. a test -/
structure ST (Γ : Ga) (e : E) (x : Expr) : Prop where
  run : ∀ (C : Orc) (X : Cx), XG Γ C X → ∀ (pr : List (Addr × HO)) (ρ : Nat → Addr) (H : Hp) (h : AH) (σ : Sg) (τ : L2.St) (Q : Bool → Hp → Prop) (c : Bool) (h1 : AH),
  SgOk X.K ρ H h.length σ τ → Lv X.K pr ρ H h → ev C e σ h = .ok (.b c) h1 → (∀ ρ' H', Nx ρ H h ρ' H' h1 → Lv X.K pr ρ' H' h1 → Q c H') → WT X x τ H Q
structure SW (Γ : Ga) (e : E) (x : Expr) : Prop where
  run : ∀ (C : Orc) (X : Cx), XG Γ C X → ∀ (pr : List (Addr × HO)) (ρ : Nat → Addr) (H : Hp) (h : AH) (σ : Sg) (τ : L2.St) (Q : Bool → Hp → Prop) (c : Bool) (h1 : AH),
  SgOk X.K ρ H h.length σ τ → Lv X.K pr ρ H h → ev C e σ h = .ok (.b c) h1 → (∀ ρ' H', Nx ρ H h ρ' H' h1 → Lv X.K pr ρ' H' h1 → Q c H') → WW X x τ H Q
theorem Post.nx {K : PySem.W.Frag} {pr : List (Addr × HO)} {ρ ρ1 : Nat → Addr} {H H1 : Hp} {h h1 h2 : AH} {d : D} {Q : VK} (P : Post K pr ρ H h d h2 Q) (n : Nx ρ H h ρ1 H1 h1) : Post K pr ρ1 H1 h1 d h2 Q :=
  fun ρ' H' v N L b r => P ρ' H' v (n.trans N) L b r

section
variable {Γ : Ga} {a b c r i : E} {xa xb xc : Expr} {xs : List Expr} {pos p2 : Pos} {x : Str}
/-- a name that stands in the scope -/
def visB (sc : Scope) (x : Str) : Bool := match sc.names.lookup x with
  | some .local => true
  | some .cell => true
  | some .free => true
  | _ => false
theorem visB_ok {sc : Scope} (h : visB sc x = true) : Vis sc x := by
  unfold visB at h
  split at h
  · exact .inl (by assumption)
  · exact .inr (.inl (by assumption))
  · exact .inr (.inr (by assumption))
  · cases h
def glB (sc : Scope) (x : Str) : Bool := match sc.names.lookup x with
  | some .globalImplicit => true
  | _ => false
theorem glB_ok {sc : Scope} (h : glB sc x = true) {X : Cx} (e : X.env.scope = sc) : Gl X x := by
  unfold glB at h
  split at h
  · unfold Gl Env.kindOf
    rw [e]
    assumption
  · cases h
theorem se_var {n : Nat} (hN : Γ.N[n]? = some x) (hv : visB Γ.sc x = true) (hd : (x == ("__debug__" : Str)) = false) (hcd : (x == ("__classdict__" : Str)) = false) : SE Γ (.var n) (.Name x pos) := by
  refine ⟨?_⟩
  intro C X G pr ρ H h σ τ Q d h1 S L e P
  simp only [ev] at e
  split at e
  · cases e
    rename_i hd'
    obtain ⟨b, v, e1, r⟩ := S.at_ n _ hd'
    exact we_of (pe_var (by rw [G.nn]; exact hN) (by rw [G.sc]; exact visB_ok hv) hd hcd) ⟨v, e1, P ρ H v Nx.refl L b r⟩
  · cases e
theorem se_int {n : Int} {j : Nat} : SE Γ (.lit (.int n)) (.Constant (.int n) j pos) := by
  refine ⟨?_⟩
  intro C X G pr ρ H h σ τ Q d h1 S L e P
  simp only [ev] at e
  cases e
  exact we_of pe_int (P.py L (.int n))
theorem se_bl {n : Bool} {j : Nat} : SE Γ (.lit (.bool n)) (.Constant (.bool n) j pos) := by
  refine ⟨?_⟩
  intro C X G pr ρ H h σ τ Q d h1 S L e P
  simp only [ev] at e
  cases e
  exact we_of pe_bl (P.py L (.bl n))
theorem se_non {j : Nat} : SE Γ (.lit .none) (.Constant .none j pos) := by
  refine ⟨?_⟩
  intro C X G pr ρ H h σ τ Q d h1 S L e P
  simp only [ev] at e
  cases e
  exact we_of pe_non (P.py L .non)
theorem se_str {z : Str} {j : Nat} : SE Γ (.lit (.str z)) (.Constant (.str z) j pos) := by
  refine ⟨?_⟩
  intro C X G pr ρ H h σ τ Q d h1 S L e P
  simp only [ev] at e
  cases e
  exact we_of pe_str (P.py L (.str z))
theorem se_glb {n : Nat} {p : PyData} (hN : Γ.gl[n]? = some (x, p)) (hg : glB Γ.sc x = true) (hd : (x == ("__debug__" : Str)) = false) : SE Γ (.glb n p) (.Name x pos) := by
  refine ⟨?_⟩
  intro C X G pr ρ H h σ τ Q d h1 S L e P
  simp only [ev] at e
  cases e
  obtain ⟨v, u, h2, h3, h4⟩ := G.gl n x p hN
  exact we_of (pe_glob (glB_ok hg G.sc) h2 h3 hd) (P.py L (h4 H))
theorem se_bin {o : Operator} (ha : SE Γ a xa) (hb : SE Γ b xb) : SE Γ (.bin o a b) (.BinOp xa o xb pos) := by
  refine ⟨?_⟩
  intro C X G pr ρ H h σ τ Q d h1 S L e P
  simp only [ev] at e
  obtain ⟨x, h2, e1, e⟩ := R.bind_eq e
  obtain ⟨y, h3, e2, e⟩ := R.bind_eq e
  obtain ⟨e3, rfl⟩ := rO_eq e
  exact we_of (pe_op op_w2 pe_we pe_we) (ha.run C X G _ _ _ _ _ _ _ _ _ S L e1 fun ρ1 H1 v N1 L1 b1 r1 => hb.run C X G _ _ _ _ _ _ _ _ _ (S.nx N1) L1 e2 fun ρ2 H2 u N2 L2 b2 r2 =>
    bin_ok L2 (r1.nx N2 b1) r2 e3 (P.nx (N1.trans N2)))
theorem se_neg {n : Int} {j : Nat} : SE Γ (.neg n) (.UnaryOp .USub (.Constant (.int n) j p2) pos) := by
  refine ⟨?_⟩
  intro C X G pr ρ H h σ τ Q d h1 S L e P
  simp only [ev] at e
  cases e
  exact we_of (pe_un un_neg pe_int) ⟨n, rfl, P.py L (.int _)⟩
theorem se_cmp {o : CmpOp} (ha : SE Γ a xa) (hb : SE Γ b xb) (hm : behindInMarks o xb = false) : SE Γ (.cmp o a b) (.Compare xa [o] [xb] pos) := by
  refine ⟨?_⟩
  intro C X G pr ρ H h σ τ Q d h1 S L e P
  simp only [ev] at e
  obtain ⟨x, h2, e1, e⟩ := R.bind_eq e
  obtain ⟨y, h3, e2, e⟩ := R.bind_eq e
  obtain ⟨e3, rfl⟩ := rO_eq e
  obtain ⟨k, e5, e4⟩ := Option.map_eq_some_iff.mp e3
  subst e4
  exact we_of (pe_cmpR op_w2 pe_we pe_we hm) (ha.run C X G _ _ _ _ _ _ _ _ _ S L e1 fun ρ1 H1 v N1 L1 b1 r1 => hb.run C X G _ _ _ _ _ _ _ _ _ (S.nx N1) L1 e2 fun ρ2 H2 u N2 L2 b2 r2 =>
    cmp_ok G.gd L2 (r1.nx N2 b1) r2 e5 (P.nx (N1.trans N2)))
theorem st_cmp {o : CmpOp} (ha : SE Γ a xa) (hb : SE Γ b xb) (hm : behindInMarks o xb = false) : ST Γ (.cmp o a b) (.Compare xa [o] [xb] pos) := by
  refine ⟨?_⟩
  intro C X G pr ρ H h σ τ Q d h1 S L e P
  simp only [ev] at e
  obtain ⟨x, h2, e1, e⟩ := R.bind_eq e
  obtain ⟨y, h3, e2, e⟩ := R.bind_eq e
  obtain ⟨e3, rfl⟩ := rO_eq e
  obtain ⟨k, e5, e4⟩ := Option.map_eq_some_iff.mp e3
  cases e4
  exact wt_of (pt_cmpR op_w2 pe_we pe_we hm) (ha.run C X G _ _ _ _ _ _ _ _ _ S L e1 fun ρ1 H1 v N1 L1 b1 r1 => hb.run C X G _ _ _ _ _ _ _ _ _ (S.nx N1) L1 e2 fun ρ2 H2 u N2 L2 b2 r2 =>
    cmp_ok G.gd L2 (r1.nx N2 b1) r2 e5 fun ρ3 H3 v N3 L3 b3 r3 => by
      cases r3 with
      | py q => exact ⟨_, q.bool_, P ρ3 H3 ((N1.trans N2).trans N3) L3⟩)
theorem se_cmp2 {o o' : CmpOp} (ha : SE Γ a xa) (hb : SE Γ b xb) (hc : SE Γ c xc) (hm : lastMarks [o, o'] [xb, xc] = false) : SE Γ (.cmp2 o o' a b c) (.Compare xa [o, o'] [xb, xc] pos) := by
  refine ⟨?_⟩
  intro C X G pr ρ H h σ τ Q d h1 S L e P
  simp only [ev] at e
  obtain ⟨x, h2, e1, e⟩ := R.bind_eq e
  obtain ⟨y, h3, e2, e⟩ := R.bind_eq e
  refine we_of (pe_chain op_w2 op_w2 pe_we pe_we pe_we hm) (ha.run C X G _ _ _ _ _ _ _ _ _ S L e1 fun ρ1 H1 v N1 L1 b1 r1 => hb.run C X G _ _ _ _ _ _ _ _ _ (S.nx N1) L1 e2 fun ρ2 H2 u N2 L2 b2 r2 => ?_)
  split at e
  · rename_i e3
    obtain ⟨z, h4, e4, e⟩ := R.bind_eq e
    obtain ⟨e5, rfl⟩ := rO_eq e
    obtain ⟨k, e7, e6⟩ := Option.map_eq_some_iff.mp e5
    subst e6
    refine cmp_ok G.gd L2 (r1.nx N2 b1) r2 e3 fun ρ3 H3 v3 N3 L3 b3 r3 => ?_
    cases r3 with
    | py q =>
      refine ⟨true, q.bool_, ?_⟩
      rw [if_pos rfl]
      have N13 := (N1.trans N2).trans N3
      refine hc.run C X G _ _ _ _ _ _ _ _ _ (S.nx N13) L3 e4 fun ρ4 H4 v4 N4 L4 b4 r4 => ?_
      exact cmp_ok G.gd L4 (r2.nx (N3.trans N4) b2) r4 e7 (P.nx (N13.trans N4))
  · rename_i e3
    cases e
    refine cmp_ok G.gd L2 (r1.nx N2 b1) r2 e3 fun ρ3 H3 v3 N3 L3 b3 r3 => ?_
    cases r3 with
    | py q =>
      refine ⟨false, q.bool_, ?_⟩
      rw [if_neg Bool.false_ne_true]
      exact P ρ3 H3 _ ((N1.trans N2).trans N3) L3 (by simp only [bel]) (.py (.bl false))
  · cases e
theorem st_cmp2 {o o' : CmpOp} (ha : SE Γ a xa) (hb : SE Γ b xb) (hc : SE Γ c xc) (hm : lastMarks [o, o'] [xb, xc] = false) : ST Γ (.cmp2 o o' a b c) (.Compare xa [o, o'] [xb, xc] pos) := by
  refine ⟨?_⟩
  intro C X G pr ρ H h σ τ Q d h1 S L e P
  simp only [ev] at e
  obtain ⟨x, h2, e1, e⟩ := R.bind_eq e
  obtain ⟨y, h3, e2, e⟩ := R.bind_eq e
  refine wt_of (pt_chain op_w2 op_w2 pe_we pe_we pe_we hm) (ha.run C X G _ _ _ _ _ _ _ _ _ S L e1 fun ρ1 H1 v N1 L1 b1 r1 => hb.run C X G _ _ _ _ _ _ _ _ _ (S.nx N1) L1 e2 fun ρ2 H2 u N2 L2 b2 r2 => ?_)
  split at e
  · rename_i e3
    obtain ⟨z, h4, e4, e⟩ := R.bind_eq e
    obtain ⟨e5, rfl⟩ := rO_eq e
    obtain ⟨k, e7, e6⟩ := Option.map_eq_some_iff.mp e5
    cases e6
    refine cmp_ok G.gd L2 (r1.nx N2 b1) r2 e3 fun ρ3 H3 v3 N3 L3 b3 r3 => ?_
    cases r3 with
    | py q =>
      refine ⟨true, q.bool_, ?_⟩
      rw [if_pos rfl]
      have N13 := (N1.trans N2).trans N3
      refine hc.run C X G _ _ _ _ _ _ _ _ _ (S.nx N13) L3 e4 fun ρ4 H4 v4 N4 L4 b4 r4 => ?_
      refine cmp_ok G.gd L4 (r2.nx (N3.trans N4) b2) r4 e7 fun ρ5 H5 v5 N5 L5 b5 r5 => ?_
      cases r5 with
      | py q5 => exact ⟨_, q5.bool_, P ρ5 H5 ((N13.trans N4).trans N5) L5⟩
  · rename_i e3
    cases e
    refine cmp_ok G.gd L2 (r1.nx N2 b1) r2 e3 fun ρ3 H3 v3 N3 L3 b3 r3 => ?_
    cases r3 with
    | py q =>
      refine ⟨false, q.bool_, ?_⟩
      rw [if_neg Bool.false_ne_true]
      exact ⟨false, rfl, P ρ3 H3 ((N1.trans N2).trans N3) L3⟩
  · cases e
/-- an expression whose value is a bool, as a test -/
theorem st_val (ha : SE Γ a xa) (he : ∀ (env : Env) (whole : Sem Value), isTrue xa env whole = (do let v ← whole; standAt xa.pos; holding [v] (truthy v))) : ST Γ a xa := by
  refine ⟨?_⟩
  intro C X G pr ρ H h σ τ Q d h1 S L e P
  refine wt_of (pt_val pe_we (he X.env)) (ha.run C X G _ _ _ _ _ _ _ _ _ S L e fun ρ1 H1 v N1 L1 b1 r1 => ?_)
  cases r1 with
  | py q => exact ⟨_, q.bool_, P ρ1 H1 N1 L1⟩
theorem bool_of {C : Orc} {x : D} {h1 h2 : AH} {c : Bool} {f g : R D} (e : (match x with
    | .py (.bool true) => f
    | .py (.bool false) => g
    | _ => .stuck) = .ok (.b c) h2) : (x = .b true ∧ f = .ok (.b c) h2) ∨ (x = .b false ∧ g = .ok (.b c) h2) := by
  split at e
  · exact .inl ⟨rfl, e⟩
  · exact .inr ⟨rfl, e⟩
  · cases e
theorem bool_of' {α : Type} {x : D} {h2 : AH} {c : α} {f g : R α} (e : (match x with
    | .py (.bool true) => f
    | .py (.bool false) => g
    | _ => .stuck) = .ok c h2) : (x = .b true ∧ f = .ok c h2) ∨ (x = .b false ∧ g = .ok c h2) := by
  split at e
  · exact .inl ⟨rfl, e⟩
  · exact .inr ⟨rfl, e⟩
  · cases e
theorem bool_no' {α : Type} {x : D} {h2 : AH} {c : α} {f g : R α} (e : (match x with
    | .py (.bool false) => g
    | .py (.bool true) => f
    | _ => .stuck) = .ok c h2) : (x = .b true ∧ f = .ok c h2) ∨ (x = .b false ∧ g = .ok c h2) := by
  split at e
  · exact .inr ⟨rfl, e⟩
  · exact .inl ⟨rfl, e⟩
  · cases e
theorem sw_and1 (ha : ST Γ a xa) : SW Γ a (.BoolOp .And [xa] pos) := by
  refine ⟨?_⟩
  intro C X G pr ρ H h σ τ Q d h1 S L e P
  exact ww_of (pw_and1 pt_wt) (ha.run C X G _ _ _ _ _ _ _ _ _ S L e P)
theorem sw_or1 (ha : ST Γ a xa) : SW Γ a (.BoolOp .Or [xa] pos) := by
  refine ⟨?_⟩
  intro C X G pr ρ H h σ τ Q d h1 S L e P
  exact ww_of (pw_or1 pt_wt) (ha.run C X G _ _ _ _ _ _ _ _ _ S L e P)
theorem sw_and (ha : ST Γ a xa) (hb : SW Γ b (.BoolOp .And (xb :: xs) pos)) : SW Γ (.conj a b) (.BoolOp .And (xa :: xb :: xs) pos) := by
  refine ⟨?_⟩
  intro C X G pr ρ H h σ τ Q d h1 S L e P
  simp only [ev] at e
  obtain ⟨x, h2, e1, e⟩ := R.bind_eq e
  rcases bool_of' e with ⟨rfl, e⟩ | ⟨rfl, e⟩
  · refine ww_of (pw_and pt_wt pw_ww) (ha.run C X G _ _ _ _ _ _ _ _ _ S L e1 fun ρ1 H1 N1 L1 => ?_)
    rw [if_pos rfl]
    exact hb.run C X G _ _ _ _ _ _ _ _ _ (S.nx N1) L1 e fun ρ2 H2 N2 L2 => P ρ2 H2 (N1.trans N2) L2
  · cases e
    refine ww_of (pw_and pt_wt pw_ww) (ha.run C X G _ _ _ _ _ _ _ _ _ S L e1 fun ρ1 H1 N1 L1 => ?_)
    rw [if_neg Bool.false_ne_true]
    exact P ρ1 H1 N1 L1
theorem sw_or (ha : ST Γ a xa) (hb : SW Γ b (.BoolOp .Or (xb :: xs) pos)) : SW Γ (.disj a b) (.BoolOp .Or (xa :: xb :: xs) pos) := by
  refine ⟨?_⟩
  intro C X G pr ρ H h σ τ Q d h1 S L e P
  simp only [ev] at e
  obtain ⟨x, h2, e1, e⟩ := R.bind_eq e
  rcases bool_no' e with ⟨rfl, e⟩ | ⟨rfl, e⟩
  · cases e
    refine ww_of (pw_or pt_wt pw_ww) (ha.run C X G _ _ _ _ _ _ _ _ _ S L e1 fun ρ1 H1 N1 L1 => ?_)
    rw [if_pos rfl]
    exact P ρ1 H1 N1 L1
  · refine ww_of (pw_or pt_wt pw_ww) (ha.run C X G _ _ _ _ _ _ _ _ _ S L e1 fun ρ1 H1 N1 L1 => ?_)
    rw [if_neg Bool.false_ne_true]
    exact hb.run C X G _ _ _ _ _ _ _ _ _ (S.nx N1) L1 e fun ρ2 H2 N2 L2 => P ρ2 H2 (N1.trans N2) L2
theorem st_bool (ha : SW Γ a xa) : ST Γ a xa := ⟨fun C X G pr ρ H h σ τ Q d h1 S L e P pins s I => ha.run C X G pr ρ H h σ τ Q d h1 S L e P _ pins s I⟩
theorem st_not (ha : ST Γ a xa) : ST Γ (.inv a) (.UnaryOp .Not xa pos) := by
  refine ⟨?_⟩
  intro C X G pr ρ H h σ τ Q d h1 S L e P
  simp only [ev] at e
  obtain ⟨x, h2, e1, e⟩ := R.bind_eq e
  split at e
  · cases e
    exact wt_of (pt_not pt_wt) (ha.run C X G _ _ _ _ _ _ _ _ _ S L e1 fun ρ1 H1 N1 L1 => P ρ1 H1 N1 L1)
  · cases e
theorem se_one {op : BoolOp} (ha : SE Γ a xa) : SE Γ a (.BoolOp op [xa] pos) := by
  refine ⟨?_⟩
  intro C X G pr ρ H h σ τ Q d h1 S L e P
  exact we_of (pe_one pe_we) (ha.run C X G _ _ _ _ _ _ _ _ _ S L e P)
theorem se_and (ha : SE Γ a xa) (hb : SE Γ b (.BoolOp .And (xb :: xs) pos)) : SE Γ (.conj a b) (.BoolOp .And (xa :: xb :: xs) pos) := by
  refine ⟨?_⟩
  intro C X G pr ρ H h σ τ Q d h1 S L e P
  simp only [ev] at e
  obtain ⟨x, h2, e1, e⟩ := R.bind_eq e
  rcases bool_of' e with ⟨rfl, e⟩ | ⟨rfl, e⟩
  · refine we_of (pe_and pe_we pe_we) (ha.run C X G _ _ _ _ _ _ _ _ _ S L e1 fun ρ1 H1 v N1 L1 b1 r1 => ?_)
    cases r1 with
    | py q =>
      refine ⟨true, q.bool_, ?_⟩
      rw [if_pos rfl]
      exact hb.run C X G _ _ _ _ _ _ _ _ _ (S.nx N1) L1 e (P.nx N1)
  · cases e
    refine we_of (pe_and pe_we pe_we) (ha.run C X G _ _ _ _ _ _ _ _ _ S L e1 fun ρ1 H1 v N1 L1 b1 r1 => ?_)
    cases r1 with
    | py q =>
      refine ⟨false, q.bool_, ?_⟩
      rw [if_neg Bool.false_ne_true]
      exact P ρ1 H1 _ N1 L1 (by simp only [bel]) (.py (.bl false))
theorem se_or (ha : SE Γ a xa) (hb : SE Γ b (.BoolOp .Or (xb :: xs) pos)) : SE Γ (.disj a b) (.BoolOp .Or (xa :: xb :: xs) pos) := by
  refine ⟨?_⟩
  intro C X G pr ρ H h σ τ Q d h1 S L e P
  simp only [ev] at e
  obtain ⟨x, h2, e1, e⟩ := R.bind_eq e
  rcases bool_no' e with ⟨rfl, e⟩ | ⟨rfl, e⟩
  · cases e
    refine we_of (pe_or pe_we pe_we) (ha.run C X G _ _ _ _ _ _ _ _ _ S L e1 fun ρ1 H1 v N1 L1 b1 r1 => ?_)
    cases r1 with
    | py q =>
      refine ⟨true, q.bool_, ?_⟩
      rw [if_pos rfl]
      exact P ρ1 H1 _ N1 L1 (by simp only [bel]) (.py (.bl true))
  · refine we_of (pe_or pe_we pe_we) (ha.run C X G _ _ _ _ _ _ _ _ _ S L e1 fun ρ1 H1 v N1 L1 b1 r1 => ?_)
    cases r1 with
    | py q =>
      refine ⟨false, q.bool_, ?_⟩
      rw [if_neg Bool.false_ne_true]
      exact hb.run C X G _ _ _ _ _ _ _ _ _ (S.nx N1) L1 e (P.nx N1)
theorem se_not (ha : SE Γ a xa) : SE Γ (.inv a) (.UnaryOp .Not xa pos) := by
  refine ⟨?_⟩
  intro C X G pr ρ H h σ τ Q d h1 S L e P
  simp only [ev] at e
  obtain ⟨x, h2, e1, e⟩ := R.bind_eq e
  split at e
  · cases e
    refine we_of (pe_not pe_we) (ha.run C X G _ _ _ _ _ _ _ _ _ S L e1 fun ρ1 H1 v N1 L1 b1 r1 => ?_)
    cases r1 with
    | py q => exact ⟨_, q.bool_, P ρ1 H1 _ N1 L1 (by simp only [bel]) (.py (.bl _))⟩
  · cases e
theorem se_ite (hc : ST Γ c xc) (ha : SE Γ a xa) (hb : SE Γ b xb) : SE Γ (.ite c a b) (.IfExp xc xa xb pos) := by
  refine ⟨?_⟩
  intro C X G pr ρ H h σ τ Q d h1 S L e P
  simp only [ev] at e
  obtain ⟨x, h2, e1, e⟩ := R.bind_eq e
  rcases bool_of' e with ⟨rfl, e⟩ | ⟨rfl, e⟩
  · refine we_of (pe_ifExp pt_wt pe_we pe_we) (hc.run C X G _ _ _ _ _ _ _ _ _ S L e1 fun ρ1 H1 N1 L1 => ?_)
    rw [if_pos rfl]
    exact ha.run C X G _ _ _ _ _ _ _ _ _ (S.nx N1) L1 e (P.nx N1)
  · refine we_of (pe_ifExp pt_wt pe_we pe_we) (hc.run C X G _ _ _ _ _ _ _ _ _ S L e1 fun ρ1 H1 N1 L1 => ?_)
    rw [if_neg Bool.false_ne_true]
    exact hb.run C X G _ _ _ _ _ _ _ _ _ (S.nx N1) L1 e (P.nx N1)
/-! ### rows -/
theorem sa_nil : SA Γ .nil [] := by
  refine ⟨?_⟩
  intro C X G pr ρ H h σ τ Q ds h1 S L e P
  simp only [evs] at e
  cases e
  exact wa_of pa_nil (P ρ H [] Nx.refl L (by simp only [belA]) .nil rfl)
theorem sa_cons (ha : SE Γ a xa) (hr : SA Γ r xs) (hs : ∀ env, starEach (xa :: xs) env = (false, eval xa env) :: starEach xs env) : SA Γ (.cons a r) (xa :: xs) := by
  refine ⟨?_⟩
  intro C X G pr ρ H h σ τ Q ds h1 S L e P
  simp only [evs] at e
  obtain ⟨x, h2, e1, e⟩ := R.bind_eq e
  obtain ⟨ys, h3, e2, e⟩ := R.bind_eq e
  cases e
  refine wa_of (pa_cons pe_we pa_wa (hs X.env)) (ha.run C X G _ _ _ _ _ _ _ _ _ S L e1 fun ρ1 H1 v N1 L1 b1 r1 => hr.run C X G _ _ _ _ _ _ _ _ _ (S.nx N1) L1 e2 fun ρ2 H2 vs N2 L2 b2 r2 hl => ?_)
  exact P ρ2 H2 _ (N1.trans N2) L2 (by simp only [belA]; exact ⟨b1.mono N2.le, b2⟩) (.cons (r1.nx N2 b1) r2) (by rw [List.length_cons, List.length_cons, hl])
theorem rvA_tup {K : PySem.W.Frag} {pr : List (Addr × HO)} {ρ : Nat → Addr} {H : Hp} {h : AH} {ds : List D} {vs : List V} {p : Addr} (L : Lv K pr ρ H h) (b : belA h.length ds) (r : RvA K ρ H ds vs) (hp : H p = none) :
    Rv K ρ (upd H p (.tup vs)) (mkTup ds) (.ref p) ∧ bel h.length (mkTup ds) := by
  unfold mkTup
  split
  · rename_i ps e
    exact ⟨.py (.tup (.inl (.inl upd_same)) ((RvA.to_py e r).ext (Ext.new hp))), by simp only [bel]⟩
  · exact ⟨.tup (.inl (.inl upd_same)) (r.step (Ext.new hp) (fun _ _ => rfl) b), by simpa only [bel] using b⟩
theorem line1000 {n : Nat} (h : n ≤ 1000) : n ≤ sizeLine := Nat.le_trans h (by decide)
theorem se_tup {k : Nat} (ha : SA Γ a xs) (hl : xs.length ≤ 1000) : SE Γ (.tup a) (.Tuple xs k pos) := by
  refine ⟨?_⟩
  intro C X G pr ρ H h σ τ Q d h1 S L e P
  simp only [ev] at e
  obtain ⟨ds, h2, e1, e⟩ := R.bind_eq e
  cases e
  refine we_of (pe_tup pa_wa) (ha.run C X G _ _ _ _ _ _ _ _ _ S L e1 fun ρ1 H1 vs N1 L1 b1 r1 l1 => ⟨by rw [← r1.length, l1]; exact line1000 hl, fun p hp => ?_⟩)
  obtain ⟨q1, q2⟩ := rvA_tup L1 b1 r1 hp
  exact P ρ1 _ _ (N1.trans ⟨Ext.new hp, fun _ _ => rfl, Nat.le_refl _⟩) (L1.new hp) q2 q1
theorem se_lst (ha : SA Γ a xs) (hl : xs.length ≤ 1000) : SE Γ (.lst false a) (.List xs pos) := by
  refine ⟨?_⟩
  intro C X G pr ρ H h σ τ Q d h1 S L e P
  simp only [ev] at e
  obtain ⟨ds, h2, e1, e⟩ := R.bind_eq e
  split at e
  · cases e
    rename_i ps hps
    refine we_frz (we_of (pe_lst pa_wa) (ha.run C X G _ _ _ _ _ _ _ _ _ S L e1 fun ρ1 H1 vs N1 L1 b1 r1 l1 => ⟨by rw [← r1.length, l1]; exact line1000 hl, fun p hp => ?_⟩))
    exact Post.lstN (P.nx N1) L1 (RvA.to_py hps r1) hp
  · cases e
theorem se_lstL (ha : SA Γ a xs) (hl : xs.length ≤ 1000) : SE Γ (.lst true a) (.List xs pos) := by
  refine ⟨?_⟩
  intro C X G pr ρ H h σ τ Q d h1 S L e P
  simp only [ev] at e
  obtain ⟨ds, h2, e1, e⟩ := R.bind_eq e
  cases e
  refine we_of (pe_lst pa_wa) (ha.run C X G _ _ _ _ _ _ _ _ _ S L e1 fun ρ1 H1 vs N1 L1 b1 r1 l1 => ⟨by rw [← r1.length, l1]; exact line1000 hl, fun p hp => ?_⟩)
  obtain ⟨ρ2, n2, l2, e2⟩ := L1.alloc hp b1 r1
  exact P ρ2 _ _ (N1.trans n2) l2 (by simp only [bel, List.length_append, List.length_singleton]; omega) (e2 ▸ .obj _)
/-! ### places, slices -/
theorem atI_get {α : Type} {xs : List α} {i : Int} {x : α} (h : L2.atI xs i = some x) : ∃ j, L2.ixN xs.length i = some j ∧ xs[j]? = some x := by
  unfold L2.atI at h
  cases e : L2.ixN xs.length i with
  | none => rw [e] at h; cases h
  | some j =>
    rw [e] at h
    exact ⟨j, rfl, h⟩
theorem atI_of {α β : Type} {xs : List α} {ys : List β} {i : Int} {j : Nat} {y : β} (hl : xs.length = ys.length) (h : L2.ixN xs.length i = some j) (e : ys[j]? = some y) : L2.atI ys i = some y := by
  unfold L2.atI
  rw [← hl, h]
  exact e
theorem idx_ok {X : Cx} {pr : List (Addr × HO)} {ρ : Nat → Addr} {H : Hp} {h : AH} {u v w : D} {x y : V} {Q : VK} (L : Lv X.K pr ρ H h) (ba : bel h.length u) (ra : Rv X.K ρ H u x) (rb : Rv X.K ρ H v y) (e : idxD h u v = some w) (P : Post X.K pr ρ H h w h Q) :
    rIxL X.K x y H Q ∨ rIxT X.K x y H Q := by
  unfold idxD at e
  split at e
  rotate_left
  · cases e
  rename_i n
  have ey : y = .int n := by
    cases rb with
    | py q => exact q.int_
  split at e
  · rename_i p
    split at e
    rotate_left
    · cases e
    cases e
    rename_i q hq
    unfold idxP at hq
    cases ra with
    | py ra =>
      split at hq
      · obtain ⟨a, xs, rfl, h1, h2⟩ := ra.tuple_
        obtain ⟨j, j1, j2⟩ := atI_get hq
        obtain ⟨z, z1, z2⟩ := h2.get j2
        exact .inr ⟨a, xs, n, z, rfl, ey, h1, atI_of h2.length j1 z1, P.py L z2⟩
      · obtain ⟨a, xs, rfl, h1, h2⟩ := ra.list_
        obtain ⟨j, j1, j2⟩ := atI_get hq
        obtain ⟨z, z1, z2⟩ := h2.get j2
        exact .inl ⟨a, xs, n, z, rfl, ey, h1.sq, atI_of h2.length j1 z1, P.py L z2⟩
      · cases hq
  · rename_i xs
    cases ra with
    | tup h1 h2 =>
      obtain ⟨j, j1, j2⟩ := atI_get e
      obtain ⟨z, z1, z2⟩ := h2.get j2
      refine .inr ⟨_, _, n, z, rfl, ey, h1, atI_of h2.length j1 z1, P ρ H z Nx.refl L ?_ z2⟩
      simp only [bel] at ba
      exact belA_iff.mp ba _ (List.mem_of_getElem? j2)
  · rename_i l
    split at e
    · rename_i xs hl
      obtain ⟨b1, vs, e1, r1⟩ := L.lst hl
      cases ra with
      | obj =>
        obtain ⟨j, j1, j2⟩ := atI_get e
        obtain ⟨z, z1, z2⟩ := r1.get j2
        exact .inl ⟨_, vs, n, z, rfl, ey, .inl (.inl e1), atI_of r1.length j1 z1, P ρ H z Nx.refl L (belA_iff.mp b1 _ (List.mem_of_getElem? j2)) z2⟩
    · cases e
theorem se_idx (ha : SE Γ a xa) (hb : SE Γ b xb) (hs : PlainIx xb) : SE Γ (.idx a b) (.Subscript xa xb pos) := by
  refine ⟨?_⟩
  intro C X G pr ρ H h σ τ Q d h1 S L e P
  simp only [ev] at e
  obtain ⟨x, h2, e1, e⟩ := R.bind_eq e
  obtain ⟨y, h3, e2, e⟩ := R.bind_eq e
  obtain ⟨e3, rfl⟩ := rO_eq e
  exact we_of (pe_ix (ix_list.or ix_tup) pe_we pe_we hs) (ha.run C X G _ _ _ _ _ _ _ _ _ S L e1 fun ρ1 H1 v N1 L1 b1 r1 => hb.run C X G _ _ _ _ _ _ _ _ _ (S.nx N1) L1 e2 fun ρ2 H2 u N2 L2 b2 r2 =>
    idx_ok L2 (b1.mono N2.le) (r1.nx N2 b1) r2 e3 (P.nx (N1.trans N2)))
/-- a part of a slice -/
def WO (X : Cx) (x : Option Expr) : TO := fun σ H Q => ∀ (pins : List (Addr × Obj)) (s : Shared), L2.Inv X pins σ H s → wpAny (model X.prog X.w) X.A (evalPart x X.env) (fun v s' => ∃ o H', L2.Inv X pins σ H' s' ∧ IsPart v o ∧ Q o H') X.xe s
theorem po_wo {X : Cx} {x : Option Expr} : PO X x (WO X x) := ⟨fun pins s _ _ _ I h => h pins s I⟩
theorem wo_of {X : Cx} {x : Option Expr} {t : TO} {σ : L2.St} {H : Hp} {Q : Option Int → Hp → Prop} (h : PO X x t) (q : t σ H Q) : WO X x σ H Q := fun pins s I => h.run pins s σ H Q I q
structure SO (Γ : Ga) (e : E) (x : Option Expr) : Prop where
  run : ∀ (C : Orc) (X : Cx), XG Γ C X → ∀ (pr : List (Addr × HO)) (ρ : Nat → Addr) (H : Hp) (h : AH) (σ : Sg) (τ : L2.St) (Q : Option Int → Hp → Prop) (o : Option Int) (h1 : AH),
  SgOk X.K ρ H h.length σ τ → Lv X.K pr ρ H h → evp C e σ h = .ok o h1 → (∀ ρ' H', Nx ρ H h ρ' H' h1 → Lv X.K pr ρ' H' h1 → Q o H') → WO X x τ H Q
theorem so_none : SO Γ .none_ none := by
  refine ⟨?_⟩
  intro C X G pr ρ H h σ τ Q o h1 S L e P
  simp only [evp] at e
  cases e
  exact wo_of po_none (P ρ H Nx.refl L)
theorem so_some (ha : SE Γ a xa) : SO Γ (.cons a .nil) (some xa) := by
  refine ⟨?_⟩
  intro C X G pr ρ H h σ τ Q o h1 S L e P
  simp only [evp] at e
  obtain ⟨x, h2, e1, e⟩ := R.bind_eq e
  split at e
  · cases e
    rename_i n hn
    refine wo_of (po_some pe_we) (ha.run C X G _ _ _ _ _ _ _ _ _ S L e1 fun ρ1 H1 v N1 L1 b1 r1 => ⟨n, ?_, P ρ1 H1 N1 L1⟩)
    unfold partD at hn
    split at hn
    · cases hn
      cases r1 with
      | py q => exact q.int_
    · cases hn
  · cases e
theorem DqA.cut {K : PySem.W.Frag} {H : Hp} {ps : List PyData} {xs : List V} (r : DqA K H ps xs) (lo hi : Option Int) : DqA K H (cutP ps lo hi) (cutV xs lo hi) := by
  unfold cutP cutV
  rw [r.length]
  exact (r.drop _).take _
theorem cutV_all {xs : List V} {lo hi : Option Int} (h : HT.sIx xs.length 0 lo = 0 ∧ HT.sIx xs.length xs.length hi = xs.length) : cutV xs lo hi = xs := by
  unfold cutV
  rw [h.1, h.2]
  simp
theorem se_sli {lo hi : E} {xl xh : Option Expr} (ha : SE Γ a xa) (hl : SO Γ lo xl) (hh : SO Γ hi xh) : SE Γ (.sli a lo hi) (.Subscript xa (.Slice xl xh none p2) pos) := by
  refine ⟨?_⟩
  intro C X G pr ρ H h σ τ Q d h1 S L e P
  simp only [ev] at e
  obtain ⟨x, h2, e1, e⟩ := R.bind_eq e
  obtain ⟨u, h3, e2, e⟩ := R.bind_eq e
  obtain ⟨v, h4, e3, e⟩ := R.bind_eq e
  split at e
  rotate_left
  · cases e
  rename_i p hp
  obtain ⟨e4, rfl⟩ := rO_eq e
  obtain ⟨q, e5, e6⟩ := Option.map_eq_some_iff.mp e4
  subst e6
  unfold sliP at e5
  split at e5
  · cases e5
    refine we_of (pe_slice sl_tupA pe_we po_wo po_wo) (ha.run C X G _ _ _ _ _ _ _ _ _ S L e1 fun ρ1 H1 w N1 L1 b1 r1 => hl.run C X G _ _ _ _ _ _ _ _ _ (S.nx N1) L1 e2 fun ρ2 H2 N2 L2 =>
      hh.run C X G _ _ _ _ _ _ _ _ _ (S.nx (N1.trans N2)) L2 e3 fun ρ3 H3 N3 L3 => ?_)
    obtain ⟨pa, xs, rfl, g1, g2⟩ := (rd_at hp (fun _ z => by cases z) (r1.nx (N2.trans N3) b1)).tuple_
    have P3 := P.nx ((N1.trans N2).trans N3)
    refine ⟨pa, xs, rfl, g1, fun hw => ?_, fun hw t ht => ?_⟩
    · have c1 := g2.cut u v
      rw [cutV_all hw] at c1
      exact P3.py L3 (.tup g1 c1)
    · exact P3.tupN L3 (g2.cut u v) ht
  · cases e5
    refine we_frz (we_of (pe_slice sl_list pe_we po_wo po_wo) (ha.run C X G _ _ _ _ _ _ _ _ _ S L e1 fun ρ1 H1 w N1 L1 b1 r1 => hl.run C X G _ _ _ _ _ _ _ _ _ (S.nx N1) L1 e2 fun ρ2 H2 N2 L2 =>
      hh.run C X G _ _ _ _ _ _ _ _ _ (S.nx (N1.trans N2)) L2 e3 fun ρ3 H3 N3 L3 => ?_))
    obtain ⟨pa, xs, rfl, g1, g2⟩ := rd_list hp L3 (r1.nx (N2.trans N3) b1)
    exact ⟨pa, xs, rfl, g1.sq, fun t ht => (P.nx ((N1.trans N2).trans N3)).lstN L3 (g2.cut u v) ht⟩
  · cases e5
end
end Zm
/-! Zm 10: the machine is sound for calls and methods. -/
namespace Zm
open PySem PySem.Spec PyProof.Rows L2
section
variable {Γ : Ga} {a b c r i : E} {xa xb xc : Expr} {xs : List Expr} {pos p2 p3 : Pos} {x : Str}
/-! ### kinds -/
def tyS : Ty → String
  | .int => "int"
  | .bool => "bool"
  | .str => "str"
  | .list => "list"
  | .tuple => "tuple"
  | .dict => "dict"
def tyP : PyData → String
  | .none => "NoneType"
  | .bool _ => "bool"
  | .int _ => "int"
  | .str _ => "str"
  | .list _ => "list"
  | .tuple _ => "tuple"
  | .dict _ => "dict"
theorem kit_is0 : ∀ (t : Ty), kitB "NoneType" (tyS t) = some (isP t .none) ∧ kitB "bool" (tyS t) = some (isP t (.bool true)) ∧ kitB "int" (tyS t) = some (isP t (.int 0)) ∧ kitB "str" (tyS t) = some (isP t (.str ⟨#[]⟩)) ∧
    kitB "list" (tyS t) = some (isP t (.list [])) ∧ kitB "tuple" (tyS t) = some (isP t (.tuple [])) ∧ kitB "dict" (tyS t) = some (isP t (.dict [])) := by
  intro t
  cases t <;> decide +kernel
theorem kit_is (t : Ty) (p : PyData) : kitB (tyP p) (tyS t) = some (isP t p) := by
  obtain ⟨h1, h2, h3, h4, h5, h6, h7⟩ := kit_is0 t
  cases p with
  | none => exact h1
  | bool b => exact h2.trans (by cases t <;> rfl)
  | int b => exact h3.trans (by cases t <;> rfl)
  | str b => exact h4.trans (by cases t <;> rfl)
  | list b => exact h5.trans (by cases t <;> rfl)
  | tuple b => exact h6.trans (by cases t <;> rfl)
  | dict b => exact h7.trans (by cases t <;> rfl)
theorem sqt_ty {K : PySem.W.Frag} {H : Hp} {a : Addr} {xs : List V} (h : SqT K H a xs) : TyX K H (.ref a) (.type "tuple") := by
  rcases h with (h | ⟨o, h⟩) | ⟨o, its, n, h1, h2, _⟩
  · exact .base (.tup h)
  · exact .fTuple h
  · exact .kTuple h1 h2
theorem fzl_ty {K : PySem.W.Frag} {H : Hp} {a : Addr} {xs : List V} (h : FzL K H a xs) : TyX K H (.ref a) (.type "list") := by
  rcases h with ⟨o, h⟩ | ⟨its, n, h1, _⟩
  · exact .base (.frz h)
  · exact .kList h1 rfl
theorem dq_ty {K : PySem.W.Frag} {H : Hp} {p : PyData} {v : V} (r : Dq K H p v) : TyX K H v (.type (tyP p)) := by
  cases r with
  | non => exact .base .non
  | bl b => exact .base (.bl b)
  | int i => exact .base (.int i)
  | str z => exact .base (.str z)
  | lst h _ => exact fzl_ty h
  | tup h _ => exact sqt_ty h
  | dct h _ => exact .fDict h.choose_spec
theorem isi_ok {X : Cx} {pr : List (Addr × HO)} {ρ : Nat → Addr} {H : Hp} {h : AH} {d : D} {v : V} {t : Ty} {k : Bool} (L : Lv X.K pr ρ H h) (r : Rv X.K ρ H d v) (e : isD h t d = some k) :
    ∃ n, TyX X.K H v (.type n) ∧ PySem.W.kitOne X.K (.type n) (.type (tyS t)) = some k := by
  unfold isD at e
  split at e
  · cases e
    cases r with
    | py r => exact ⟨_, dq_ty r, kit_ty (kit_is t _)⟩
  · cases e
    cases r with
    | tup h1 _ => exact ⟨_, sqt_ty h1, kit_ty (by cases t <;> decide +kernel)⟩
  · split at e
    · cases e
      rename_i hl
      obtain ⟨_, vs, e1, _⟩ := L.lst hl
      cases r with
      | obj => exact ⟨_, .base (.lst e1), kit_ty (by cases t <;> decide +kernel)⟩
    · cases e
theorem mem_bl {x : Str} (h : bltins.contains x = true) : x ∈ bltins := by simpa using h
theorem se_isiN {t : Ty} {y : Str} (ha : SE Γ a xa) (hg : glB Γ.sc "isinstance" = true) (hy : glB Γ.sc y = true) (hv : bootBuiltins y = some (.type (tyS t))) (hbl : bltins.contains y = true) (hn : y ≠ "__name__") (hd : (y == ("__debug__" : Str)) = false)
    (hs : ∀ env, starEach [xa, .Name y p3] env = [(false, eval xa env), (false, eval (.Name y p3) env)]) : SE Γ (.isi a t) (.Call (.Name "isinstance" p2) [xa, .Name y p3] [] pos) := by
  refine ⟨?_⟩
  intro C X G pr ρ H h σ τ Q d h1 S L e P
  simp only [ev] at e
  obtain ⟨x, h2, e1, e⟩ := R.bind_eq e
  obtain ⟨e3, rfl⟩ := rO_eq e
  obtain ⟨k, e5, e4⟩ := Option.map_eq_some_iff.mp e3
  subst e4
  have pt : PE X (.Name y p3) (tC (.ty (tyS t))) := pe_bltn (glB_ok hy G.sc) (G.bl y (mem_bl hbl)) hv rfl hn hd
  refine we_of (pe_callB call_isi (glB_ok hg G.sc) (G.bl _ (mem_bl (by decide +kernel))) (by rfl) (pa_cons pe_we (pa_cons pt pa_nil (by rfl)) (hs X.env)) (he := hs X.env)) (ha.run C X G _ _ _ _ _ _ _ _ _ S L e1 fun ρ1 H1 v N1 L1 b1 r1 => ?_)
  obtain ⟨n, t1, t2⟩ := isi_ok L1 r1 e5
  exact ⟨v, .ty (tyS t), _, _, k, rfl, .ty _, t1, t2, P ρ1 H1 _ N1 L1 (by simp only [bel]) (.py (.bl _))⟩
theorem se_isiInt (ha : SE Γ a xa) (hg : glB Γ.sc "isinstance" = true) (hy : glB Γ.sc "int" = true) (hs : ∀ env, starEach [xa, .Name "int" p3] env = [(false, eval xa env), (false, eval (.Name "int" p3) env)]) : SE Γ (.isi a .int) (.Call (.Name "isinstance" p2) [xa, .Name "int" p3] [] pos) :=
  se_isiN ha hg hy (by rfl) (by decide +kernel) (by decide) (by decide) hs
theorem se_isiBool (ha : SE Γ a xa) (hg : glB Γ.sc "isinstance" = true) (hy : glB Γ.sc "bool" = true) (hs : ∀ env, starEach [xa, .Name "bool" p3] env = [(false, eval xa env), (false, eval (.Name "bool" p3) env)]) : SE Γ (.isi a .bool) (.Call (.Name "isinstance" p2) [xa, .Name "bool" p3] [] pos) :=
  se_isiN ha hg hy (by rfl) (by decide +kernel) (by decide) (by decide) hs
theorem se_isiStr (ha : SE Γ a xa) (hg : glB Γ.sc "isinstance" = true) (hy : glB Γ.sc "str" = true) (hs : ∀ env, starEach [xa, .Name "str" p3] env = [(false, eval xa env), (false, eval (.Name "str" p3) env)]) : SE Γ (.isi a .str) (.Call (.Name "isinstance" p2) [xa, .Name "str" p3] [] pos) :=
  se_isiN ha hg hy (by rfl) (by decide +kernel) (by decide) (by decide) hs
theorem se_isiList (ha : SE Γ a xa) (hg : glB Γ.sc "isinstance" = true) (hy : glB Γ.sc "list" = true) (hs : ∀ env, starEach [xa, .Name "list" p3] env = [(false, eval xa env), (false, eval (.Name "list" p3) env)]) : SE Γ (.isi a .list) (.Call (.Name "isinstance" p2) [xa, .Name "list" p3] [] pos) :=
  se_isiN ha hg hy (by rfl) (by decide +kernel) (by decide) (by decide) hs
theorem se_isiTuple (ha : SE Γ a xa) (hg : glB Γ.sc "isinstance" = true) (hy : glB Γ.sc "tuple" = true) (hs : ∀ env, starEach [xa, .Name "tuple" p3] env = [(false, eval xa env), (false, eval (.Name "tuple" p3) env)]) : SE Γ (.isi a .tuple) (.Call (.Name "isinstance" p2) [xa, .Name "tuple" p3] [] pos) :=
  se_isiN ha hg hy (by rfl) (by decide +kernel) (by decide) (by decide) hs
theorem se_isiDict (ha : SE Γ a xa) (hg : glB Γ.sc "isinstance" = true) (hy : glB Γ.sc "dict" = true) (hs : ∀ env, starEach [xa, .Name "dict" p3] env = [(false, eval xa env), (false, eval (.Name "dict" p3) env)]) : SE Γ (.isi a .dict) (.Call (.Name "isinstance" p2) [xa, .Name "dict" p3] [] pos) :=
  se_isiN ha hg hy (by rfl) (by decide +kernel) (by decide) (by decide) hs
/-! ### built-in functions -/
theorem se_biB {B : Bi} {id : String} (hB : biV B = .builtin id) (hv : bootBuiltins x = some (.builtin id)) (hbl : bltins.contains x = true) (hn : x ≠ "__name__") (hd : (x == ("__debug__" : Str)) = false)
    (ha : SA Γ r (xa :: xs)) (hg : glB Γ.sc x = true) (hs : ∀ env, starEach (xa :: xs) env = (false, eval xa env) :: starEach xs env) (hpl : ∀ env, (backTo pos (starEach xs env)).any (·.1) = false) : SE Γ (.bi B r) (.Call (.Name x p2) (xa :: xs) [] pos) := by
  refine ⟨?_⟩
  intro C X G pr ρ H h σ τ Q d h1 S L e P
  simp only [ev] at e
  obtain ⟨ds, h2, e1, e⟩ := R.bind_eq e
  obtain ⟨e3, rfl⟩ := rO_eq e
  refine we_of (pe_callB callR_wc (glB_ok hg G.sc) (G.bl _ (mem_bl hbl)) hv pa_wa hn hd (hs X.env) (hpl X.env)) (ha.run C X G _ _ _ _ _ _ _ _ _ S L e1 fun ρ1 H1 vs N1 L1 b1 r1 _ => ?_)
  rw [← hB]
  exact bi_ok G.gd L1 r1 e3 (P.nx N1)
theorem se_biT {B : Bi} {id : String} (hB : biV B = .type id) (hv : bootBuiltins x = some (.type id)) (hbl : bltins.contains x = true) (hn : x ≠ "__name__") (hd : (x == ("__debug__" : Str)) = false)
    (ha : SA Γ r (xa :: xs)) (hg : glB Γ.sc x = true) (hs : ∀ env, starEach (xa :: xs) env = (false, eval xa env) :: starEach xs env) (hpl : ∀ env, (backTo pos (starEach xs env)).any (·.1) = false) : SE Γ (.bi B r) (.Call (.Name x p2) (xa :: xs) [] pos) := by
  refine ⟨?_⟩
  intro C X G pr ρ H h σ τ Q d h1 S L e P
  simp only [ev] at e
  obtain ⟨ds, h2, e1, e⟩ := R.bind_eq e
  obtain ⟨e3, rfl⟩ := rO_eq e
  refine we_of (pe_callTy callR_wc (glB_ok hg G.sc) (G.bl _ (mem_bl hbl)) hv pa_wa hn hd (hs X.env) (hpl X.env)) (ha.run C X G _ _ _ _ _ _ _ _ _ S L e1 fun ρ1 H1 vs N1 L1 b1 r1 _ => ?_)
  rw [← hB]
  exact bi_ok G.gd L1 r1 e3 (P.nx N1)
abbrev NoStar (xa : Expr) (xs : List Expr) : Prop := ∀ env, starEach (xa :: xs) env = (false, eval xa env) :: starEach xs env
abbrev NoStars (pos : Pos) (xs : List Expr) : Prop := ∀ env, (backTo pos (starEach xs env)).any (·.1) = false
theorem se_len (ha : SA Γ r (xa :: xs)) (hg : glB Γ.sc "len" = true) (hs : NoStar xa xs) (hpl : NoStars pos xs) : SE Γ (.bi .len r) (.Call (.Name "len" p2) (xa :: xs) [] pos) := se_biB rfl (by rfl) (by decide +kernel) (by decide) (by decide) ha hg hs hpl
theorem se_all (ha : SA Γ r (xa :: xs)) (hg : glB Γ.sc "all" = true) (hs : NoStar xa xs) (hpl : NoStars pos xs) : SE Γ (.bi .all r) (.Call (.Name "all" p2) (xa :: xs) [] pos) := se_biB rfl (by rfl) (by decide +kernel) (by decide) (by decide) ha hg hs hpl
theorem se_any (ha : SA Γ r (xa :: xs)) (hg : glB Γ.sc "any" = true) (hs : NoStar xa xs) (hpl : NoStars pos xs) : SE Γ (.bi .any r) (.Call (.Name "any" p2) (xa :: xs) [] pos) := se_biB rfl (by rfl) (by decide +kernel) (by decide) (by decide) ha hg hs hpl
theorem se_sum (ha : SA Γ r (xa :: xs)) (hg : glB Γ.sc "sum" = true) (hs : NoStar xa xs) (hpl : NoStars pos xs) : SE Γ (.bi .sum r) (.Call (.Name "sum" p2) (xa :: xs) [] pos) := se_biB rfl (by rfl) (by decide +kernel) (by decide) (by decide) ha hg hs hpl
theorem se_min (ha : SA Γ r (xa :: xs)) (hg : glB Γ.sc "min" = true) (hs : NoStar xa xs) (hpl : NoStars pos xs) : SE Γ (.bi .min r) (.Call (.Name "min" p2) (xa :: xs) [] pos) := se_biB rfl (by rfl) (by decide +kernel) (by decide) (by decide) ha hg hs hpl
theorem se_max (ha : SA Γ r (xa :: xs)) (hg : glB Γ.sc "max" = true) (hs : NoStar xa xs) (hpl : NoStars pos xs) : SE Γ (.bi .max r) (.Call (.Name "max" p2) (xa :: xs) [] pos) := se_biB rfl (by rfl) (by decide +kernel) (by decide) (by decide) ha hg hs hpl
theorem se_sorted (ha : SA Γ r (xa :: xs)) (hg : glB Γ.sc "sorted" = true) (hs : NoStar xa xs) (hpl : NoStars pos xs) : SE Γ (.bi .sorted r) (.Call (.Name "sorted" p2) (xa :: xs) [] pos) := se_biB rfl (by rfl) (by decide +kernel) (by decide) (by decide) ha hg hs hpl
theorem se_divmod (ha : SA Γ r (xa :: xs)) (hg : glB Γ.sc "divmod" = true) (hs : NoStar xa xs) (hpl : NoStars pos xs) : SE Γ (.bi .divmod r) (.Call (.Name "divmod" p2) (xa :: xs) [] pos) := se_biB rfl (by rfl) (by decide +kernel) (by decide) (by decide) ha hg hs hpl
theorem se_repr (ha : SA Γ r (xa :: xs)) (hg : glB Γ.sc "repr" = true) (hs : NoStar xa xs) (hpl : NoStars pos xs) : SE Γ (.bi .repr r) (.Call (.Name "repr" p2) (xa :: xs) [] pos) := se_biB rfl (by rfl) (by decide +kernel) (by decide) (by decide) ha hg hs hpl
theorem se_tuple (ha : SA Γ r (xa :: xs)) (hg : glB Γ.sc "tuple" = true) (hs : NoStar xa xs) (hpl : NoStars pos xs) : SE Γ (.bi .tuple r) (.Call (.Name "tuple" p2) (xa :: xs) [] pos) := se_biT rfl (by rfl) (by decide +kernel) (by decide) (by decide) ha hg hs hpl
theorem se_list (ha : SA Γ r (xa :: xs)) (hg : glB Γ.sc "list" = true) (hs : NoStar xa xs) (hpl : NoStars pos xs) : SE Γ (.bi .list r) (.Call (.Name "list" p2) (xa :: xs) [] pos) := se_biT rfl (by rfl) (by decide +kernel) (by decide) (by decide) ha hg hs hpl
theorem se_intF (ha : SA Γ r (xa :: xs)) (hg : glB Γ.sc "int" = true) (hs : NoStar xa xs) (hpl : NoStars pos xs) : SE Γ (.bi .int r) (.Call (.Name "int" p2) (xa :: xs) [] pos) := se_biT rfl (by rfl) (by decide +kernel) (by decide) (by decide) ha hg hs hpl
/-! ### the module's functions -/
theorem se_call {f : Nat} (hf : Γ.fns[f]? = some x) (ha : SA Γ r (xa :: xs)) (hg : glB Γ.sc x = true) (hdb : (x == ("__debug__" : Str)) = false) (hs : NoStar xa xs) (hpl : NoStars pos xs) : SE Γ (.call f r) (.Call (.Name x p2) (xa :: xs) [] pos) := by
  refine ⟨?_⟩
  intro C X G pr ρ H h σ τ Q d h1 S L e P
  simp only [ev] at e
  obtain ⟨ds, h2, e1, e⟩ := R.bind_eq e
  obtain ⟨k, hr, horc⟩ := G.orc
  obtain ⟨fa, hm, hk, F⟩ := horc f x hf
  have key : PE X (.Call (.Name x p2) (xa :: xs) [] pos) (fun σ H Q => WA X (xa :: xs) σ H fun vs H1 => WC X (.ref fa) vs H1 Q) := by
    refine ⟨fun pins s σ H Q I h => ?_⟩
    refine wpAny_Call_Name_kw (ld_glob I (glB_ok hg G.sc) hm ?_ hdb)
    refine PySem.W.callWith_K (h₀ := X.base) I.ok.mod.kin hk (thn (h pos pins s I) fun us s1 ⟨vs, H1, I1, r, q⟩ => ⟨I1.kIn, ?_⟩) (hs X.env) (hpl X.env)
    exact q pins s1 σ us I1 r
  exact we_of key (ha.run C X G _ _ _ _ _ _ _ _ _ S L e1 fun ρ1 H1 vs N1 L1 b1 r1 _ => wc_fn G.gd hr F r1 b1 L1 e (P.nx N1))
theorem se_call0 {f : Nat} (hf : Γ.fns[f]? = some x) (hg : glB Γ.sc x = true) (hdb : (x == ("__debug__" : Str)) = false) : SE Γ (.call f .nil) (.Call (.Name x p2) [] [] pos) := by
  refine ⟨?_⟩
  intro C X G pr ρ H h σ τ Q d h1 S L e P
  simp only [ev, evs, R.bind_ok] at e
  obtain ⟨k, hr, horc⟩ := G.orc
  obtain ⟨fa, hm, hk, F⟩ := horc f x hf
  have key : PE X (.Call (.Name x p2) [] [] pos) (fun σ H Q => WC X (.ref fa) [] H Q) := by
    refine ⟨fun pins s σ H Q I h => ?_⟩
    refine wpAny_Call_Name_kw (ld_glob I (glB_ok hg G.sc) hm ?_ hdb)
    exact PySem.W.callWith_K0 I.kIn hk (h pins s σ [] I .nil)
  exact we_of key (wc_fn G.gd hr F .nil (by simp only [belA]) L e P)
/-! ### live lists -/
theorem se_frz (ha : SE Γ a xa) : SE Γ (.frz a) xa := by
  refine ⟨?_⟩
  intro C X G pr ρ H h σ τ Q d h1 S L e P
  simp only [ev] at e
  obtain ⟨x, h2, e1, e⟩ := R.bind_eq e
  split at e
  rotate_left
  · cases e
  rename_i l
  split at e
  rotate_left
  · cases e
  rename_i ys hl
  split at e
  rotate_left
  · cases e
  rename_i ps hps
  cases e
  refine we_frz (ha.run C X G _ _ _ _ _ _ _ _ _ S L e1 fun ρ1 H1 v N1 L1 b1 r1 => ?_)
  obtain ⟨b2, vs, e2, r2⟩ := L1.lst hl
  cases r1 with
  | obj =>
    refine ⟨_, vs, rfl, e2, fun o => ?_⟩
    obtain ⟨N2, L2⟩ := L1.drop (o := o) hl e2
    exact P ρ1 _ _ (N1.trans N2) L2 (by simp only [bel]) (.py (.lst (.inl ⟨o, upd_same⟩) ((RvA.to_py hps r2).ext N2.ext)))
theorem swap_none {e : Expr} {l : Nat} : True := trivial
/-- o.append(e) -/
theorem se_append {apos : Pos} (ho : SE Γ a xa) (ha : SA Γ r (xb :: xs)) (hbase : ∀ env, attributeBase xa "append" env (eval xa env) = eval xa env)
    (hfew : ∀ env, ((backTo pos (starEach (xb :: xs) env)).all (fun x => !x.1) && (backToKw pos (keywordEach [] env)).all (fun x => x.1.isSome) && decide ((xb :: xs).length + ([] : List Keyword).length + (if ([] : List Keyword).isEmpty then 0 else 1) < 30)) = true)
    (hline : (apos.endLine == pos.line) = true) (hs : NoStar xb xs) (hpl : NoStars pos xs) : SE Γ (.met .append a r) (.Call (.Attribute xa "append" apos) (xb :: xs) [] pos) := by
  refine ⟨?_⟩
  intro C X G pr ρ H h σ τ Q d h1 S L e P
  simp only [ev] at e
  obtain ⟨x, h2, e1, e⟩ := R.bind_eq e
  split at e
  rotate_left
  · cases e
  rename_i l
  split at e
  rotate_left
  · cases e
  rename_i zs hl0
  obtain ⟨ds, h3, e2, e⟩ := R.bind_eq e
  split at e
  rotate_left
  · cases e
  rename_i ob hl
  split at e
  rotate_left
  · cases e
  rename_i dv ob' hm
  cases e
  unfold metO at hm
  split at hm
  rotate_left
  · cases hm
  rename_i ys dd _
  split at hm
  rotate_left
  · cases hm
  rename_i hz
  simp only [Option.some.injEq, Prod.mk.injEq] at hm
  obtain ⟨rfl, rfl⟩ := hm
  refine we_of (pe_bm F.plainAttrs_list F.slot_list_append F.type_list_append mt_append pe_we pa_wa (hbase X.env) (hfew X.env) hline (hs X.env) (hpl X.env)) (ho.run C X G _ _ _ _ _ _ _ _ _ S L e1 fun ρ1 H1 v N1 L1 b1 r1 => ?_)
  obtain ⟨b2, vs, e3, r2⟩ := L1.lst hl0
  cases r1 with
  | obj =>
    refine ⟨.inl ⟨rfl, vs, .inl (.inl e3)⟩, ha.run C X G _ _ _ _ _ _ _ _ _ (S.nx N1) L1 e2 fun ρ2 H2 ws N2 L2 b3 r3 _ => ?_⟩
    obtain ⟨b4, us, e4, r4⟩ := L2.lst hl
    obtain ⟨w, rfl, r5⟩ := rvA1 r3
    have hll : l < h2.length := by simpa only [bel] using b1
    have eρ := N2.same l hll
    simp only [belA] at b3
    have bb : belA h3.length (ys ++ [dd]) := belA_iff.mpr fun d hd => by
      rcases List.mem_append.mp hd with hd | hd
      · exact belA_iff.mp b4 d hd
      · rw [List.mem_singleton.mp hd]
        exact b3.1
    obtain ⟨N3, L3⟩ := L2.put hl e4 bb (r4.append (.cons r5 .nil))
    have hzl : us.length < sizeLine := by
      rw [← r4.length]
      exact Nat.lt_of_lt_of_le hz lim_line
    rw [← eρ]
    exact ⟨_, us, w, rfl, rfl, e4, hzl, P ρ2 _ _ ((N1.trans N2).trans N3) L3 (by simp only [bel]) (.py .non)⟩
end
end Zm
/-! Zm 11: what is walked; stores. -/
namespace Zm
open PySem PySem.Spec PyProof.Rows L2
/-- the iterator J walks the items of sr -/
structure Wk (K : PySem.W.Frag) (ρ : Nat → Addr) (H : Hp) (h : AH) (J : It) (sr : Src) : Prop where
  bel : belA h.length sr.xs
  go : ∀ (i : Nat) (pr : List (Addr × HO)) (ρ' : Nat → Addr) (H' : Hp) (h' : AH), i < sr.xs.length → Nx ρ H h ρ' H' h' → Lv K pr ρ' H' h' → okS sr h' = true → J.go i H'
  yld : ∀ (i : Nat) (d : D) (x : V) (pr : List (Addr × HO)) (ρ' : Nat → Addr) (H' : Hp) (h' : AH) (H2 : Hp), sr.xs[i]? = some d → Nx ρ H h ρ' H' h' → Lv K pr ρ' H' h' → okS sr h' = true → J.yld i H' x H2 →
    ∃ ρ2, Nx ρ' H' h' ρ2 H2 h' ∧ Lv K pr ρ2 H2 h' ∧ Rv K ρ2 H2 d x
  stop : ∀ (pr : List (Addr × HO)) (ρ' : Nat → Addr) (H' : Hp) (h' : AH), Nx ρ H h ρ' H' h' → Lv K pr ρ' H' h' → okS sr h' = true → J.stop sr.xs.length H'
section
variable {K : PySem.W.Frag} {pr : List (Addr × HO)} {ρ : Nat → Addr} {H : Hp} {h : AH}
theorem get_some {α : Type} {xs : List α} {i : Nat} (h : i < xs.length) : ∃ x, xs[i]? = some x := ⟨xs[i], by simp [h]⟩
theorem wk_tup {a : Addr} {xs : List D} {vs : List V} (hq : SqT K H a vs) (b : belA h.length xs) (r : RvA K ρ H xs vs) : Wk K ρ H h (Itt K a) ⟨xs, none⟩ where
  bel := b
  go := fun i pr ρ' H' h' hi N L _ => by
    obtain ⟨x, hx⟩ := get_some (xs := vs) (by rw [← r.length]; exact hi)
    exact ⟨vs, x, sqt_ext N.ext hq, hx⟩
  yld := fun i d x pr ρ' H' h' H2 hd N L _ y => by
    obtain ⟨e, y⟩ := y
    subst e
    obtain ⟨v, hv, rv⟩ := (r.nx N b).get hd
    have := y vs (sqt_ext N.ext hq)
    rw [hv] at this
    cases this
    exact ⟨ρ', Nx.refl, L, rv⟩
  stop := fun pr ρ' H' h' N L _ => ⟨vs, sqt_ext N.ext hq, by rw [← r.length]; exact Nat.le_refl _⟩
theorem wk_list {a : Addr} {xs : List D} {vs : List V} (hq : FzL K H a vs) (b : belA h.length xs) (r : RvA K ρ H xs vs) : Wk K ρ H h (Itl K a) ⟨xs, none⟩ where
  bel := b
  go := fun i pr ρ' H' h' hi N L _ => by
    obtain ⟨x, hx⟩ := get_some (xs := vs) (by rw [← r.length]; exact hi)
    exact ⟨vs, x, (hq.ext N.ext).sq, hx⟩
  yld := fun i d x pr ρ' H' h' H2 hd N L _ y => by
    obtain ⟨e, y⟩ := y
    subst e
    obtain ⟨v, hv, rv⟩ := (r.nx N b).get hd
    have := y vs (hq.ext N.ext).sq
    rw [hv] at this
    cases this
    exact ⟨ρ', Nx.refl, L, rv⟩
  stop := fun pr ρ' H' h' N L _ => ⟨vs, (hq.ext N.ext).sq, by rw [← r.length]; exact Nat.le_refl _⟩
theorem okS_live {l : Nat} {xs : List D} {h' : AH} (e : okS ⟨xs, some l⟩ h' = true) : h'[l]? = some (.lst xs) := by
  unfold okS at e
  simpa using e
theorem wk_live {l : Nat} {xs : List D} (hl : l < h.length) (b : belA h.length xs) : Wk K ρ H h (Itl K (ρ l)) ⟨xs, some l⟩ where
  bel := b
  go := fun i pr ρ' H' h' hi N L ok => by
    obtain ⟨_, vs, e, r⟩ := L.lst (okS_live ok)
    obtain ⟨x, hx⟩ := get_some (xs := vs) (by rw [← r.length]; exact hi)
    rw [N.same l hl] at e
    exact ⟨vs, x, .inl (.inl e), hx⟩
  yld := fun i d x pr ρ' H' h' H2 hd N L ok y => by
    obtain ⟨e0, y⟩ := y
    subst e0
    obtain ⟨_, vs, e, r⟩ := L.lst (okS_live ok)
    rw [N.same l hl] at e
    obtain ⟨v, hv, rv⟩ := r.get hd
    have := y vs (.inl (.inl e))
    rw [hv] at this
    cases this
    exact ⟨ρ', Nx.refl, L, rv⟩
  stop := fun pr ρ' H' h' N L ok => by
    obtain ⟨_, vs, e, r⟩ := L.lst (okS_live ok)
    rw [N.same l hl] at e
    exact ⟨vs, .inl (.inl e), by rw [← r.length]; exact Nat.le_refl _⟩
theorem rangeL_len : ∀ (n : Nat) (lo : Int), (rangeL lo n).length = n
  | 0, _ => rfl
  | n + 1, lo => by rw [rangeL, List.length_cons, rangeL_len n]
theorem rangeL_get : ∀ (n : Nat) (lo : Int) (i : Nat) (d : D), (rangeL lo n)[i]? = some d → d = .i (lo + i)
  | 0, _, _, _, e => by simp [rangeL] at e
  | n + 1, lo, 0, d, e => by
    simp [rangeL] at e
    subst e
    simp
  | n + 1, lo, i + 1, d, e => by
    have := rangeL_get n (lo + 1) i d (by simpa [rangeL] using e)
    rw [this]
    have e2 : lo + 1 + (i : Int) = lo + ((i + 1 : Nat) : Int) := by push_cast; omega
    rw [e2]
theorem rangeL_bel : ∀ (n : Nat) (lo : Int) (m : Nat), belA m (rangeL lo n)
  | 0, _, _ => by simp only [rangeL, belA]
  | n + 1, lo, m => by
    simp only [rangeL, belA]
    exact ⟨by simp only [Zm.bel], rangeL_bel n (lo + 1) m⟩
theorem wk_rng {lo : Int} {n : Nat} : Wk K ρ H h (Itr lo n) ⟨rangeL lo n, none⟩ where
  bel := rangeL_bel n lo _
  go := fun i pr ρ' H' h' hi N L _ => by
    rw [rangeL_len] at hi
    exact hi
  yld := fun i d x pr ρ' H' h' H2 hd N L _ y => by
    obtain ⟨e, y⟩ := y
    subst e
    rw [y, rangeL_get n lo i d hd]
    exact ⟨ρ', Nx.refl, L, .py (.int _)⟩
  stop := fun pr ρ' H' h' N L _ => by
    rw [rangeL_len]
    exact Nat.le_refl _
theorem zipD_get : ∀ {xs ys : List D} {i : Nat} {d : D}, (zipD xs ys)[i]? = some d → ∃ x y, xs[i]? = some x ∧ ys[i]? = some y ∧ d = mkTup [x, y]
  | [], _, _, _, e => by simp [zipD] at e
  | _ :: _, [], _, _, e => by simp [zipD] at e
  | x :: xs, y :: ys, 0, d, e => by
    simp [zipD] at e
    exact ⟨x, y, rfl, rfl, e.symm⟩
  | x :: xs, y :: ys, i + 1, d, e => by
    obtain ⟨u, v, h1, h2, h3⟩ := zipD_get (xs := xs) (ys := ys) (i := i) (d := d) (by simpa [zipD] using e)
    exact ⟨u, v, by simpa using h1, by simpa using h2, h3⟩
theorem zipD_len : ∀ (xs ys : List D), (zipD xs ys).length = min xs.length ys.length
  | [], _ => by simp [zipD]
  | _ :: _, [] => by simp [zipD]
  | x :: xs, y :: ys => by
    simp only [zipD, List.length_cons, zipD_len xs ys]
    omega
theorem bel_mk {n : Nat} {ds : List D} (b : belA n ds) : Zm.bel n (mkTup ds) := by
  unfold mkTup
  split
  · simp only [Zm.bel]
  · simpa only [Zm.bel] using b
theorem zipD_bel : ∀ {n : Nat} {xs ys : List D}, belA n xs → belA n ys → belA n (zipD xs ys)
  | _, [], _, _, _ => by simp only [zipD, belA]
  | _, _ :: _, [], _, _ => by simp only [zipD, belA]
  | n, x :: xs, y :: ys, h1, h2 => by
    simp only [zipD, belA] at h1 h2 ⊢
    exact ⟨bel_mk (by simp only [belA]; exact ⟨h1.1, h2.1, True.intro⟩), zipD_bel h1.2 h2.2⟩
theorem enumD_get : ∀ {xs : List D} {k : Int} {i : Nat} {d : D}, (enumD k xs)[i]? = some d → ∃ x, xs[i]? = some x ∧ d = mkTup [.i (k + i), x]
  | [], _, _, _, e => by simp [enumD] at e
  | x :: xs, k, 0, d, e => by
    simp [enumD] at e
    exact ⟨x, rfl, by simp [← e]⟩
  | x :: xs, k, i + 1, d, e => by
    obtain ⟨u, h1, h3⟩ := enumD_get (xs := xs) (k := k + 1) (i := i) (d := d) (by simpa [enumD] using e)
    refine ⟨u, by simpa using h1, ?_⟩
    rw [h3]
    have e2 : k + 1 + (i : Int) = k + ((i + 1 : Nat) : Int) := by push_cast; omega
    rw [e2]
theorem enumD_len : ∀ (xs : List D) (k : Int), (enumD k xs).length = xs.length
  | [], _ => rfl
  | _ :: xs, k => by rw [enumD, List.length_cons, List.length_cons, enumD_len xs]
theorem enumD_bel : ∀ {n : Nat} {xs : List D} {k : Int}, belA n xs → belA n (enumD k xs)
  | _, [], _, _ => by simp only [enumD, belA]
  | n, x :: xs, k, h1 => by
    simp only [enumD, belA] at h1 ⊢
    exact ⟨bel_mk (by simp only [belA, Zm.bel]; exact ⟨True.intro, h1.1, True.intro⟩), enumD_bel h1.2⟩
theorem lv_pair {x y : D} {v w : V} {T : Addr} (L : Lv K pr ρ H h) (b : belA h.length [x, y]) (r : RvA K ρ H [x, y] [v, w]) (hT : H T = none) :
    Nx ρ H h ρ (upd H T (.tup [v, w])) h ∧ Lv K pr ρ (upd H T (.tup [v, w])) h ∧ Rv K ρ (upd H T (.tup [v, w])) (mkTup [x, y]) (.ref T) :=
  ⟨⟨Ext.new hT, fun _ _ => rfl, Nat.le_refl _⟩, L.new hT, (rvA_tup L b r hT).1⟩
theorem wk_zipL {a c : Addr} {xs ys : List D} {vs ws : List V} (ha : FzL K H a vs) (hc : FzL K H c ws) (b : belA h.length xs) (b2 : belA h.length ys) (r : RvA K ρ H xs vs) (r2 : RvA K ρ H ys ws) : Wk K ρ H h (Itz K a c) ⟨zipD xs ys, none⟩ where
  bel := zipD_bel b b2
  go := fun i pr ρ' H' h' hi N L _ => by
    have hi : i < (zipD xs ys).length := hi
    rw [zipD_len] at hi
    have l1 := r.length
    have l2 := r2.length
    obtain ⟨x, hx⟩ := get_some (xs := vs) (i := i) (by omega)
    obtain ⟨y, hy⟩ := get_some (xs := ws) (i := i) (by omega)
    exact ⟨vs, ws, x, y, (ha.ext N.ext).sq, (hc.ext N.ext).sq, hx, hy⟩
  yld := fun i d x pr ρ' H' h' H2 hd N L _ q => by
    obtain ⟨T, v, w, rfl, hT, rfl, h1, h2⟩ := q
    obtain ⟨x1, y1, g1, g2, rfl⟩ := zipD_get hd
    obtain ⟨v', hv, rv⟩ := (r.nx N b).get g1
    obtain ⟨w', hw, rw'⟩ := (r2.nx N b2).get g2
    have e1 := h1 vs (ha.ext N.ext).sq
    have e2 := h2 ws (hc.ext N.ext).sq
    rw [hv] at e1
    rw [hw] at e2
    cases e1
    cases e2
    have bb : belA h'.length [x1, y1] := by
      simp only [belA]
      exact ⟨(belA_iff.mp b _ (List.mem_of_getElem? g1)).mono N.le, (belA_iff.mp b2 _ (List.mem_of_getElem? g2)).mono N.le, True.intro⟩
    exact ⟨ρ', lv_pair L bb (.cons rv (.cons rw' .nil)) hT⟩
  stop := fun pr ρ' H' h' N L _ => by
    have l1 := r.length
    have l2 := r2.length
    refine ⟨vs, ws, (ha.ext N.ext).sq, (hc.ext N.ext).sq, ?_⟩
    show vs.length ≤ (zipD xs ys).length ∨ ws.length ≤ (zipD xs ys).length
    rw [zipD_len]
    omega
theorem wk_zipT {a c : Addr} {xs ys : List D} {vs ws : List V} (ha : SqT K H a vs) (hc : SqT K H c ws) (b : belA h.length xs) (b2 : belA h.length ys) (r : RvA K ρ H xs vs) (r2 : RvA K ρ H ys ws) : Wk K ρ H h (RZ.ItzT K a c) ⟨zipD xs ys, none⟩ where
  bel := zipD_bel b b2
  go := fun i pr ρ' H' h' hi N L _ => by
    have hi : i < (zipD xs ys).length := hi
    rw [zipD_len] at hi
    have l1 := r.length
    have l2 := r2.length
    obtain ⟨x, hx⟩ := get_some (xs := vs) (i := i) (by omega)
    obtain ⟨y, hy⟩ := get_some (xs := ws) (i := i) (by omega)
    exact ⟨vs, ws, x, y, sqt_ext N.ext ha, sqt_ext N.ext hc, hx, hy⟩
  yld := fun i d x pr ρ' H' h' H2 hd N L _ q => by
    obtain ⟨T, v, w, rfl, hT, rfl, h1, h2⟩ := q
    obtain ⟨x1, y1, g1, g2, rfl⟩ := zipD_get hd
    obtain ⟨v', hv, rv⟩ := (r.nx N b).get g1
    obtain ⟨w', hw, rw'⟩ := (r2.nx N b2).get g2
    have e1 := h1 vs (sqt_ext N.ext ha)
    have e2 := h2 ws (sqt_ext N.ext hc)
    rw [hv] at e1
    rw [hw] at e2
    cases e1
    cases e2
    have bb : belA h'.length [x1, y1] := by
      simp only [belA]
      exact ⟨(belA_iff.mp b _ (List.mem_of_getElem? g1)).mono N.le, (belA_iff.mp b2 _ (List.mem_of_getElem? g2)).mono N.le, True.intro⟩
    exact ⟨ρ', lv_pair L bb (.cons rv (.cons rw' .nil)) hT⟩
  stop := fun pr ρ' H' h' N L _ => by
    have l1 := r.length
    have l2 := r2.length
    refine ⟨vs, ws, sqt_ext N.ext ha, sqt_ext N.ext hc, ?_⟩
    show vs.length ≤ (zipD xs ys).length ∨ ws.length ≤ (zipD xs ys).length
    rw [zipD_len]
    omega
theorem wk_enumL {a : Addr} {xs : List D} {vs : List V} (ha : FzL K H a vs) (b : belA h.length xs) (r : RvA K ρ H xs vs) : Wk K ρ H h (Ite K a) ⟨enumD 0 xs, none⟩ where
  bel := enumD_bel b
  go := fun i pr ρ' H' h' hi N L _ => by
    have hi : i < (enumD 0 xs).length := hi
    rw [enumD_len, r.length] at hi
    obtain ⟨x, hx⟩ := get_some (xs := vs) hi
    exact ⟨vs, x, (ha.ext N.ext).sq, hx⟩
  yld := fun i d x pr ρ' H' h' H2 hd N L _ q => by
    obtain ⟨T, v, rfl, hT, rfl, h1⟩ := q
    obtain ⟨x1, g1, rfl⟩ := enumD_get hd
    obtain ⟨v', hv, rv⟩ := (r.nx N b).get g1
    have e1 := h1 vs (ha.ext N.ext).sq
    rw [hv] at e1
    cases e1
    have bb : belA h'.length [.i (0 + i), x1] := by
      simp only [belA, Zm.bel]
      exact ⟨True.intro, (belA_iff.mp b _ (List.mem_of_getElem? g1)).mono N.le, True.intro⟩
    have e0 : (0 : Int) + (i : Int) = (i : Int) := Int.zero_add _
    rw [e0] at bb ⊢
    exact ⟨ρ', lv_pair L bb (.cons (.py (.int _)) (.cons rv .nil)) hT⟩
  stop := fun pr ρ' H' h' N L _ => by
    refine ⟨vs, (ha.ext N.ext).sq, ?_⟩
    show vs.length ≤ (enumD 0 xs).length
    rw [enumD_len, r.length]
    exact Nat.le_refl _
end
/-- enumerate over a tuple -/
def IteT (K : PySem.W.Frag) (a : Addr) : It :=
  ⟨fun i H => ∃ (xs : List V) (x : V), SqT K H a xs ∧ xs[i]? = some x, fun i H v H' => ∃ T x, v = .ref T ∧ H T = none ∧ H' = upd H T (.tup [.int (i : Nat), x]) ∧ ∀ xs, SqT K H a xs → xs[i]? = some x, fun i H => ∃ xs : List V, SqT K H a xs ∧ i = xs.length⟩
theorem wk_enumT {K : PySem.W.Frag} {ρ : Nat → Addr} {H : Hp} {h : AH} {a : Addr} {xs : List D} {vs : List V} (ha : SqT K H a vs) (b : belA h.length xs) (r : RvA K ρ H xs vs) : Wk K ρ H h (IteT K a) ⟨enumD 0 xs, none⟩ where
  bel := enumD_bel b
  go := fun i pr ρ' H' h' hi N L _ => by
    have hi : i < (enumD 0 xs).length := hi
    rw [enumD_len, r.length] at hi
    obtain ⟨x, hx⟩ := get_some (xs := vs) hi
    exact ⟨vs, x, sqt_ext N.ext ha, hx⟩
  yld := fun i d x pr ρ' H' h' H2 hd N L _ q => by
    obtain ⟨T, v, rfl, hT, rfl, h1⟩ := q
    obtain ⟨x1, g1, rfl⟩ := enumD_get hd
    obtain ⟨v', hv, rv⟩ := (r.nx N b).get g1
    have e1 := h1 vs (sqt_ext N.ext ha)
    rw [hv] at e1
    cases e1
    have bb : belA h'.length [.i (0 + i), x1] := by
      simp only [belA, Zm.bel]
      exact ⟨True.intro, (belA_iff.mp b _ (List.mem_of_getElem? g1)).mono N.le, True.intro⟩
    have e0 : (0 : Int) + (i : Int) = (i : Int) := Int.zero_add _
    rw [e0] at bb ⊢
    exact ⟨ρ', lv_pair L bb (.cons (.py (.int _)) (.cons rv .nil)) hT⟩
  stop := fun pr ρ' H' h' N L _ => by
    refine ⟨vs, sqt_ext N.ext ha, ?_⟩
    show (enumD 0 xs).length = vs.length
    rw [enumD_len, r.length]
/-! ### enumerate of a tuple -/
theorem begins_tuple (l : Addr) (items : Array Value) : PySem.Begins (.ref l) { cls := .type "tuple_iterator", data := .fields #[.ref l, .int 0 0] } fun h => h.IsTuple l items :=
  ⟨fun _ _ _ _ _ _ hl q => wpAny_pyIter_tuple hl q, fun _ _ hl k => hl.at fun o e => k l o e, rfl⟩
set_option maxHeartbeats 1000000 in
theorem enum_new1 {v : Value} {o : Obj} {Hq : Heap → Prop} (B : PySem.Begins v o Hq) :
    Meets (Builtin.«enumerate.__new__» ⟨[.type "enumerate", v], []⟩) (fun _ R s => Hq s.heap ∧
      R (.ok (.ret (.ref (s.heap.push o).objs.size))) { s with heap := (s.heap.push o).push { cls := .type "enumerate", data := .fields #[.none, .bool false, .ref s.heap.objs.size, rawInt 0, .none, .none] } }) :=
  .of_wp fun prog w A R s z => by
    obtain ⟨hp, g, d, tk, os⟩ := s
    obtain ⟨z1, z⟩ := z
    have e1 := sub_enumerate
    have e2 : ∀ {A' : Around} {E : Value → Shared → Prop} {Q : Value → Shared → Prop}, Q (.ref hp.objs.size) ⟨hp.push o, g, d, tk, os⟩ → wpAny (model prog w) A' (pyIter v) Q E ⟨hp, g, d, tk, os⟩ :=
      fun q => B.iter prog w _ _ ⟨hp, g, d, tk, os⟩ _ z1 q
    wp_walk using e2
    refine wpAny_stack_any fun st => wpAny_pure ?_
    split
    · rename_i cc _ _ _ _ _
      cases (cc == Value.type "enumerate")
      · wp_walk using e2
        exact ⟨_, rfl, z⟩
      · wp_walk using e2
        exact ⟨_, rfl, z⟩
    · wp_walk using e2
      exact ⟨_, rfl, z⟩
theorem enum_tuple {prog : Program} {w : World} {A : Around} {E : Value → Shared → Prop} {s : Shared} {l : Addr} {items : Array Value} {Q : Value → Shared → Prop} (hl : s.heap.IsTuple l items)
    (z : ∀ h', IsEnum h' (s.heap.objs.size + 1) s.heap.objs.size 0 .none → h'.IsTupleIter s.heap.objs.size l 0 → (∀ b o, s.heap.get? b = some o → h'.get? b = some o) → Q (.ref (s.heap.objs.size + 1)) { s with heap := h' }) :
    wpAny (model prog w) A (call (.type "enumerate") [.ref l]) Q E s := by
  refine callType_new F.called_enumerate (by decide) (F.typeCall_enumerate_1 _) (F.newCall_enumerate_1 _) (fun obj => F.args_object_init_2 obj _) F.entry_enumerate_new (enum_new1 (begins_tuple l items)) ⟨hl, ?_⟩
  have e1 : (s.heap.push { cls := .type "tuple_iterator", data := .fields #[.ref l, .int 0 0] }).objs.size = s.heap.objs.size + 1 := Heap.size_push ..
  rw [e1]
  have e2 : IsEnum ((s.heap.push { cls := .type "tuple_iterator", data := .fields #[.ref l, .int 0 0] }).push { cls := .type "enumerate", data := .fields #[.none, .bool false, .ref s.heap.objs.size, rawInt 0, .none, .none] }) (s.heap.objs.size + 1) s.heap.objs.size 0 .none := by
    have q := Heap.get?_push_size (s.heap.push { cls := .type "tuple_iterator", data := .fields #[.ref l, .int 0 0] }) (o := { cls := .type "enumerate", data := .fields #[.none, .bool false, .ref s.heap.objs.size, rawInt 0, .none, .none] }) rfl
    rw [e1] at q
    exact q
  exact ⟨⟨_, e2, rfl⟩, z _ e2 ⟨_, Heap.get?_push_of_some _ (Heap.get?_push_size _ rfl), rfl, rfl⟩ fun b o q => Heap.get?_push_of_some _ (Heap.get?_push_of_some _ q)⟩
theorem turn_enumT {P : Program} {w : World} {K : PySem.W.Frag} {elts : List Expr} {kk : Nat} {tp : Pos} (a e it : Addr) (hae : a ≠ it) (hea : e ≠ a) :
    Turn P w K (.Tuple elts kk tp) (IteT K a) [e, it] e (fun i h => (∃ old, IsEnum h e it ((i : Nat) : Int) old) ∧ h.IsTupleIter it a i ∧ e ≠ it) where
  mem := by simp
  obj := fun i h st b hb => by
    obtain ⟨⟨old, z1⟩, ⟨o, z2, z3, z4⟩, _⟩ := st
    rcases List.mem_cons.mp hb with q | q
    · rw [q]
      exact ⟨_, z1, fun v q => nomatch q⟩
    · rw [List.mem_singleton.mp q]
      exact ⟨o, z2, fun v q => by rw [z4] at q; cases q⟩
  keep := fun i h h' st k => by
    obtain ⟨⟨old, z1⟩, z2, z3⟩ := st
    exact ⟨⟨old, k e (by simp) _ z1⟩, z2.at fun o q => k it (by simp) o q, z3⟩
  item := by
    intro X eP ew eK hc i pins s σ H E I hf st hg
    subst eP ew eK
    obtain ⟨⟨old, z1⟩, z2, z3⟩ := st
    obtain ⟨xs, x, z4, z5⟩ := hg
    obtain ⟨its, rv, pl, _⟩ := I.tuple z4
    obtain ⟨u, hu, ru⟩ := rv.get z5
    have l1 : e < s.heap.objs.size := Heap.lt_size z1
    have l2 : it < s.heap.objs.size := by
      obtain ⟨_, q, _⟩ := z2
      exact Heap.lt_size q
    have ilt : i < its.toArray.size := by
      rw [List.size_toArray]
      exact (List.getElem?_eq_some_iff.mp hu).1
    refine wpAny_pyNext_enum_itemD (Draws.tuple (A := X.A.in1) (by show X.A.in1.handled = none; simp [I.ok.hd hc]) it a hae its.toArray) z1 ⟨z2, pl⟩ ilt z3 (by simp [z3, hea]) fun y h' tk hy ho ht hT hsz hk => ?_
    have ey : y = u := by
      rw [List.getElem?_toArray, hu] at hy
      exact (Option.some.inj hy).symm
    subst ey
    refine ⟨_, rfl, wpAny_letOwnedTupleGo_enum (s := { s with heap := h', toks := tk + 1 }) ho fun h2 g1 g2 => ?_⟩
    have gT : h2.get? s.heap.objs.size = some { cls := .type "tuple", data := .seq #[.int i tk, y] } := (g2.2 _ (Nat.ne_of_gt l1)).trans hT
    have nw : ObjOk X.prog X.w (upd H s.heap.objs.size (.tup [.int (i : Nat), x])) h2 s.heap.objs.size (.tup [.int (i : Nat), x]) :=
      ⟨by show 2 ≤ sizeLine; decide, [.int i tk, y], .cons ⟨_, rfl⟩ (.cons ru .nil), ⟨_, gT, rfl, _, rfl⟩⟩
    have J : Inv X pins σ (upd H s.heap.objs.size (.tup [.int (i : Nat), x])) { s with heap := h2, toks := tk + 1 } :=
      I.turnedNew (ch := [e, it]) (fun b ob hb q => (g2.2 b (fun z => hb (by simp [z]))).trans (hk b ob (fun z => hb (by simp [z])) (fun z => hb (by simp [z])) q)) hf (Nat.le_refl _) nw
    refine ⟨.ref s.heap.objs.size, _, J, rfl, ⟨_, x, rfl, I.hok.fresh (Nat.le_refl _), rfl, fun ys hy => by rw [I.tuple_inj hy z4]; exact z5⟩, ⟨⟨y, ?_⟩, ht.1.at fun o q => (g2.2 it (Ne.symm z3)).trans q, z3⟩, fun b hb => ?_⟩
    · have e9 : ((i + 1 : Nat) : Int) = (i : Int) + 1 := by omega
      rw [e9]
      exact g1
    · have hb2 : b < s.heap.objs.size := by
        rcases List.mem_cons.mp hb with q | q
        · rw [q]
          exact l1
        · rw [List.mem_singleton.mp q]
          exact l2
      rw [upd_ne (Nat.ne_of_lt hb2)]
      exact (hf b hb).1
  done := by
    intro X eP ew eK hc i pins s σ H E I hf st hg
    subst eP ew eK
    obtain ⟨⟨old, z1⟩, z2, z3⟩ := st
    obtain ⟨xs, z4, z5⟩ := hg
    obtain ⟨its, rv, pl, _⟩ := I.tuple z4
    obtain ⟨f0, f1, f2, f3, f4, f5⟩ := hf it (by simp)
    have ln := rv.length
    have hi : i = its.toArray.size := by rw [List.size_toArray]; omega
    subst hi
    exact wpAny_pyNext_enum_endD (Draws.tuple (A := X.A.in1) (by show X.A.in1.handled = none; simp [I.ok.hd hc]) it a hae its.toArray) z1 ⟨z2, pl⟩ fun h' eb => ⟨rfl, I.turned (t' := s.toks) (fun b o hb q => eb b o hb q) f0 f1 f3 f4 f5⟩
  self := fun A i s Q E st z => by
    obtain ⟨⟨_, z1⟩, _⟩ := st
    exact wpAny_pyIter_enum z1 z
end Zm
/-! Zm z: zip of two rows whose iterators may be of two kinds. -/
namespace Zm
open PySem PySem.Spec PyProof.Rows L2
/-- an iterator at t over the row at l: all that zip asks of it -/
structure NI (P : Program) (w : World) (t l : Addr) (It : Heap → Nat → Prop) (Sq : Heap → Array Value → Prop) : Prop where
  item : ∀ {A : Around} {E : Value → Shared → Prop} {s : Shared} {i : Nat} {its : Array Value} {x : Value} {Q : Value → Shared → Prop}, It s.heap i → Sq s.heap its → its[i]? = some x →
    (∀ g, It g (i + 1) → Heap.SameBut t s.heap g → Q x { s with heap := g }) → wpAny (model P w) A (Builtin.SmallTypes.nextOf (.ref t)) Q E s
  fin : ∀ {A : Around} {E : Value → Shared → Prop} {s : Shared} {i : Nat} {its : Array Value} {Q : Value → Shared → Prop}, A.handled = none → It s.heap i → Sq s.heap its → its[i]? = none →
    (∀ g e, Heap.ExtBut t s.heap g → (∃ o, g.get? e = some o ∧ o.cls = .type "StopIteration") → E (.ref e) { s with heap := g }) → wpAny (model P w) A (Builtin.SmallTypes.nextOf (.ref t)) Q E s
  mvI : ∀ {c : Addr} {g g' : Heap} {i : Nat}, It g i → Heap.ExtBut c g g' → t ≠ c → It g' i
  mvS : ∀ {c : Addr} {g g' : Heap} {its : Array Value}, Sq g its → Heap.ExtBut c g g' → l ≠ c → Sq g' its
  there : ∀ {g : Heap} {i : Nat}, It g i → ∃ o, g.get? t = some o ∧ ∀ v, o.data ≠ .cell v
  atI : ∀ {g g' : Heap} {i : Nat}, It g i → (∀ o, g.get? t = some o → g'.get? t = some o) → It g' i
theorem ni_list (P : Program) (w : World) (t l : Addr) : NI P w t l (fun g i => g.IsListIter t l i) (fun g its => g.IsList l its) where
  item a b c d := PySem.wpAny_nextOf_list_item a b c d
  fin h a b c d := PySem.wpAny_nextOf_list_end h a b c d
  mvI a b c := a.extBut b c
  mvS a b c := a.extBut b c
  there a := by
    obtain ⟨o, e, _, d⟩ := a
    exact ⟨o, e, fun v q => by rw [d] at q; cases q⟩
  atI a b := a.at b
theorem ni_tup (P : Program) (w : World) (t l : Addr) : NI P w t l (fun g i => g.IsTupleIter t l i) (fun g its => g.IsTuple l its) where
  item a b c d := RZ.nextOf_tuple_item a b c d
  fin h a b c d := RZ.nextOf_tuple_end h a b c d
  mvI a b c := a.extBut b c
  mvS a b c := a.extBut b c
  there a := by
    obtain ⟨o, e, _, d⟩ := a
    exact ⟨o, e, fun v q => by rw [d] at q; cases q⟩
  atI a b := a.at b
section
variable {P : Program} {w : World} {A : Around} {E : Value → Shared → Prop} {s : Shared} {z tI tO i1 i2 l1 l2 : Addr} {I1 I2 : Heap → Nat → Prop} {S1 S2 : Heap → Array Value → Prop} {k1 k2 : Nat} {xs ys : Array Value} {a b : Value}
theorem zipM_item {x y : Value} {Q : Value → Shared → Prop} (N1 : NI P w i1 l1 I1 S1) (N2 : NI P w i2 l2 I2 S2) (D : ZipApart z tI tO i1 i2 l1 l2) (qz : IsZip s.heap z tI tO .none) (qI : IsPair s.heap tI (.ref i1) (.ref i2)) (qO : IsPair s.heap tO a b)
    (p1 : I1 s.heap k1) (p2 : I2 s.heap k2) (r1 : S1 s.heap xs) (r2 : S2 s.heap ys) (hx : xs[k1]? = some x) (hy : ys[k2]? = some y)
    (K : ∀ g, IsZip g z tI tO (rawInt s.heap.objs.size) → IsPair g tO x y → I1 g (k1 + 1) → I2 g (k2 + 1) → IsPair g s.heap.objs.size x y → g.objs.size = s.heap.objs.size + 1 →
      (∀ c o, c ≠ z → c ≠ tO → c ≠ i1 → c ≠ i2 → s.heap.get? c = some o → g.get? c = some o) → Q (.ref s.heap.objs.size) { s with heap := g }) :
    wpAny (model P w) A (Builtin.«zip.__next__» ⟨[.ref z], []⟩) (fun f s' => ∃ v, f = .done (.ret v) ∧ Q v s') E s := by
  show wpAny _ _ (field (.ref z) 2 >>= _) _ _ _
  refine wpAny_bind (wpAny_field qz rfl (x := .bool false) rfl ?_)
  show wpAny _ _ (field (.ref z) 3 >>= _) _ _ _
  refine wpAny_bind (wpAny_field qz rfl (x := .ref tI) rfl (wpAny_bind (wpAny_seqItems qI rfl ?_)))
  show wpAny _ _ (Builtin.SmallTypes.ownedTupleIsFree (.ref z) >>= _) _ _ _
  refine wpAny_bind (m := Builtin.SmallTypes.ownedTupleIsFree (.ref z)) (by
    unfold Builtin.SmallTypes.ownedTupleIsFree; refine wpAny_bind (wpAny_field qz rfl (x := .none) rfl (wpAny_pure ?_))
    simp only [if_true]
    refine wpAny_bind (wpAny_rule (wpAny_bind (wpAny_field qz rfl (x := .ref tO) rfl (wpAny_bind (wpAny_setField_rec qz (by simp) fun g1 z1 s1 => ?_)))))
    replace z1 : IsZip g1 z tI tO .ellipsis := z1
    refine wpAny_bind ?_; simp only [List.forIn_cons, List.forIn_nil, List.zipIdx_cons, List.zipIdx_nil]
    refine wpAny_bind (wpAny_bind (wpAny_onRaise ?_))
    show wpAny _ _ (Builtin.SmallTypes.nextOf (.ref i1) >>= _) _ _ _
    refine wpAny_bind (N1.item (N1.mvI p1 s1.extBut D.i1z) (N1.mvS r1 s1.extBut D.l1z) hx fun g2 q2 s2 => wpAny_pure ?_)
    have o2 : IsPair g2 tO a b := s2.extBut _ _ D.TOi1 (s1.extBut _ _ D.TOz qO)
    refine wpAny_bind (wpAny_seqItems o2 rfl (wpAny_bind (PySem.wpAny_updateSeq_pair o2 fun g3 o3 s3 => ?_)))
    replace o3 : IsPair g3 tO x b := o3
    refine wpAny_bind (wpAny_letGo (wpAny_pure (wpAny_bind (wpAny_bind (wpAny_onRaise ?_)))))
    show wpAny _ _ (Builtin.SmallTypes.nextOf (.ref i2) >>= _) _ _ _
    refine wpAny_bind (N2.item (N2.mvI (N2.mvI (N2.mvI p2 s1.extBut D.i2z) s2.extBut D.i12.symm) s3.extBut D.TOi2.symm) (N2.mvS (N2.mvS (N2.mvS r2 s1.extBut D.l2z) s2.extBut D.l2i1) s3.extBut D.l2TO) hy fun g4 q4 s4 => wpAny_pure ?_)
    have o4 : IsPair g4 tO x b := s4.extBut _ _ D.TOi2 o3
    refine wpAny_bind (wpAny_seqItems o4 rfl (wpAny_bind (PySem.wpAny_updateSeq_pair o4 fun g5 o5 s5 => ?_)))
    replace o5 : IsPair g5 tO x y := o5
    refine wpAny_bind (wpAny_letGo (wpAny_pure (wpAny_pure (wpAny_bind (wpAny_seqItems o5 rfl (wpAny_bind (wpAny_newTuple ?_)))))))
    have n5 : g5.objs.size = s.heap.objs.size := by rw [s5.1, s4.1, s3.1, s2.1, s1.1]
    have z5 : IsZip g5 z tI tO .ellipsis := s5.extBut _ _ D.TOz.symm (s4.extBut _ _ D.i2z.symm (s3.extBut _ _ D.TOz.symm (s2.extBut _ _ D.i1z.symm z1)))
    have k5 : ∀ c o, c ≠ z → c ≠ tO → c ≠ i1 → c ≠ i2 → s.heap.get? c = some o → g5.get? c = some o := fun c o c1 c2 c3 c4 e => s5.extBut _ _ c2 (s4.extBut _ _ c4 (s3.extBut _ _ c2 (s2.extBut _ _ c3 (s1.extBut _ _ c1 e))))
    have m1 : I1 g5 (k1 + 1) := N1.mvI (N1.mvI (N1.mvI q2 s3.extBut D.TOi1.symm) s4.extBut D.i12) s5.extBut D.TOi1.symm
    have m2 : I2 g5 (k2 + 1) := N2.mvI q4 s5.extBut D.TOi2.symm
    have zl : z < g5.objs.size := Heap.lt_size z5
    show wpAny _ _ (Builtin.SmallTypes.ownedTupleHandOut (.ref z) (.ref g5.objs.size) >>= _) _ _ _
    refine wpAny_bind ?_; unfold Builtin.SmallTypes.ownedTupleHandOut
    have z6 : IsZip (g5.push { cls := .type "tuple", data := .seq #[x, y] }) z tI tO .ellipsis := Heap.get?_push_of_some _ z5
    refine wpAny_bind (wpAny_setField_rec z6 (by simp) fun g7 z7 s7 => ?_)
    replace z7 : IsZip g7 z tI tO (rawInt g5.objs.size) := z7
    refine wpAny_setField_rec z7 (by simp) fun g8 z8 s8 => ?_
    replace z8 : IsZip g8 z tI tO (rawInt g5.objs.size) := z8
    have up : ∀ c o, c ≠ z → g5.get? c = some o → g8.get? c = some o := fun c o c1 e => s8.extBut _ _ c1 (s7.extBut _ _ c1 (Heap.get?_push_of_some _ e))
    have t8 : IsPair g8 g5.objs.size x y := s8.extBut _ _ (Nat.ne_of_gt zl) (s7.extBut _ _ (Nat.ne_of_gt zl) (Heap.get?_push_size _ rfl))
    have n8 : g8.objs.size = g5.objs.size + 1 := by rw [s8.1, s7.1, Heap.size_push]
    rw [n5] at z8 t8 n8
    refine wpAny_pure ⟨_, rfl, ?_⟩
    show Q (.ref g5.objs.size) _
    rw [n5]
    exact K g8 z8 (up _ _ D.TOz o5) (N1.atI m1 fun o e => up _ o D.i1z e) (N2.atI m2 fun o e => up _ o D.i2z e) t8 n8 fun c o c1 c2 c3 c4 e => up c o c1 (k5 c o c1 c2 c3 c4 e))
theorem zipM_fin {Q : Fin → Shared → Prop} (N1 : NI P w i1 l1 I1 S1) (N2 : NI P w i2 l2 I2 S2) (hh : A.handled = none) (D : ZipApart z tI tO i1 i2 l1 l2) (qz : IsZip s.heap z tI tO .none) (qI : IsPair s.heap tI (.ref i1) (.ref i2)) (qO : IsPair s.heap tO a b)
    (p1 : I1 s.heap k1) (p2 : I2 s.heap k2) (r1 : S1 s.heap xs) (r2 : S2 s.heap ys) (hend : xs[k1]? = none ∨ ys[k2]? = none)
    (K : ∀ g e, (∀ c o, c ≠ z → c ≠ tO → c ≠ i1 → c ≠ i2 → s.heap.get? c = some o → g.get? c = some o) → (∃ o, g.get? e = some o ∧ o.cls = .type "StopIteration") → E (.ref e) { s with heap := g }) :
    wpAny (model P w) A (Builtin.«zip.__next__» ⟨[.ref z], []⟩) Q E s := by
  show wpAny _ _ (field (.ref z) 2 >>= _) _ _ _
  refine wpAny_bind (wpAny_field qz rfl (x := .bool false) rfl ?_)
  show wpAny _ _ (field (.ref z) 3 >>= _) _ _ _
  refine wpAny_bind (wpAny_field qz rfl (x := .ref tI) rfl (wpAny_bind (wpAny_seqItems qI rfl ?_)))
  show wpAny _ _ (Builtin.SmallTypes.ownedTupleIsFree (.ref z) >>= _) _ _ _
  refine wpAny_bind (m := Builtin.SmallTypes.ownedTupleIsFree (.ref z)) (by
    unfold Builtin.SmallTypes.ownedTupleIsFree; refine wpAny_bind (wpAny_field qz rfl (x := .none) rfl (wpAny_pure ?_))
    simp only [if_true]
    refine wpAny_bind (wpAny_rule (wpAny_bind (wpAny_field qz rfl (x := .ref tO) rfl (wpAny_bind (wpAny_setField_rec qz (by simp) fun g1 z1 s1 => ?_)))))
    replace z1 : IsZip g1 z tI tO .ellipsis := z1
    refine wpAny_bind ?_; simp only [List.forIn_cons, List.forIn_nil, List.zipIdx_cons, List.zipIdx_nil]
    refine wpAny_bind (wpAny_bind (wpAny_onRaise ?_))
    show wpAny _ _ (Builtin.SmallTypes.nextOf (.ref i1) >>= _) _ _ _
    cases hx : xs[k1]? with
    | none =>
      refine wpAny_bind (N1.fin hh (N1.mvI p1 s1.extBut D.i1z) (N1.mvS r1 s1.extBut D.l1z) hx fun g2 e s2 he => ?_)
      obtain ⟨oe, hoe, hce⟩ := he
      have z2 : IsZip g2 z tI tO .ellipsis := s2 _ _ D.i1z.symm z1
      have ne : e ≠ z := fun q => by subst q; rw [z2] at hoe; cases hoe; simp at hce
      exact wpAny_setField_rec z2 (by simp) fun g3 _ s3 => K g3 e (fun c o c1 _ c3 _ q => s3.extBut _ _ c1 (s2 _ _ c3 (s1.extBut _ _ c1 q))) ⟨oe, s3.extBut _ _ ne hoe, hce⟩
    | some x =>
      have hy : ys[k2]? = none := by
        rcases hend with q | q
        · rw [hx] at q
          cases q
        · exact q
      refine wpAny_bind (N1.item (N1.mvI p1 s1.extBut D.i1z) (N1.mvS r1 s1.extBut D.l1z) hx fun g2 q2 s2 => wpAny_pure ?_)
      have o2 : IsPair g2 tO a b := s2.extBut _ _ D.TOi1 (s1.extBut _ _ D.TOz qO)
      refine wpAny_bind (wpAny_seqItems o2 rfl (wpAny_bind (PySem.wpAny_updateSeq_pair o2 fun g3 o3 s3 => ?_)))
      refine wpAny_bind (wpAny_letGo (wpAny_pure (wpAny_bind (wpAny_bind (wpAny_onRaise ?_)))))
      show wpAny _ _ (Builtin.SmallTypes.nextOf (.ref i2) >>= _) _ _ _
      refine wpAny_bind (N2.fin hh (N2.mvI (N2.mvI (N2.mvI p2 s1.extBut D.i2z) s2.extBut D.i12.symm) s3.extBut D.TOi2.symm) (N2.mvS (N2.mvS (N2.mvS r2 s1.extBut D.l2z) s2.extBut D.l2i1) s3.extBut D.l2TO) hy fun g4 e s4 he => ?_)
      obtain ⟨oe, hoe, hce⟩ := he
      have z4 : IsZip g4 z tI tO .ellipsis := s4 _ _ D.i2z.symm (s3.extBut _ _ D.TOz.symm (s2.extBut _ _ D.i1z.symm z1))
      have ne : e ≠ z := fun q => by subst q; rw [z4] at hoe; cases hoe; simp at hce
      exact wpAny_setField_rec z4 (by simp) fun g5 _ s5 => K g5 e (fun c o c1 c2 c3 c4 q => s5.extBut _ _ c1 (s4 _ _ c4 (s3.extBut _ _ c2 (s2.extBut _ _ c3 (s1.extBut _ _ c1 q))))) ⟨oe, s5.extBut _ _ ne hoe, hce⟩)
theorem nextM_item {x y : Value} {Q : Option Value → Shared → Prop} (N1 : NI P w i1 l1 I1 S1) (N2 : NI P w i2 l2 I2 S2) (D : ZipApart z tI tO i1 i2 l1 l2) (qz : IsZip s.heap z tI tO .none) (qI : IsPair s.heap tI (.ref i1) (.ref i2)) (qO : IsPair s.heap tO a b)
    (p1 : I1 s.heap k1) (p2 : I2 s.heap k2) (r1 : S1 s.heap xs) (r2 : S2 s.heap ys) (hx : xs[k1]? = some x) (hy : ys[k2]? = some y)
    (K : ∀ g, IsZip g z tI tO (rawInt s.heap.objs.size) → IsPair g tO x y → I1 g (k1 + 1) → I2 g (k2 + 1) → IsPair g s.heap.objs.size x y → g.objs.size = s.heap.objs.size + 1 →
      (∀ c o, c ≠ z → c ≠ tO → c ≠ i1 → c ≠ i2 → s.heap.get? c = some o → g.get? c = some o) → Q (some (.ref s.heap.objs.size)) { s with heap := g }) : wpAny (model P w) A (pyNext (.ref z)) Q E s := by
  have hT : s.TypeIs (.ref z) "zip" := ⟨_, qz, rfl⟩
  unfold pyNext
  exact wpAny_bind (wpAny_attempt (wpAny_callSpecial?_slot (name := Str.ofString "__next__") hT F.slot_zip_next (wpAny_call_entry F.slot_zip_next hT F.entry_zip_next (zipM_item N1 N2 D qz qI qO p1 p2 r1 r2 hx hy fun g a1 a2 a3 a4 a5 a6 a7 => wpAny_pure (K g a1 a2 a3 a4 a5 a6 a7)) (F.args_zip_next_1 _))))
theorem nextM_fin {Q : Option Value → Shared → Prop} (N1 : NI P w i1 l1 I1 S1) (N2 : NI P w i2 l2 I2 S2) (hh : A.handled = none) (D : ZipApart z tI tO i1 i2 l1 l2) (qz : IsZip s.heap z tI tO .none) (qI : IsPair s.heap tI (.ref i1) (.ref i2)) (qO : IsPair s.heap tO a b)
    (p1 : I1 s.heap k1) (p2 : I2 s.heap k2) (r1 : S1 s.heap xs) (r2 : S2 s.heap ys) (hend : xs[k1]? = none ∨ ys[k2]? = none)
    (K : ∀ g, (∀ c o, c ≠ z → c ≠ tO → c ≠ i1 → c ≠ i2 → s.heap.get? c = some o → g.get? c = some o) → Q none { s with heap := g }) : wpAny (model P w) A (pyNext (.ref z)) Q E s := by
  have hT : s.TypeIs (.ref z) "zip" := ⟨_, qz, rfl⟩
  unfold pyNext
  refine wpAny_bind (wpAny_attempt (wpAny_callSpecial?_slot (name := Str.ofString "__next__") hT F.slot_zip_next (wpAny_call_entry F.slot_zip_next hT F.entry_zip_next (zipM_fin N1 N2 hh D qz qI qO p1 p2 r1 r2 hend fun g e hk he => ?_) (F.args_zip_next_1 _))))
  obtain ⟨o, ho, hc⟩ := he
  exact wpAny_bind (wpAny_isInstance (T := "StopIteration") (b := true) ⟨o, ho, hc⟩ isSubtype_stop (wpAny_pure (K _ hk)))
end
/-! ### zip(list, tuple), zip(tuple, list) -/
abbrev itO (T : String) (l : Addr) : Obj := { cls := .type T, data := .fields #[.ref l, .int 0 0] }
abbrev mH1 (T1 : String) (g : Heap) (l1 : Addr) : Heap := g.push (itO T1 l1)
abbrev mH2 (T1 T2 : String) (g : Heap) (l1 l2 : Addr) : Heap := (mH1 T1 g l1).push (itO T2 l2)
abbrev mH3 (T1 T2 : String) (g : Heap) (l1 l2 : Addr) : Heap := (mH2 T1 T2 g l1 l2).push { cls := .type "tuple", data := .seq #[.ref g.objs.size, .ref (mH1 T1 g l1).objs.size] }
abbrev mH4 (T1 T2 : String) (g : Heap) (l1 l2 : Addr) : Heap := (mH3 T1 T2 g l1 l2).push { cls := .type "tuple", data := .seq #[.none, .none] }
abbrev mH5 (T1 T2 : String) (g : Heap) (l1 l2 : Addr) : Heap := (mH4 T1 T2 g l1 l2).push { cls := .type "zip", data := .fields #[.none, .bool false, .bool false, .ref (mH2 T1 T2 g l1 l2).objs.size, .ref (mH3 T1 T2 g l1 l2).objs.size] }
theorem newM_LT (l1 l2 : Addr) (xs ys : Array Value) : Meets (Builtin.«zip.__new__» ⟨[.type "zip", .ref l1, .ref l2], []⟩) (fun _ R s => s.heap.IsList l1 xs ∧ s.heap.IsTuple l2 ys ∧
      R (.ok (.ret (.ref (mH4 "list_iterator" "tuple_iterator" s.heap l1 l2).objs.size))) { s with heap := mH5 "list_iterator" "tuple_iterator" s.heap l1 l2 }) :=
  .of_wp fun prog w A R s h => by
    obtain ⟨hp, g, d, tk, os⟩ := s; obtain ⟨q1, q2, h⟩ := h
    have hsub := PySem.sub_zip
    have L1 : Heap.IsList (Shared.heap ⟨hp, g, d, tk, os⟩) l1 xs := q1
    have L2 : Heap.IsTuple (Shared.heap ⟨hp.push { cls := .type "list_iterator", data := .fields #[.ref l1, .int 0 0] }, g, d, tk, os⟩) l2 ys := Heap.IsTuple.push q2 _
    wp_walk using wpAny_pyIter_list L1, wpAny_pyIter_tuple L2
    exact ⟨_, rfl, h⟩
theorem newM_TL (l1 l2 : Addr) (xs ys : Array Value) : Meets (Builtin.«zip.__new__» ⟨[.type "zip", .ref l1, .ref l2], []⟩) (fun _ R s => s.heap.IsTuple l1 xs ∧ s.heap.IsList l2 ys ∧
      R (.ok (.ret (.ref (mH4 "tuple_iterator" "list_iterator" s.heap l1 l2).objs.size))) { s with heap := mH5 "tuple_iterator" "list_iterator" s.heap l1 l2 }) :=
  .of_wp fun prog w A R s h => by
    obtain ⟨hp, g, d, tk, os⟩ := s; obtain ⟨q1, q2, h⟩ := h
    have hsub := PySem.sub_zip
    have L1 : Heap.IsTuple (Shared.heap ⟨hp, g, d, tk, os⟩) l1 xs := q1
    have L2 : Heap.IsList (Shared.heap ⟨hp.push { cls := .type "tuple_iterator", data := .fields #[.ref l1, .int 0 0] }, g, d, tk, os⟩) l2 ys := Heap.IsList.push q2 _
    wp_walk using wpAny_pyIter_tuple L1, wpAny_pyIter_list L2
    exact ⟨_, rfl, h⟩
section
variable {prog : Program} {w : World} {A : Around} {E : Value → Shared → Prop} {s : Shared} {l1 l2 : Addr} {T1 T2 : String}
/-- what the five new objects are -/
theorem mH_facts (T1 T2 : String) (g : Heap) (l1 l2 : Addr) : IsZip (mH5 T1 T2 g l1 l2) (g.objs.size + 4) (g.objs.size + 2) (g.objs.size + 3) .none ∧ IsPair (mH5 T1 T2 g l1 l2) (g.objs.size + 2) (.ref g.objs.size) (.ref (g.objs.size + 1)) ∧
    IsPair (mH5 T1 T2 g l1 l2) (g.objs.size + 3) .none .none ∧ (mH5 T1 T2 g l1 l2).get? g.objs.size = some (itO T1 l1) ∧ (mH5 T1 T2 g l1 l2).get? (g.objs.size + 1) = some (itO T2 l2) ∧ (mH4 T1 T2 g l1 l2).objs.size = g.objs.size + 4 ∧
    (mH5 T1 T2 g l1 l2).objs.size = g.objs.size + 5 ∧ ∀ c o, g.get? c = some o → (mH5 T1 T2 g l1 l2).get? c = some o := by
  have n1 : (mH1 T1 g l1).objs.size = g.objs.size + 1 := Heap.size_push ..
  have n2 : (mH2 T1 T2 g l1 l2).objs.size = g.objs.size + 2 := by rw [Heap.size_push, n1]
  have n3 : (mH3 T1 T2 g l1 l2).objs.size = g.objs.size + 3 := by rw [Heap.size_push, n2]
  have n4 : (mH4 T1 T2 g l1 l2).objs.size = g.objs.size + 4 := by rw [Heap.size_push, n3]
  have n5 : (mH5 T1 T2 g l1 l2).objs.size = g.objs.size + 5 := by rw [Heap.size_push, n4]
  have e5 : (mH5 T1 T2 g l1 l2).get? (mH4 T1 T2 g l1 l2).objs.size = some _ := Heap.get?_push_size _ rfl
  have e4 : (mH5 T1 T2 g l1 l2).get? (mH3 T1 T2 g l1 l2).objs.size = some _ := Heap.get?_push_of_some _ (Heap.get?_push_size _ rfl)
  have e3 : (mH5 T1 T2 g l1 l2).get? (mH2 T1 T2 g l1 l2).objs.size = some _ := Heap.get?_push_of_some _ (Heap.get?_push_of_some _ (Heap.get?_push_size _ rfl))
  have e2 : (mH5 T1 T2 g l1 l2).get? (mH1 T1 g l1).objs.size = some _ := Heap.get?_push_of_some _ (Heap.get?_push_of_some _ (Heap.get?_push_of_some _ (Heap.get?_push_size _ rfl)))
  have e1 : (mH5 T1 T2 g l1 l2).get? g.objs.size = some _ := Heap.get?_push_of_some _ (Heap.get?_push_of_some _ (Heap.get?_push_of_some _ (Heap.get?_push_of_some _ (Heap.get?_push_size _ rfl))))
  rw [n2, n3, n4] at e5
  rw [n1, n2] at e3
  rw [n3] at e4
  rw [n1] at e2
  exact ⟨e5, e3, e4, e1, e2, n4, n5, fun c o q => Heap.get?_push_of_some _ (Heap.get?_push_of_some _ (Heap.get?_push_of_some _ (Heap.get?_push_of_some _ (Heap.get?_push_of_some _ q))))⟩
def ZK (s : Shared) (l1 l2 : Addr) (T1 T2 : String) (Q : Value → Shared → Prop) : Prop := ∀ g, IsZip g (s.heap.objs.size + 4) (s.heap.objs.size + 2) (s.heap.objs.size + 3) .none → IsPair g (s.heap.objs.size + 2) (.ref s.heap.objs.size) (.ref (s.heap.objs.size + 1)) →
      IsPair g (s.heap.objs.size + 3) .none .none → g.get? s.heap.objs.size = some (itO T1 l1) → g.get? (s.heap.objs.size + 1) = some (itO T2 l2) → g.objs.size = s.heap.objs.size + 5 →
      (∀ c o, s.heap.get? c = some o → g.get? c = some o) → Q (.ref (s.heap.objs.size + 4)) { s with heap := g }
theorem callM_LT {xs ys : Array Value} {Q : Value → Shared → Prop} (q1 : s.heap.IsList l1 xs) (q2 : s.heap.IsTuple l2 ys) (K : ZK s l1 l2 "list_iterator" "tuple_iterator" Q) : wpAny (model prog w) A (call (.type "zip") [.ref l1, .ref l2]) Q E s := by
  refine callType_new F.called_zip (by decide) (F.typeCall_zip_2 _ _) (F.newCall_zip_2 _ _) (fun obj => F.args_object_init_3 obj _ _) F.entry_zip_new (newM_LT l1 l2 xs ys) ⟨q1, q2, ?_⟩
  obtain ⟨e5, e3, e4, e1, e2, n4, n5, k⟩ := mH_facts "list_iterator" "tuple_iterator" s.heap l1 l2
  show _ ∧ _
  rw [n4]
  exact ⟨⟨_, e5, rfl⟩, K _ e5 e3 e4 e1 e2 n5 k⟩
theorem callM_TL {xs ys : Array Value} {Q : Value → Shared → Prop} (q1 : s.heap.IsTuple l1 xs) (q2 : s.heap.IsList l2 ys) (K : ZK s l1 l2 "tuple_iterator" "list_iterator" Q) : wpAny (model prog w) A (call (.type "zip") [.ref l1, .ref l2]) Q E s := by
  refine callType_new F.called_zip (by decide) (F.typeCall_zip_2 _ _) (F.newCall_zip_2 _ _) (fun obj => F.args_object_init_3 obj _ _) F.entry_zip_new (newM_TL l1 l2 xs ys) ⟨q1, q2, ?_⟩
  obtain ⟨e5, e3, e4, e1, e2, n4, n5, k⟩ := mH_facts "tuple_iterator" "list_iterator" s.heap l1 l2
  show _ ∧ _
  rw [n4]
  exact ⟨⟨_, e5, rfl⟩, K _ e5 e3 e4 e1 e2 n5 k⟩
end
/-! ### a walk over such a zip -/
/-- a row in the tracked heap, and what it is in the model's heap -/
structure RowK (X : Cx) (Sv : Hp → List V → Prop) (So : Heap → Array Value → Prop) : Prop where
  get : ∀ {pins : List (Addr × Obj)} {σ : L2.St} {H : Hp} {s : Shared} {xs : List V}, Inv X pins σ H s → Sv H xs → ∃ its : List Value, Vals xs its ∧ So s.heap its.toArray
  inj : ∀ {pins : List (Addr × Obj)} {σ : L2.St} {H : Hp} {s : Shared} {xs ys : List V}, Inv X pins σ H s → Sv H xs → Sv H ys → xs = ys
def ItzM (S1 S2 : Hp → List V → Prop) : It :=
  ⟨fun i H => ∃ (xs ys : List V) (x y : V), S1 H xs ∧ S2 H ys ∧ xs[i]? = some x ∧ ys[i]? = some y,
    fun i H v H' => ∃ T x y, v = .ref T ∧ H T = none ∧ H' = upd H T (.tup [x, y]) ∧ (∀ xs, S1 H xs → xs[i]? = some x) ∧ ∀ ys, S2 H ys → ys[i]? = some y,
    fun i H => ∃ xs ys : List V, S1 H xs ∧ S2 H ys ∧ (xs.length ≤ i ∨ ys.length ≤ i)⟩
theorem turnM {P : Program} {w : World} {K : PySem.W.Frag} {elts : List Expr} {kk : Nat} {tpos : Pos} {a b z tI tO i1 i2 : Addr} {S1 S2 : Hp → List V → Prop} {J1 J2 : Heap → Nat → Prop} {O1 O2 : Heap → Array Value → Prop}
    (N1 : NI P w i1 a J1 O1) (N2 : NI P w i2 b J2 O2) (R1 : ∀ X : Cx, X.K = K → RowK X S1 O1) (R2 : ∀ X : Cx, X.K = K → RowK X S2 O2) (D : ZipApart z tI tO i1 i2 a b) :
    Turn P w K (.Tuple elts kk tpos) (ItzM S1 S2) [z, tI, tO, i1, i2] z (fun i g => IsZip g z tI tO .none ∧ IsPair g tI (.ref i1) (.ref i2) ∧ (∃ x y, IsPair g tO x y) ∧ J1 g i ∧ J2 g i) where
  mem := by simp
  obj := fun i g st c hc => by
    obtain ⟨qz, qI, ⟨x, y, qO⟩, p1, p2⟩ := st
    have e' : c = z ∨ c = tI ∨ c = tO ∨ c = i1 ∨ c = i2 := by simpa using hc
    rcases e' with rfl | rfl | rfl | rfl | rfl
    · exact ⟨_, qz, fun v q => nomatch q⟩
    · exact ⟨_, qI, fun v q => nomatch q⟩
    · exact ⟨_, qO, fun v q => nomatch q⟩
    · exact N1.there p1
    · exact N2.there p2
  keep := fun i g g' st k => by
    obtain ⟨qz, qI, ⟨x, y, qO⟩, p1, p2⟩ := st
    exact ⟨k z (by simp) _ qz, k tI (by simp) _ qI, ⟨x, y, k tO (by simp) _ qO⟩, N1.atI p1 fun o q => k i1 (by simp) o q, N2.atI p2 fun o q => k i2 (by simp) o q⟩
  item := by
    intro X hP hw hK hc i pins s σ H E I hf st hg
    have r1 := R1 X hK
    have r2 := R2 X hK
    subst hP hw hK
    obtain ⟨qz, qI, ⟨x0, y0, qO⟩, p1, p2⟩ := st
    obtain ⟨xs, ys, x, y, hqx, hqy, hx, hy⟩ := hg
    obtain ⟨its, rv, o1⟩ := r1.get I hqx
    obtain ⟨its2, rv2, o2⟩ := r2.get I hqy
    obtain ⟨u, hu, ru⟩ := rv.get hx
    obtain ⟨u2, hu2, ru2⟩ := rv2.get hy
    have zl : z < s.heap.objs.size := Heap.lt_size qz
    have lt1 : i1 < s.heap.objs.size := by
      obtain ⟨_, e, _⟩ := N1.there p1
      exact Heap.lt_size e
    have lt2 : i2 < s.heap.objs.size := by
      obtain ⟨_, e, _⟩ := N2.there p2
      exact Heap.lt_size e
    refine nextM_item N1 N2 D qz qI qO p1 p2 o1 o2 (x := u) (y := u2) (by simpa using hu) (by simpa using hu2) fun g z' TO' h1' h2' hT hsz hk => ?_
    refine ⟨_, rfl, wpAny_letOwnedTupleGo_zip (s := { s with heap := g }) z' fun g2 z2 sb => ?_⟩
    have hT2 : g2.get? s.heap.objs.size = some { cls := .type "tuple", data := .seq #[u, u2] } := (sb.2 _ (Nat.ne_of_gt zl)).trans hT
    have new : ObjOk X.prog X.w (upd H s.heap.objs.size (.tup [x, y])) g2 s.heap.objs.size (.tup [x, y]) := ⟨by show 2 ≤ sizeLine; decide, [u, u2], .cons ru (.cons ru2 .nil), ⟨_, hT2, rfl, _, rfl⟩⟩
    have I1 : Inv X pins σ (upd H s.heap.objs.size (.tup [x, y])) { s with heap := g2 } :=
      I.turnedNew (t' := s.toks) (ch := [z, tI, tO, i1, i2]) (fun c o hb q => (sb.2 c (fun q' => hb (by simp [q']))).trans (hk c o (fun q' => hb (by simp [q'])) (fun q' => hb (by simp [q'])) (fun q' => hb (by simp [q'])) (fun q' => hb (by simp [q'])) q)) hf (Nat.le_refl _) new
    refine ⟨.ref s.heap.objs.size, _, I1, rfl, ⟨_, x, y, rfl, I.hok.fresh (Nat.le_refl _), rfl, fun l hl => by rw [r1.inj I hl hqx]; exact hx, fun l hl => by rw [r2.inj I hl hqy]; exact hy⟩, ⟨z2, ?_, ⟨u, u2, ?_⟩, ?_, ?_⟩, fun c hcm => ?_⟩
    · exact (sb.2 _ D.TIz).trans (hk _ _ D.TIz D.TITO D.TIi1 D.TIi2 qI)
    · exact (sb.2 _ D.TOz).trans TO'
    · exact N1.atI h1' fun o q => (sb.2 _ D.i1z).trans q
    · exact N2.atI h2' fun o q => (sb.2 _ D.i2z).trans q
    · have hlt : c < s.heap.objs.size := by
        have e' : c = z ∨ c = tI ∨ c = tO ∨ c = i1 ∨ c = i2 := by simpa using hcm
        rcases e' with rfl | rfl | rfl | rfl | rfl
        · exact zl
        · exact Heap.lt_size qI
        · exact Heap.lt_size qO
        · exact lt1
        · exact lt2
      rw [upd_ne (Nat.ne_of_lt hlt)]
      exact (hf c hcm).1
  done := by
    intro X hP hw hK hc i pins s σ H E I hf st hg
    have r1 := R1 X hK
    have r2 := R2 X hK
    subst hP hw hK
    obtain ⟨qz, qI, ⟨x0, y0, qO⟩, p1, p2⟩ := st
    obtain ⟨xs, ys, hqx, hqy, hend⟩ := hg
    obtain ⟨its, rv, o1⟩ := r1.get I hqx
    obtain ⟨its2, rv2, o2⟩ := r2.get I hqy
    have n1 := rv.length
    have n2 := rv2.length
    have he : its.toArray[i]? = none ∨ its2.toArray[i]? = none := by
      rcases hend with q | q
      · exact .inl (by simp; omega)
      · exact .inr (by simp; omega)
    exact nextM_fin N1 N2 (I.ok.hd hc) D qz qI qO p1 p2 o1 o2 he fun g hk => ⟨rfl, I.turnedL (t' := s.toks) (ch := [z, tI, tO, i1, i2]) (fun c o hb q =>
      hk c o (fun q' => hb (by simp [q'])) (fun q' => hb (by simp [q'])) (fun q' => hb (by simp [q'])) (fun q' => hb (by simp [q'])) q) hf⟩
  self := fun A i s Q E st h => wpAny_pyIter_zip st.1 h
theorem rowL {X : Cx} {K : PySem.W.Frag} (e : X.K = K) (a : Addr) : RowK X (fun H xs => SqL K H a xs) (fun g its => g.IsList a its) where
  get I h := by
    subst e
    obtain ⟨its, rv, p, _⟩ := I.list h
    exact ⟨its, rv, p.isList⟩
  inj I h1 h2 := by
    subst e
    exact I.list_inj h1 h2
theorem rowT {X : Cx} {K : PySem.W.Frag} (e : X.K = K) (a : Addr) : RowK X (fun H xs => SqT K H a xs) (fun g its => g.IsTuple a its) where
  get I h := by
    subst e
    obtain ⟨its, rv, p, _⟩ := I.tuple h
    exact ⟨its, rv, p⟩
  inj I h1 h2 := by
    subst e
    exact I.tuple_inj h1 h2
/-- zip of a list and a tuple, of a tuple and a list -/
def iZipM (K : PySem.W.Frag) (ta : TA) : TI := fun σ H R => ta σ H fun vs H1 => ∃ a b xs ys, vs = [.ref a, .ref b] ∧
  ((SqL K H1 a xs ∧ SqT K H1 b ys ∧ R (ItzM (fun H xs => SqL K H a xs) (fun H ys => SqT K H b ys)) H1) ∨ (SqT K H1 a xs ∧ SqL K H1 b ys ∧ R (ItzM (fun H xs => SqT K H a xs) (fun H ys => SqL K H b ys)) H1))
theorem pi_zipM {X : Cx} {e e2 : Expr} {ta : TA} {p pos tpos : Pos} {elts : List Expr} {kk : Nat} (hg : Gl X "zip") (hm : X.mg "zip" = none) (ha : PA X [e, e2] ta)
    (hs : starEach [e, e2] X.env = (false, eval e X.env) :: starEach [e2] X.env) (hpl : (backTo pos (starEach [e2] X.env)).any (·.1) = false) :
    PI X (.Tuple elts kk tpos) (.Call (.Name "zip" p) [e, e2] [] pos) (iZipM X.K ta) := by
  refine ⟨fun pins s σ H R I h => ?_⟩
  refine Call_ (ld_blt I hg hm PyProof.Rows.boot_zip (PyProof.Rows.callWith_type1 (thn (ha.run pos pins s σ H _ I h) fun us s1 ⟨vs, H1, I1, r1, q1⟩ => ?_) hs hpl))
  obtain ⟨a, b, xs, ys, ex, q1⟩ := q1
  subst ex
  cases r1 with
  | cons r rr =>
  cases rr with
  | cons r' rr =>
  cases rr
  cases r
  cases r'
  have fresh5 : ∀ c, c ∈ [s1.heap.objs.size + 4, s1.heap.objs.size + 2, s1.heap.objs.size + 3, s1.heap.objs.size, s1.heap.objs.size + 1] → FpOk X pins H1 c := fun c hcm => by
    have hle : s1.heap.objs.size ≤ c := by
      simp only [List.mem_cons, List.not_mem_nil, or_false] at hcm
      omega
    exact I1.fpOk hle (I1.hok.fresh hle)
  rcases q1 with ⟨hqx, hqy, q⟩ | ⟨hqx, hqy, q⟩
  · obtain ⟨its, rv, p1, _⟩ := I1.list hqx
    obtain ⟨its2, rv2, p2, _⟩ := I1.tuple hqy
    obtain ⟨o2, ho2, _⟩ := id p2
    refine callM_LT p1.isList (show s1.heap.IsTuple b its2.toArray from p2) fun g qz qI qO e1 e2 hsz hk => wpAny_pyIter_zip qz ?_
    have I2 : Inv X pins σ H1 { s1 with heap := g } := I1.kept (t' := s1.toks) hk
    exact ⟨s1.heap.objs.size + 4, [s1.heap.objs.size + 4, s1.heap.objs.size + 2, s1.heap.objs.size + 3, s1.heap.objs.size, s1.heap.objs.size + 1], _, _, H1, rfl, I2,
      turnM (ni_list _ _ _ a) (ni_tup _ _ _ b) (fun _ z => rowL z a) (fun _ z => rowT z b) (PySem.W.ktu_apart s1.heap.objs.size a b p1.lt (Heap.lt_size ho2)), ⟨qz, qI, ⟨_, _, qO⟩, ⟨_, e1, rfl, rfl⟩, ⟨_, e2, rfl, rfl⟩⟩, fresh5, q⟩
  · obtain ⟨its, rv, p1, _⟩ := I1.tuple hqx
    obtain ⟨its2, rv2, p2, _⟩ := I1.list hqy
    obtain ⟨o1, ho1, _⟩ := id p1
    refine callM_TL (show s1.heap.IsTuple a its.toArray from p1) p2.isList fun g qz qI qO e1 e2 hsz hk => wpAny_pyIter_zip qz ?_
    have I2 : Inv X pins σ H1 { s1 with heap := g } := I1.kept (t' := s1.toks) hk
    exact ⟨s1.heap.objs.size + 4, [s1.heap.objs.size + 4, s1.heap.objs.size + 2, s1.heap.objs.size + 3, s1.heap.objs.size, s1.heap.objs.size + 1], _, _, H1, rfl, I2,
      turnM (ni_tup _ _ _ a) (ni_list _ _ _ b) (fun _ z => rowT z a) (fun _ z => rowL z b) (PySem.W.ktu_apart s1.heap.objs.size a b (Heap.lt_size ho1) p2.lt), ⟨qz, qI, ⟨_, _, qO⟩, ⟨_, e1, rfl, rfl⟩, ⟨_, e2, rfl, rfl⟩⟩, fresh5, q⟩
section
variable {K : PySem.W.Frag} {pr : List (Addr × HO)} {ρ : Nat → Addr} {H : Hp} {h : AH}
theorem wk_zipM {S1 S2 : Hp → List V → Prop} {xs ys : List D} {vs ws : List V} (ha : ∀ H', Ext H H' → S1 H' vs) (hc : ∀ H', Ext H H' → S2 H' ws) (b : belA h.length xs) (b2 : belA h.length ys) (r : RvA K ρ H xs vs) (r2 : RvA K ρ H ys ws) : Wk K ρ H h (ItzM S1 S2) ⟨zipD xs ys, none⟩ where
  bel := zipD_bel b b2
  go := fun i pr ρ' H' h' hi N L _ => by
    have hi : i < (zipD xs ys).length := hi
    rw [zipD_len] at hi
    have l1 := r.length
    have l2 := r2.length
    obtain ⟨x, hx⟩ := get_some (xs := vs) (i := i) (by omega)
    obtain ⟨y, hy⟩ := get_some (xs := ws) (i := i) (by omega)
    exact ⟨vs, ws, x, y, ha _ N.ext, hc _ N.ext, hx, hy⟩
  yld := fun i d x pr ρ' H' h' H2 hd N L _ q => by
    obtain ⟨T, v, w, rfl, hT, rfl, h1, h2⟩ := q
    obtain ⟨x1, y1, g1, g2, rfl⟩ := zipD_get hd
    obtain ⟨v', hv, rv⟩ := (r.nx N b).get g1
    obtain ⟨w', hw, rw'⟩ := (r2.nx N b2).get g2
    have e1 := h1 vs (ha _ N.ext)
    have e2 := h2 ws (hc _ N.ext)
    rw [hv] at e1
    rw [hw] at e2
    cases e1
    cases e2
    have bb : belA h'.length [x1, y1] := by
      simp only [belA]
      exact ⟨(belA_iff.mp b _ (List.mem_of_getElem? g1)).mono N.le, (belA_iff.mp b2 _ (List.mem_of_getElem? g2)).mono N.le, True.intro⟩
    exact ⟨ρ', lv_pair L bb (.cons rv (.cons rw' .nil)) hT⟩
  stop := fun pr ρ' H' h' N L _ => by
    have l1 := r.length
    have l2 := r2.length
    refine ⟨vs, ws, ha _ N.ext, hc _ N.ext, ?_⟩
    show vs.length ≤ (zipD xs ys).length ∨ ws.length ≤ (zipD xs ys).length
    rw [zipD_len]
    omega
end
end Zm
/-! Zm 12: the machine is sound for what is walked, for stores, for comprehensions. -/
namespace Zm
open PySem PySem.Spec PyProof.Rows L2
/-- what is walked -/
structure SI (Γ : Ga) (e : E) (tg x : Expr) : Prop where
  run : ∀ (C : Orc) (X : Cx), XG Γ C X → ∀ (pr : List (Addr × HO)) (ρ : Nat → Addr) (H : Hp) (h : AH) (σ : Sg) (τ : L2.St) (T : It → Hp → Prop) (sr : Src) (h1 : AH),
  SgOk X.K ρ H h.length σ τ → Lv X.K pr ρ H h → evi C e σ h = .ok sr h1 → (∀ ρ' H' J, Nx ρ H h ρ' H' h1 → Lv X.K pr ρ' H' h1 → Wk X.K ρ' H' h1 J sr → T J H') → WI X tg x τ H T
section
variable {Γ : Ga} {a b c r i : E} {xa xb xc tg : Expr} {xs : List Expr} {pos p2 p3 tp : Pos} {x : Str}
theorem si_rng1 (ha : SA Γ (.cons a .nil) [xa]) (hg : glB Γ.sc "range" = true) (hs : ∀ env, starEach [xa] env = [(false, eval xa env)]) : SI Γ (.rng1 a) tg (.Call (.Name "range" p2) [xa] [] pos) := by
  refine ⟨?_⟩
  intro C X G pr ρ H h σ τ T sr h1 S L e P
  simp only [evi] at e
  obtain ⟨x, h2, e1, e⟩ := R.bind_eq e
  split at e
  rotate_left
  · cases e
  rename_i n
  split at e
  rotate_left
  · cases e
  rename_i hr
  cases e
  obtain ⟨r1, r2⟩ := Bool.and_eq_true_iff.mp hr
  have ee : evs C (.cons a .nil) σ h = .ok [.i n] h1 := by simp only [evs, e1, R.bind_ok]
  refine wi_of (pi_range1 (glB_ok hg G.sc) (G.bl _ (mem_bl (by decide +kernel))) pa_wa (hs X.env)) (ha.run C X G _ _ _ _ _ _ _ _ _ S L ee fun ρ1 H1 vs N1 L1 b1 r3 _ => ?_)
  obtain ⟨v, rfl, rv⟩ := rvA1 r3
  cases rv with
  | py q => exact ⟨n, by rw [q.int_], of_decide_eq_true r1, of_decide_eq_true r2, P ρ1 H1 _ N1 L1 wk_rng⟩
theorem rng2S_eq {x y : D} {sr : Src} (e : rng2S x y = some sr) : ∃ m n, x = .i m ∧ y = .i n ∧ (r62 m && r62 n) = true ∧ sr = ⟨rangeL m (n - m).toNat, none⟩ := by
  unfold rng2S at e
  split at e
  · split at e
    · cases e
      exact ⟨_, _, rfl, rfl, by assumption, rfl⟩
    · cases e
  · cases e
theorem zipS_eq {x y : D} {sr : Src} (e : zipS x y = some sr) : ∃ ps qs, ((x = .py (.tuple ps) ∧ y = .py (.tuple qs)) ∨ (x = .py (.list ps) ∧ y = .py (.list qs)) ∨ (x = .py (.list ps) ∧ y = .py (.tuple qs)) ∨ (x = .py (.tuple ps) ∧ y = .py (.list qs))) ∧ sr = ⟨zipD (ps.map .py) (qs.map .py), none⟩ := by
  unfold zipS at e
  split at e
  · cases e
    exact ⟨_, _, .inl ⟨rfl, rfl⟩, rfl⟩
  · cases e
    exact ⟨_, _, .inr (.inl ⟨rfl, rfl⟩), rfl⟩
  · cases e
    exact ⟨_, _, .inr (.inr (.inl ⟨rfl, rfl⟩)), rfl⟩
  · cases e
    exact ⟨_, _, .inr (.inr (.inr ⟨rfl, rfl⟩)), rfl⟩
  · cases e
theorem si_rng2 (ha : SA Γ (.cons a (.cons b .nil)) [xa, xb]) (hg : glB Γ.sc "range" = true) (hs : ∀ env, starEach [xa, xb] env = [(false, eval xa env), (false, eval xb env)]) (hs2 : ∀ env, starEach [xb] env = [(false, eval xb env)]) :
    SI Γ (.rng2 a b) tg (.Call (.Name "range" p2) [xa, xb] [] pos) := by
  refine ⟨?_⟩
  intro C X G pr ρ H h σ τ T sr h1 S L e P
  simp only [evi] at e
  obtain ⟨x, h2, e1, e⟩ := R.bind_eq e
  obtain ⟨y, h3, e2, e⟩ := R.bind_eq e
  obtain ⟨e3, rfl⟩ := rO_eq e
  obtain ⟨m, n, rfl, rfl, hr, rfl⟩ := rng2S_eq e3
  obtain ⟨hm, hn⟩ := Bool.and_eq_true_iff.mp hr
  obtain ⟨r1, r2⟩ := Bool.and_eq_true_iff.mp hm
  obtain ⟨r3, r4⟩ := Bool.and_eq_true_iff.mp hn
  have ee : evs C (.cons a (.cons b .nil)) σ h = .ok [.i m, .i n] h1 := by simp only [evs, e1, e2, R.bind_ok]
  refine wi_of (pi_range2 (glB_ok hg G.sc) (G.bl _ (mem_bl (by decide +kernel))) pa_wa (hs X.env) (hs2 X.env)) (ha.run C X G _ _ _ _ _ _ _ _ _ S L ee fun ρ1 H1 vs N1 L1 b1 r5 _ => ?_)
  obtain ⟨v, w, rfl, rv, rw'⟩ := rvA2 r5
  cases rv with
  | py q =>
    cases rw' with
    | py q2 => exact ⟨m, n, by rw [q.int_, q2.int_], ⟨of_decide_eq_true r1, of_decide_eq_true r2, of_decide_eq_true r3, of_decide_eq_true r4⟩, P ρ1 H1 _ N1 L1 wk_rng⟩
theorem seqP_cases {p : PyData} {ps : List PyData} (e : seqP p = some ps) : p = .tuple ps ∨ p = .list ps := by
  unfold seqP at e
  split at e
  · cases e
    exact .inl rfl
  · cases e
    exact .inr rfl
  · cases e
theorem si_val (ha : SE Γ a xa) : SI Γ (.cons a .nil) tg xa := by
  refine ⟨?_⟩
  intro C X G pr ρ H h σ τ T sr h1 S L e P
  simp only [evi] at e
  obtain ⟨x, h2, e1, e⟩ := R.bind_eq e
  split at e
  · split at e
    rotate_left
    · cases e
    cases e
    rename_i ps hps
    rcases seqP_cases hps with rfl | rfl
    · refine wi_of (pi_tup pe_we) (ha.run C X G _ _ _ _ _ _ _ _ _ S L e1 fun ρ1 H1 v N1 L1 b1 r1 => ?_)
      cases r1 with
      | py q =>
        obtain ⟨a, xs, rfl, g1, g2⟩ := q.tuple_
        exact ⟨a, rfl, ⟨xs, g1⟩, P ρ1 H1 _ N1 L1 (wk_tup g1 (belA_py _ _) (.of_py g2))⟩
    · refine wi_of (pi_list pe_we) (ha.run C X G _ _ _ _ _ _ _ _ _ S L e1 fun ρ1 H1 v N1 L1 b1 r1 => ?_)
      cases r1 with
      | py q =>
        obtain ⟨a, xs, rfl, g1, g2⟩ := q.list_
        exact ⟨a, rfl, ⟨xs, g1.sq⟩, P ρ1 H1 _ N1 L1 (wk_list g1 (belA_py _ _) (.of_py g2))⟩
  · cases e
    refine wi_of (pi_tup pe_we) (ha.run C X G _ _ _ _ _ _ _ _ _ S L e1 fun ρ1 H1 v N1 L1 b1 r1 => ?_)
    cases r1 with
    | tup g1 g2 => exact ⟨_, rfl, ⟨_, g1⟩, P ρ1 H1 _ N1 L1 (wk_tup g1 (by simpa only [bel] using b1) g2)⟩
  · split at e
    rotate_left
    · cases e
    cases e
    rename_i l ys hl
    refine wi_of (pi_list pe_we) (ha.run C X G _ _ _ _ _ _ _ _ _ S L e1 fun ρ1 H1 v N1 L1 b1 r1 => ?_)
    obtain ⟨b2, vs, g1, g2⟩ := L1.lst hl
    cases r1 with
    | obj => exact ⟨_, rfl, ⟨vs, .inl (.inl g1)⟩, P ρ1 H1 _ N1 L1 (wk_live (by simpa only [bel] using b1) b2)⟩
theorem pi_enumT {X : Cx} {e : Expr} {ta : TA} {elts : List Expr} {kk : Nat} (hg : Gl X "enumerate") (hm : X.mg "enumerate" = none) (ha : PA X [e] ta) (hs : starEach [e] X.env = [(false, eval e X.env)]) :
    PI X (.Tuple elts kk tp) (.Call (.Name "enumerate" p2) [e] [] pos) (fun σ H T => ta σ H fun vs H1 => ∃ a xs, vs = [.ref a] ∧ ((FzL X.K H1 a xs ∧ T (Ite X.K a) H1) ∨ (SqT X.K H1 a xs ∧ T (IteT X.K a) H1))) := by
  constructor
  intro pins s σ H T I q
  refine Call_ (ld_blt I hg hm boot_enumerate (PyProof.Rows.callWith_type1 (thn (ha.run pos pins s σ H _ I q) fun us s1 ⟨vs, H1, I1, r1, q1⟩ => ?_) hs rfl))
  obtain ⟨a, xs, ex, q1⟩ := q1
  subst ex
  rw [Vals.ref1 r1]
  have fp : ∀ b, b ∈ [s1.heap.objs.size + 1, s1.heap.objs.size] → FpOk X pins H1 b := fun b hb => by
    have hle : s1.heap.objs.size ≤ b := by
      rcases List.mem_cons.mp hb with z | z
      · rw [z]
        exact Nat.le_add_right _ _
      · rw [List.mem_singleton.mp z]
        exact Nat.le_refl _
    exact I1.fpOk hle (I1.hok.fresh hle)
  rcases q1 with ⟨hq, q1⟩ | ⟨hq, q1⟩
  · obtain ⟨its, rv, pl, _⟩ := I1.list hq.sq
    refine call_enumerate_list pl.isList fun h' z1 z2 _ hk => wpAny_pyIter_enum z1 ?_
    exact ⟨s1.heap.objs.size + 1, [s1.heap.objs.size + 1, s1.heap.objs.size], _, _, H1, rfl, I1.kept (t' := s1.toks) hk, turn_enum a (s1.heap.objs.size + 1) s1.heap.objs.size, ⟨⟨.none, z1⟩, z2, Nat.succ_ne_self _⟩, fp, q1⟩
  · obtain ⟨its, rv, pl, _⟩ := I1.tuple hq
    have hlt := pl.lt
    refine enum_tuple pl fun h' z1 z2 hk => wpAny_pyIter_enum z1 ?_
    exact ⟨s1.heap.objs.size + 1, [s1.heap.objs.size + 1, s1.heap.objs.size], _, _, H1, rfl, I1.kept (t' := s1.toks) hk, turn_enumT a (s1.heap.objs.size + 1) s1.heap.objs.size (Nat.ne_of_lt hlt) (Nat.ne_of_gt (Nat.lt_succ_of_lt hlt)), ⟨⟨.none, z1⟩, z2, Nat.succ_ne_self _⟩, fp, q1⟩
theorem si_enum {elts : List Expr} {kk : Nat} (ha : SA Γ (.cons a .nil) [xa]) (hg : glB Γ.sc "enumerate" = true) (hs : ∀ env, starEach [xa] env = [(false, eval xa env)]) : SI Γ (.enum a) (.Tuple elts kk tp) (.Call (.Name "enumerate" p2) [xa] [] pos) := by
  refine ⟨?_⟩
  intro C X G pr ρ H h σ τ T sr h1 S L e P
  simp only [evi] at e
  obtain ⟨x, h2, e1, e⟩ := R.bind_eq e
  split at e
  rotate_left
  · cases e
  rename_i p
  split at e
  rotate_left
  · cases e
  rename_i ps hps
  cases e
  have ee : evs C (.cons a .nil) σ h = .ok [.py p] h1 := by simp only [evs, e1, R.bind_ok]
  refine wi_of (pi_enumT (glB_ok hg G.sc) (G.bl _ (mem_bl (by decide +kernel))) pa_wa (hs X.env)) (ha.run C X G _ _ _ _ _ _ _ _ _ S L ee fun ρ1 H1 vs N1 L1 b1 r3 _ => ?_)
  obtain ⟨v, rfl, rv⟩ := rvA1 r3
  cases rv with
  | py q =>
    rcases seqP_cases hps with rfl | rfl
    · obtain ⟨a, xs, rfl, g1, g2⟩ := q.tuple_
      exact ⟨a, xs, rfl, .inr ⟨g1, P ρ1 H1 _ N1 L1 (wk_enumT g1 (belA_py _ _) (.of_py g2))⟩⟩
    · obtain ⟨a, xs, rfl, g1, g2⟩ := q.list_
      exact ⟨a, xs, rfl, .inl ⟨g1, P ρ1 H1 _ N1 L1 (wk_enumL g1 (belA_py _ _) (.of_py g2))⟩⟩
theorem si_zip {elts : List Expr} {kk : Nat} (ha : SA Γ (.cons a (.cons b .nil)) [xa, xb]) (hg : glB Γ.sc "zip" = true) (hs : ∀ env, starEach [xa, xb] env = (false, eval xa env) :: starEach [xb] env) (hpl : ∀ env, (backTo pos (starEach [xb] env)).any (·.1) = false) :
    SI Γ (.zip a b) (.Tuple elts kk tp) (.Call (.Name "zip" p2) [xa, xb] [] pos) := by
  refine ⟨?_⟩
  intro C X G pr ρ H h σ τ T sr h1 S L e P
  simp only [evi] at e
  obtain ⟨x, h2, e1, e⟩ := R.bind_eq e
  obtain ⟨y, h3, e2, e⟩ := R.bind_eq e
  obtain ⟨e3, rfl⟩ := rO_eq e
  have ee : evs C (.cons a (.cons b .nil)) σ h = .ok [x, y] h1 := by simp only [evs, e1, e2, R.bind_ok]
  obtain ⟨ps, qs, ⟨rfl, rfl⟩ | ⟨rfl, rfl⟩ | ⟨rfl, rfl⟩ | ⟨rfl, rfl⟩, rfl⟩ := zipS_eq e3
  · refine wi_of (RZ.pi_zipA (glB_ok hg G.sc) (G.bl _ (mem_bl (by decide +kernel))) pa_wa (hs X.env) (hpl X.env)) (ha.run C X G _ _ _ _ _ _ _ _ _ S L ee fun ρ1 H1 vs N1 L1 b1 r5 _ => ?_)
    obtain ⟨v, w, rfl, rv, rw'⟩ := rvA2 r5
    cases rv with
    | py q =>
      cases rw' with
      | py q2 =>
        obtain ⟨a, xs, rfl, g1, g2⟩ := q.tuple_
        obtain ⟨c, ys, rfl, g3, g4⟩ := q2.tuple_
        exact ⟨a, c, xs, ys, rfl, .inr ⟨g1, g3, P ρ1 H1 _ N1 L1 (wk_zipT g1 g3 (belA_py _ _) (belA_py _ _) (.of_py g2) (.of_py g4))⟩⟩
  · refine wi_of (RZ.pi_zipA (glB_ok hg G.sc) (G.bl _ (mem_bl (by decide +kernel))) pa_wa (hs X.env) (hpl X.env)) (ha.run C X G _ _ _ _ _ _ _ _ _ S L ee fun ρ1 H1 vs N1 L1 b1 r5 _ => ?_)
    obtain ⟨v, w, rfl, rv, rw'⟩ := rvA2 r5
    cases rv with
    | py q =>
      cases rw' with
      | py q2 =>
        obtain ⟨a, xs, rfl, g1, g2⟩ := q.list_
        obtain ⟨c, ys, rfl, g3, g4⟩ := q2.list_
        exact ⟨a, c, xs, ys, rfl, .inl ⟨g1.sq, g3.sq, P ρ1 H1 _ N1 L1 (wk_zipL g1 g3 (belA_py _ _) (belA_py _ _) (.of_py g2) (.of_py g4))⟩⟩
  · refine wi_of (pi_zipM (glB_ok hg G.sc) (G.bl _ (mem_bl (by decide +kernel))) pa_wa (hs X.env) (hpl X.env)) (ha.run C X G _ _ _ _ _ _ _ _ _ S L ee fun ρ1 H1 vs N1 L1 b1 r5 _ => ?_)
    obtain ⟨v, w, rfl, rv, rw'⟩ := rvA2 r5
    cases rv with
    | py q =>
      cases rw' with
      | py q2 =>
        obtain ⟨a, xs, rfl, g1, g2⟩ := q.list_
        obtain ⟨c, ys, rfl, g3, g4⟩ := q2.tuple_
        exact ⟨a, c, xs, ys, rfl, .inl ⟨g1.sq, g3, P ρ1 H1 _ N1 L1 (wk_zipM (fun _ z => (g1.ext z).sq) (fun _ z => sqt_ext z g3) (belA_py _ _) (belA_py _ _) (.of_py g2) (.of_py g4))⟩⟩
  · refine wi_of (pi_zipM (glB_ok hg G.sc) (G.bl _ (mem_bl (by decide +kernel))) pa_wa (hs X.env) (hpl X.env)) (ha.run C X G _ _ _ _ _ _ _ _ _ S L ee fun ρ1 H1 vs N1 L1 b1 r5 _ => ?_)
    obtain ⟨v, w, rfl, rv, rw'⟩ := rvA2 r5
    cases rv with
    | py q =>
      cases rw' with
      | py q2 =>
        obtain ⟨a, xs, rfl, g1, g2⟩ := q.tuple_
        obtain ⟨c, ys, rfl, g3, g4⟩ := q2.list_
        exact ⟨a, c, xs, ys, rfl, .inr ⟨g1, g3.sq, P ρ1 H1 _ N1 L1 (wk_zipM (fun _ z => sqt_ext z g1) (fun _ z => (g3.ext z).sq) (belA_py _ _) (belA_py _ _) (.of_py g2) (.of_py g4))⟩⟩
end
end Zm
/-! Zm 13: stores, comprehensions. -/
namespace Zm
open PySem PySem.Spec PyProof.Rows L2
/-- the slots that a target writes -/
def slots : E → List Nat
  | .var i => [i]
  | .tup ts => slots ts
  | .cons t r => slots t ++ slots r
  | _ => []
/-- τ' is τ but for the slots is -/
def Same (is : List Nat) (τ τ' : L2.St) : Prop := τ'.length = τ.length ∧ ∀ i, i ∉ is → τ'[i]? = τ[i]?
theorem Same.refl (is : List Nat) (τ : L2.St) : Same is τ τ := ⟨rfl, fun _ _ => rfl⟩
theorem Same.trans {is js : List Nat} {τ τ1 τ2 : L2.St} (a : Same is τ τ1) (b : Same js τ1 τ2) : Same (is ++ js) τ τ2 :=
  ⟨b.1.trans a.1, fun i hi => (b.2 i fun z => hi (List.mem_append_right _ z)).trans (a.2 i fun z => hi (List.mem_append_left _ z))⟩
theorem wipe_get (τ : L2.St) (i : Nat) : ∀ is : List Nat, (L2.wipe τ is)[i]? = if i ∈ is ∧ i < τ.length then some none else τ[i]?
  | [] => by simp [L2.wipe]
  | j :: r => by
    unfold L2.wipe
    by_cases hj : j = i
    · subst hj
      by_cases hl : j < τ.length
      · rw [List.getElem?_set_self (by rw [L2.wipe_length]; exact hl), if_pos ⟨List.mem_cons_self, hl⟩]
      · have e1 : ((L2.wipe τ r).set j none)[j]? = none := List.getElem?_eq_none (by rw [List.length_set, L2.wipe_length]; omega)
        have e2 : τ[j]? = none := List.getElem?_eq_none (by omega)
        rw [e1, if_neg (fun z => hl z.2), e2]
    · rw [List.getElem?_set_ne hj, wipe_get τ i r]
      have : (i ∈ j :: r) ↔ i ∈ r := by
        rw [List.mem_cons]
        exact ⟨fun z => z.elim (fun q => absurd q.symm hj) id, .inr⟩
      simp only [this]
theorem Same.wipe {is own : List Nat} {τ τ' : L2.St} (s : Same is τ τ') (hs : ∀ i ∈ is, i ∈ own) : L2.wipe τ' own = L2.wipe τ own := by
  refine List.ext_getElem? fun i => ?_
  rw [wipe_get, wipe_get, s.1]
  by_cases hi : i ∈ own
  · by_cases hl : i < τ.length
    · rw [if_pos ⟨hi, hl⟩, if_pos ⟨hi, hl⟩]
    · rw [if_neg (fun z => hl z.2), if_neg (fun z => hl z.2), List.getElem?_eq_none (by have := s.1; omega), List.getElem?_eq_none (by omega)]
  · rw [if_neg (fun z => hi z.1), if_neg (fun z => hi z.1)]
    exact s.2 i fun z => hi (hs i z)
theorem wipe_wipe (τ : L2.St) (own : List Nat) : L2.wipe (L2.wipe τ own) own = L2.wipe τ own := by
  refine List.ext_getElem? fun i => ?_
  rw [wipe_get, wipe_get]
  by_cases hi : i ∈ own ∧ i < τ.length
  · rw [if_pos ⟨hi.1, by rw [L2.wipe_length]; exact hi.2⟩, if_pos hi]
  · rw [if_neg (fun z => hi ⟨z.1, by rw [L2.wipe_length] at z; exact z.2⟩)]
/-- a store does as the machine says -/
structure SG (Γ : Ga) (t : E) (x : Expr) : Prop where
  run : ∀ (C : Orc) (X : Cx), XG Γ C X → ∀ (pr : List (Addr × HO)) (ρ : Nat → Addr) (H : Hp) (h : AH) (σ : Sg) (τ : L2.St) (v : V) (d : D) (T : L2.St → Hp → Prop) (σ1 : Sg) (h1 : AH),
  SgOk X.K ρ H h.length σ τ → Lv X.K pr ρ H h → bel h.length d → Rv X.K ρ H d v → asg C t d σ h = .ok σ1 h1 →
  (∀ ρ' H' τ', Nx ρ H h ρ' H' h1 → Lv X.K pr ρ' H' h1 → SgOk X.K ρ' H' h1.length σ1 τ' → Same (slots t) τ τ' → T τ' H') → WG X x v τ H T
structure SGs (Γ : Ga) (t : E) (xs : List Expr) : Prop where
  run : ∀ (C : Orc) (X : Cx), XG Γ C X → ∀ (pr : List (Addr × HO)) (ρ : Nat → Addr) (H : Hp) (h : AH) (σ : Sg) (τ : L2.St) (vs : List V) (ds : List D) (T : L2.St → Hp → Prop) (σ1 : Sg) (h1 : AH),
  SgOk X.K ρ H h.length σ τ → Lv X.K pr ρ H h → belA h.length ds → RvA X.K ρ H ds vs → asgs C t ds σ h = .ok σ1 h1 →
  (∀ ρ' H' τ', Nx ρ H h ρ' H' h1 → Lv X.K pr ρ' H' h1 → SgOk X.K ρ' H' h1.length σ1 τ' → Same (slots t) τ τ' → T τ' H') → WGs X xs vs τ H T
section
variable {Γ : Ga} {a b c r i t elt cond : E} {xa xb xc tg : Expr} {xs : List Expr} {pos p2 p3 tp : Pos} {x : Str}
/-- a name that is stored: local, or a cell -/
def locB (Γ : Ga) (x : Str) : Bool := Γ.own.contains x && (match Γ.sc.names.lookup x with
  | some .local => true
  | some .cell => true
  | _ => false)
theorem locB_ok {x : Str} (h : locB Γ x = true) : x ∈ Γ.own ∧ Loc Γ.sc x := by
  unfold locB at h
  obtain ⟨h1, h2⟩ := Bool.and_eq_true_iff.mp h
  refine ⟨by simpa using h1, ?_⟩
  split at h2
  · exact .inl (by assumption)
  · exact .inr (by assumption)
  · cases h2
theorem sg_var {n : Nat} (hN : Γ.N[n]? = some x) (hl : locB Γ x = true) : SG Γ (.var n) (.Name x pos) := by
  refine ⟨?_⟩
  intro C X G pr ρ H h σ τ v d T σ1 h1 S L b rv e P
  simp only [asg] at e
  cases e
  obtain ⟨l1, l2⟩ := locB_ok hl
  refine wg_of (pg_name (i := n) G.gd.nd (by rw [G.nn]; exact hN) (by rw [G.sc]; exact l2) (G.fn x l1)) ?_
  refine P ρ H _ Nx.refl L (S.set b rv n) ⟨by simp, fun i hi => ?_⟩
  have hne : n ≠ i := fun z => hi (by rw [slots, z]; exact List.mem_cons_self)
  rw [List.getElem?_set_ne hne]
theorem sgs_nil : SGs Γ .nil [] := by
  refine ⟨?_⟩
  intro C X G pr ρ H h σ τ vs ds T σ1 h1 S L b rv e P
  cases rv with
  | nil =>
    simp only [asgs] at e
    cases e
    exact wgs_of pgs_nil ⟨rfl, P ρ H τ Nx.refl L S (Same.refl _ _)⟩
  | cons _ _ => simp [asgs] at e
theorem sgs_cons (ha : SG Γ a xa) (hr : SGs Γ r xs) (hs : ∀ env, (assignEach (xa :: xs) env).map (·.2) = assign xa env :: (assignEach xs env).map (·.2)) : SGs Γ (.cons a r) (xa :: xs) := by
  refine ⟨?_⟩
  intro C X G pr ρ H h σ τ vs ds T σ1 h1 S L b rv e P
  cases rv with
  | nil => simp [asgs] at e
  | cons r1 r2 =>
    rename_i v vs d ds
    simp only [asgs] at e
    obtain ⟨σ2, h2, e1, e2⟩ := R.bind_eq e
    simp only [belA] at b
    refine wgs_of (pgs_cons pg_wg pgs_wgs (hs X.env)) ⟨_, _, rfl, ha.run C X G _ _ _ _ _ _ _ _ _ _ _ S L b.1 r1 e1 fun ρ1 H1 τ1 N1 L1 S1 m1 => ?_⟩
    exact hr.run C X G _ _ _ _ _ _ _ _ _ _ _ S1 L1 (b.2.mono N1.le) (r2.nx N1 b.2) e2 fun ρ2 H2 τ2 N2 L2 S2 m2 => P ρ2 H2 τ2 (N1.trans N2) L2 S2 (m1.trans m2)
theorem asgs_len {C : Orc} : ∀ {t : E} {ds : List D} {σ σ1 : Sg} {h h1 : AH} {xs : List Expr}, SGs Γ t xs → asgs C t ds σ h = .ok σ1 h1 → True := fun _ _ => trivial
/-- the length of a row -/
def rowLen : E → Nat
  | .cons _ r => rowLen r + 1
  | _ => 0
theorem asgs_row {C : Orc} : ∀ {t : E} {ds : List D} {σ σ1 : Sg} {h h1 : AH}, asgs C t ds σ h = .ok σ1 h1 → ds.length = rowLen t := by
  intro t ds
  induction ds generalizing t with
  | nil =>
    intro σ σ1 h h1 e
    cases t <;> first | rfl | (simp [asgs] at e)
  | cons d ds ih =>
    intro σ σ1 h h1 e
    cases t <;> first | (simp [asgs] at e; done) | skip
    simp only [asgs] at e
    obtain ⟨σ2, h2, e1, e2⟩ := R.bind_eq e
    rw [List.length_cons, rowLen, ih e2]
theorem sg_tup {k : Nat} (ha : SGs Γ t xs) (hn : ∀ env, (assignEach xs env).length = rowLen t) (hst : ∀ env, (assignEach xs env).findIdx? (·.1) = none) : SG Γ (.tup t) (.Tuple xs k pos) := by
  refine ⟨?_⟩
  intro C X G pr ρ H h σ τ v d T σ1 h1 S L b rv e P
  simp only [asg] at e
  split at e
  · rename_i ps
    cases rv with
    | py q =>
      obtain ⟨a, ys, rfl, g1, g2⟩ := q.tuple_
      have hl := asgs_row e
      rw [List.length_map] at hl
      refine wg_of (pg_tup G.gd.calm pgs_wgs (hn X.env) (hst X.env)) ⟨a, ys, rfl, g1, by rw [← g2.length, hl], ?_⟩
      exact ha.run C X G _ _ _ _ _ _ _ _ _ _ _ S L (belA_py _ _) (.of_py g2) e P
  · rename_i ds
    cases rv with
    | tup g1 g2 =>
      have hl := asgs_row e
      refine wg_of (pg_tup G.gd.calm pgs_wgs (hn X.env) (hst X.env)) ⟨_, _, rfl, g1, by rw [← g2.length, hl], ?_⟩
      exact ha.run C X G _ _ _ _ _ _ _ _ _ _ _ S L (by simpa only [bel] using b) g2 e P
  · cases e
theorem sg_idx (ho : SE Γ a xa) (hi : SE Γ i xb)
    (hh : ∀ env v, assign (.Subscript xa xb pos) env v = (do
      let ov ← holding [v] (eval xa env)
      let iv ← holding [v, ov] (eval xb env)
      standAt pos
      holding [v, ov, iv] (setItem ov iv v)
      release [v, ov, iv] [])) : SG Γ (.idx a i) (.Subscript xa xb pos) := by
  refine ⟨?_⟩
  intro C X G pr ρ H h σ τ v d T σ1 h1 S L b rv e P
  simp only [asg] at e
  obtain ⟨x, h2, e1, e⟩ := R.bind_eq e
  obtain ⟨y, h3, e2, e⟩ := R.bind_eq e
  split at e
  rotate_left
  · cases e
  rename_i h4 hs
  cases e
  unfold setIdx at hs
  split at hs
  rotate_left
  · cases hs
  rename_i l n
  split at hs
  rotate_left
  · cases hs
  rename_i ys hl
  split at hs
  rotate_left
  · cases hs
  rename_i j hj
  cases hs
  refine wg_of (pg_sub pe_we pe_we set_list (fun v => hh X.env v)) (ho.run C X G _ _ _ _ _ _ _ _ _ S L e1 fun ρ1 H1 w N1 L1 b1 r1 => hi.run C X G _ _ _ _ _ _ _ _ _ (S.nx N1) L1 e2 fun ρ2 H2 u N2 L2 b2 r2 => ?_)
  obtain ⟨b4, us, e4, r4⟩ := L2.lst hl
  have N12 := N1.trans N2
  have hll : l < h2.length := by simpa only [bel] using b1
  have eρ := N2.same l hll
  have rd := rv.nx N12 b
  have bb : belA h3.length (ys.set j d) := belA_iff.mpr fun z hz => by
    rcases List.mem_or_eq_of_mem_set hz with hz | hz
    · exact belA_iff.mp b4 z hz
    · rw [hz]
      exact b.mono N12.le
  obtain ⟨N3, L3⟩ := L2.put hl e4 bb (r4.set rd j)
  cases r1 with
  | obj =>
    cases r2 with
    | py q2 =>
      rw [q2.int_, ← eρ]
      refine ⟨_, us, n, j, rfl, rfl, e4, by rw [← r4.length]; exact hj, ?_⟩
      exact P ρ2 _ τ (N12.trans N3) L3 (S.nx (N12.trans N3)) (Same.refl _ _)
/-! ### comprehensions -/
/-- an object that is kept by one's own hands is written -/
theorem Lv.pset {K : PySem.W.Frag} {pr : List (Addr × HO)} {ρ : Nat → Addr} {H : Hp} {h : AH} {p : Addr} {vs : List V} {u : HO} (L : Lv K ((p, .lst vs) :: pr) ρ H h) (hp : ∀ q ∈ pr, q.1 ≠ p) :
    Nx ρ H h ρ (upd H p u) h ∧ Lv K ((p, u) :: pr) ρ (upd H p u) h ∧ Lv K pr ρ (upd H p u) h := by
  obtain ⟨e1, ne⟩ := L.pr p _ List.mem_cons_self
  have ex : Ext H (upd H p u) := Ext.mut e1 (fun _ z => by cases z) (fun _ _ z => by cases z)
  have at_ : ∀ (l : Nat) (o : O), h[l]? = some o → OkO K ρ (upd H p u) h.length (ρ l) o := fun l o q => by
    have z := L.at_ l o q
    cases o with
    | dead => trivial
    | lst xs =>
      obtain ⟨b, ws, e2, r⟩ := z
      exact ⟨b, ws, by rw [upd_ne (ne l _ q rfl)]; exact e2, r.step ex (fun _ _ => rfl) b⟩
    | dct _ => exact z.elim
    | ins _ _ => exact z.elim
  have pr2 : ∀ (a : Addr) (o : HO), (a, o) ∈ pr → upd H p u a = some o ∧ ∀ (l : Nat) (w : O), h[l]? = some w → isLive w = true → ρ l ≠ a := fun a o m => by
    obtain ⟨q1, q2⟩ := L.pr a o (List.mem_cons_of_mem _ m)
    exact ⟨by rw [upd_ne (hp _ m)]; exact q1, q2⟩
  refine ⟨⟨ex, fun _ _ => rfl, Nat.le_refl _⟩, ⟨at_, L.inj, fun a o m => ?_⟩, ⟨at_, L.inj, pr2⟩⟩
  rcases List.mem_cons.mp m with q | q
  · cases q
    exact ⟨upd_same, ne⟩
  · exact pr2 a o q
theorem Lv.padd {K : PySem.W.Frag} {pr : List (Addr × HO)} {ρ : Nat → Addr} {H : Hp} {h : AH} {p : Addr} {u : HO} (L : Lv K pr ρ H h) (hp : H p = none) : Lv K ((p, u) :: pr) ρ (upd H p u) h := by
  have L2 := L.new (o := u) hp
  refine ⟨L2.at_, L2.inj, fun a o m => ?_⟩
  rcases List.mem_cons.mp m with q | q
  · cases q
    refine ⟨upd_same, fun l w hl hw e => ?_⟩
    have z := L.at_ l w hl
    cases w with
    | dead => cases hw
    | lst xs =>
      obtain ⟨_, ws, e2, _⟩ := z
      rw [e, hp] at e2
      cases e2
    | dct _ => exact z.elim
    | ins _ _ => exact z.elim
  · exact L2.pr a o q
/-- the standing of a comprehension's block -/
def Ga.blk (Γ : Ga) (scope : Scope) (own : List Str) : Ga := ⟨relS scope Γ.sc, Γ.N, Γ.fns, Γ.gl, own⟩
def ownB (Γ : Ga) (scope : Scope) (own : List Str) : Bool := own.all fun x => scope.names.lookup x == some .cell || (relS scope Γ.sc).names.lookup x == some .local
theorem XG.blk {C : Orc} {X : Cx} (G : XG Γ C X) {scope : Scope} {own : List Str} (ho : ownB Γ scope own = true) (s : Shared) (H : Hp) (c0 : Addr) (cl : List (Str × Addr)) (fp : List Addr) : XG (Γ.blk scope own) C (X.blk s H scope (compEnvC scope cl c0 X.env) fp) where
  gd := ⟨G.gd.calm, G.gd.nd, G.gd.hu, G.gd.gs⟩
  sc := by
    show relS scope X.env.scope = relS scope Γ.sc
    rw [G.sc]
  nn := G.nn
  xe := rfl
  fn := fun x hx => by
    have q := List.all_eq_true.mp ho x hx
    rcases Bool.or_eq_true_iff.mp q with q | q
    · exact .inl q
    · right
      show (relS scope X.env.scope).names.lookup x = some .local
      rw [G.sc]
      exact beq_iff_eq.mp q
  gl := G.gl
  bl := G.bl
  orc := G.orc
def WTs (X : Cx) (xs : List Expr) : TT := fun σ H Q => ∀ (pins : List (Addr × Obj)) (s : Shared), L2.Inv X pins σ H s →
  wpAny (model X.prog X.w) X.A (forIn xs true fun c r => if r = true then do let ok ← isTrue c X.env (eval c X.env); pure (ForInStep.yield ok) else pure (ForInStep.yield r)) (TP X pins σ Q) X.xe s
theorem pts_wts {X : Cx} : PTs X xs (WTs X xs) := ⟨fun pins s _ _ _ I q => q pins s I⟩
theorem wts_of {X : Cx} {t : TT} {σ : L2.St} {H : Hp} {Q : Bool → Hp → Prop} (p : PTs X xs t) (q : t σ H Q) : WTs X xs σ H Q := fun pins s I => p.run pins s σ H Q I q
structure STs (Γ : Ga) (e : E) (xs : List Expr) : Prop where
  run : ∀ (C : Orc) (X : Cx), XG Γ C X → ∀ (pr : List (Addr × HO)) (ρ : Nat → Addr) (H : Hp) (h : AH) (σ : Sg) (τ : L2.St) (Q : Bool → Hp → Prop) (c : Bool) (h1 : AH),
  SgOk X.K ρ H h.length σ τ → Lv X.K pr ρ H h → ev C e σ h = .ok (.b c) h1 → (∀ ρ' H', Nx ρ H h ρ' H' h1 → Lv X.K pr ρ' H' h1 → Q c H') → WTs X xs τ H Q
theorem sts_nil : STs Γ (.lit (.bool true)) [] := by
  refine ⟨?_⟩
  intro C X G pr ρ H h σ τ Q c h1 S L e P
  simp only [ev] at e
  cases e
  exact wts_of pts_nil (P ρ H Nx.refl L)
theorem sts_one (ha : ST Γ a xa) : STs Γ a [xa] := by
  refine ⟨?_⟩
  intro C X G pr ρ H h σ τ Q c h1 S L e P
  exact wts_of (pts_one pt_wt) (ha.run C X G pr ρ H h σ τ Q c h1 S L e P)
/-- the loop of a comprehension, as the kit wants it -/
theorem comp_loop {K : PySem.W.Frag} {C : Orc} {own : List Nat} {g : TG} {tt : TT} {te : TE} {τ : L2.St} {σ : Sg} {J : It} {sr : Src} {pr : List (Addr × HO)} {ρ1 : Nat → Addr} {H1 : Hp} {h1 h2 : AH} {ys : List D} {p : Addr} {Qd : Hp → Prop}
    (hlen : sr.xs.length ≤ lim) (hpr : ∀ q ∈ pr, q.1 ≠ p)
    (hg : ∀ pr ρ H h v d T σ1 h', SgOk K ρ H h.length (wipeS σ own) (L2.wipe τ own) → Lv K pr ρ H h → bel h.length d → Rv K ρ H d v → asg C t d (wipeS σ own) h = .ok σ1 h' →
      (∀ ρ' H' τ', Nx ρ H h ρ' H' h' → Lv K pr ρ' H' h' → SgOk K ρ' H' h'.length σ1 τ' → Same own (L2.wipe τ own) τ' → T τ' H') → g v (L2.wipe τ own) H T)
    (ht : ∀ pr ρ H h σ1 τ1 Q b h', SgOk K ρ H h.length σ1 τ1 → Lv K pr ρ H h → ev C cond σ1 h = .ok (.b b) h' → (∀ ρ' H', Nx ρ H h ρ' H' h' → Lv K pr ρ' H' h' → Q b H') → tt τ1 H Q)
    (he : ∀ pr ρ H h σ1 τ1 (Q : VK) d h', SgOk K ρ H h.length σ1 τ1 → Lv K pr ρ H h → ev C elt σ1 h = .ok d h' → Post K pr ρ H h d h' Q → te τ1 H Q)
    (S : SgOk K ρ1 H1 h1.length (wipeS σ own) (L2.wipe τ own)) (L : Lv K ((p, .lst []) :: pr) ρ1 H1 h1) (W : Wk K ρ1 H1 h1 J sr)
    (e : compL (asg C t) (ev C cond) (ev C elt) (wipeS σ own) (okS sr) sr.xs h1 = .ok ys h2)
    (hd : ∀ ρ' H' vs, Nx ρ1 H1 h1 ρ' H' h2 → Lv K ((p, .lst vs) :: pr) ρ' H' h2 → belA h2.length ys → RvA K ρ' H' ys vs → Qd H') :
    ∃ W' : Nat → Nat → Hp → Prop, (∃ m, W' 0 m H1) ∧ ∀ i m H, W' i m H → (J.stop i H ∧ Qd H) ∨ (J.go i H ∧ ∃ Nxt : Hp → Prop, (∀ H', Nxt H' → ∃ m', m' < m ∧ W' (i + 1) m' H') ∧
      ∀ x H', J.yld i H x H' → g x (L2.wipe τ own) H' fun σ2 H2 => L2.wipe σ2 own = L2.wipe τ own ∧ tt σ2 H2 fun b H3 => if b = true then te σ2 H3 fun y H4 => ∃ acc, H4 p = some (.lst acc) ∧ acc.length < sizeLine ∧ Nxt (upd H4 p (.lst (acc ++ [y]))) else Nxt H3) := by
  -- a state at turn i
  let St : Nat → Hp → Prop := fun i H => ∃ ρ h pre vs rest, Nx ρ1 H1 h1 ρ H h ∧ Lv K ((p, .lst vs) :: pr) ρ H h ∧ belA h.length pre ∧ RvA K ρ H pre vs ∧ vs.length ≤ i ∧
    compL (asg C t) (ev C cond) (ev C elt) (wipeS σ own) (okS sr) (sr.xs.drop i) h = .ok rest h2 ∧ ys = pre ++ rest
  refine ⟨fun i m H => m = sr.xs.length - i ∧ i ≤ sr.xs.length ∧ St i H, ⟨sr.xs.length, by simp, Nat.zero_le _, ρ1, h1, [], [], ys, Nx.refl, L, by simp only [belA], .nil, Nat.zero_le _, by rw [List.drop_zero]; exact e, rfl⟩, ?_⟩
  rintro i m H ⟨rfl, hi, ρ, h, pre, vs, rest, N, L, bp, rp, hv, ec, ey⟩
  by_cases hlt : i < sr.xs.length
  · right
    have hdrop : sr.xs.drop i = sr.xs[i] :: sr.xs.drop (i + 1) := List.drop_eq_getElem_cons hlt
    rw [hdrop] at ec
    simp only [compL] at ec
    split at ec
    · cases ec
    rename_i hok
    refine ⟨W.go i _ ρ H h hlt N L hok, St (i + 1), fun H' s => ⟨sr.xs.length - (i + 1), by omega, rfl, hlt, s⟩, fun x H' y => ?_⟩
    obtain ⟨ρ2, N2, L2', r2⟩ := W.yld i sr.xs[i] x _ ρ H h H' (List.getElem?_eq_getElem hlt) N L hok y
    obtain ⟨σ1, h3, e1, ec⟩ := R.bind_eq ec
    obtain ⟨b, h4, e2, ec⟩ := R.bind_eq ec
    have N12 := N.trans N2
    have bd : bel h.length sr.xs[i] := (belA_iff.mp W.bel _ (List.getElem_mem hlt)).mono N.le
    refine hg _ ρ2 H' h x sr.xs[i] _ σ1 h3 (S.nx N12) L2' bd r2 e1 fun ρ3 H3 τ3 N3 L3 S3 m3 => ⟨by rw [m3.wipe fun i hi => hi]; exact wipe_wipe τ own, ?_⟩
    have N13 := N12.trans N3
    rcases bool_of' ec with ⟨rfl, ec⟩ | ⟨rfl, ec⟩
    · obtain ⟨dy, h5, e3, ec⟩ := R.bind_eq ec
      obtain ⟨rest2, h6, e4, ec⟩ := R.bind_eq ec
      cases ec
      refine ht _ ρ3 H3 h3 σ1 τ3 _ true h4 S3 L3 e2 fun ρ4 H4 N4 L4 => ?_
      rw [if_pos rfl]
      have N14 := N13.trans N4
      refine he _ ρ4 H4 h4 σ1 τ3 _ dy h5 (S3.nx N4) L4 e3 fun ρ5 H5 v5 N5 L5 b5 r5 => ?_
      have N15 := N14.trans N5
      obtain ⟨a1, _⟩ := L5.pr p _ List.mem_cons_self
      obtain ⟨N6, L6, _⟩ := L5.pset (u := .lst (vs ++ [v5])) hpr
      refine ⟨vs, a1, ?_, ρ5, h5, pre ++ [dy], vs ++ [v5], rest2, N15.trans N6, L6, ?_, ?_, by rw [List.length_append, List.length_singleton]; omega, e4, by rw [ey, List.append_assoc]; rfl⟩
      · have := lim_line
        omega
      · refine belA_iff.mpr fun z hz => ?_
        rcases List.mem_append.mp hz with hz | hz
        · exact (belA_iff.mp bp z hz).mono ((((N2.trans N3).trans N4).trans N5).le)
        · rw [List.mem_singleton.mp hz]
          exact b5
      · exact (((rp.nx ((((N2.trans N3).trans N4).trans N5).trans N6) bp)).append (.cons (r5.nx N6 b5) .nil))
    · refine ht _ ρ3 H3 h3 σ1 τ3 _ false h4 S3 L3 e2 fun ρ4 H4 N4 L4 => ?_
      rw [if_neg Bool.false_ne_true]
      exact ⟨ρ4, h4, pre, vs, rest, N13.trans N4, L4, bp.mono ((N2.trans N3).trans N4).le, rp.nx ((N2.trans N3).trans N4) bp, by omega, ec, ey⟩
  · left
    have e0 : i = sr.xs.length := by omega
    subst e0
    rw [List.drop_length] at ec
    simp only [compL] at ec
    split at ec
    · cases ec
    rename_i hok
    cases ec
    rw [List.append_nil] at ey
    subst ey
    exact ⟨W.stop _ ρ H h2 N L hok, hd ρ H vs N L bp rp⟩
/-- in whatever block -/
def gB (X : Cx) (scope : Scope) (tg : Expr) : TG := fun v σ H T => ∀ (s : Shared) (H0 : Hp) (c0 : Addr) (cl : List (Str × Addr)) (fp : List Addr), WG (X.blk s H0 scope (compEnvC scope cl c0 X.env) fp) tg v σ H T
def tB' (X : Cx) (scope : Scope) (ifs : List Expr) : TT := fun σ H T => ∀ (s : Shared) (H0 : Hp) (c0 : Addr) (cl : List (Str × Addr)) (fp : List Addr), WTs (X.blk s H0 scope (compEnvC scope cl c0 X.env) fp) ifs σ H T
def eB (X : Cx) (scope : Scope) (xe : Expr) : TE := fun σ H T => ∀ (s : Shared) (H0 : Hp) (c0 : Addr) (cl : List (Str × Addr)) (fp : List Addr), WE (X.blk s H0 scope (compEnvC scope cl c0 X.env) fp) xe σ H T
/-- [elt for t in it if ..] -/
theorem comp_ok {C : Orc} {X : Cx} {ownS : List (Str × Nat)} {scope : Scope} {ifs : List Expr} {xe xi : Expr} {it : E} (G : XG Γ C X) (hi : SI Γ it tg xi) (hb : blkC Γ.N Γ.sc scope ownS = true) (ho : ownB Γ scope (ownS.map (·.1)) = true)
    (hg : SG (Γ.blk scope (ownS.map (·.1))) t tg) (hsl : (slots t).all (fun i => (ownS.map (·.2)).contains i) = true) (ht : STs (Γ.blk scope (ownS.map (·.1))) cond ifs) (he : SE (Γ.blk scope (ownS.map (·.1))) elt xe)
    {pr : List (Addr × HO)} {ρ : Nat → Addr} {H : Hp} {h : AH} {σ : Sg} {τ : L2.St} {Q : VK} {d : D} {h1 : AH} (S : SgOk X.K ρ H h.length σ τ) (L : Lv X.K pr ρ H h) (e : ev C (.comp (ownS.map (·.2)) elt t it cond) σ h = .ok d h1) (P : Post X.K pr ρ H h d h1 Q) :
    tLc (WI X tg xi) (gB X scope tg) (tB' X scope ifs) (eB X scope xe) (ownS.map (·.2)) τ H (Fz Q) := by
  simp only [ev] at e
  obtain ⟨sr, h2, e1, e⟩ := R.bind_eq e
  split at e
  · cases e
  rename_i hlen
  obtain ⟨ys, h3, e2, e⟩ := R.bind_eq e
  split at e
  rotate_left
  · cases e
  rename_i ps hps
  cases e
  refine hi.run C X G _ _ _ _ _ _ _ _ _ S L e1 fun ρ1 H1 J N1 L1 W1 p hp => ?_
  have np : ∀ q ∈ pr, q.1 ≠ p := fun q hq z => by
    have := (L1.pr q.1 q.2 hq).1
    rw [z, hp] at this
    cases this
  have N2 : Nx ρ1 H1 h2 ρ1 (upd H1 p (.lst [])) h2 := ⟨Ext.new hp, fun _ _ => rfl, Nat.le_refl _⟩
  have L2' : Lv X.K ((p, .lst []) :: pr) ρ1 (upd H1 p (.lst [])) h2 := L1.padd hp
  have W2' : Wk X.K ρ1 (upd H1 p (.lst [])) h2 J sr := ⟨W1.bel, fun i pr ρ' H' h' hi N => W1.go i pr ρ' H' h' hi (N2.trans N), fun i d x pr ρ' H' h' Hq hd N => W1.yld i d x pr ρ' H' h' Hq hd (N2.trans N), fun pr ρ' H' h' N => W1.stop pr ρ' H' h' (N2.trans N)⟩
  refine comp_loop (g := gB X scope tg) (tt := tB' X scope ifs) (te := eB X scope xe) (Qd := fun H' => Fz Q (.ref p) H') (of_decide_eq_true hlen) np ?_ ?_ ?_ (((S.nx (N1.trans N2)).wipe _)) L2' W2' e2 ?_
  · intro pr ρ H h v d T σ1 h' S L b r ea P s H0 c0 cl fp
    refine hg.run C _ (G.blk ho s H0 c0 cl fp) pr ρ H h _ _ v d T σ1 h' S L b r ea fun ρ' H' τ' N L S m => P ρ' H' τ' N L S ⟨m.1, fun i hi => m.2 i fun z => hi ?_⟩
    have := List.all_eq_true.mp hsl i z
    simpa using this
  · intro pr ρ H h σ1 τ1 Q b h' S L ea P s H0 c0 cl fp
    exact ht.run C _ (G.blk ho s H0 c0 cl fp) pr ρ H h _ _ Q b h' S L ea P
  · intro pr ρ H h σ1 τ1 Q d h' S L ea P s H0 c0 cl fp
    exact he.run C _ (G.blk ho s H0 c0 cl fp) pr ρ H h _ _ Q d h' S L ea P
  · intro ρ' H' vs N L b r
    obtain ⟨a1, _⟩ := L.pr p _ List.mem_cons_self
    refine ⟨p, vs, rfl, a1, fun o => ?_⟩
    obtain ⟨N6, _, L6⟩ := L.pset (u := .frz o (.lst vs)) np
    exact P ρ' _ _ (((N1.trans N2).trans N).trans N6) L6 (by simp only [bel]) (.py (.lst (.inl ⟨o, upd_same⟩) ((RvA.to_py hps r).ext N6.ext)))
theorem se_comp {ownS : List (Str × Nat)} {scope : Scope} {ifs : List Expr} {xe xi : Expr} {it : E} (hi : SI Γ it tg xi) (hb : blkC Γ.N Γ.sc scope ownS = true) (ho : ownB Γ scope (ownS.map (·.1)) = true)
    (hg : SG (Γ.blk scope (ownS.map (·.1))) t tg) (hsl : (slots t).all (fun i => (ownS.map (·.2)).contains i) = true) (ht : STs (Γ.blk scope (ownS.map (·.1))) cond ifs) (he : SE (Γ.blk scope (ownS.map (·.1))) elt xe)
    (hs : ∀ env x, foldedSetIterable xi env x = pure x) : SE Γ (.comp (ownS.map (·.2)) elt t it cond) (.ListComp xe [⟨tg, xi, ifs, 0⟩] scope pos) := by
  refine ⟨?_⟩
  intro C X G pr ρ H h σ τ Q d h1 S L e P
  refine we_frz (we_of (pe_lc G.gd.calm G.gd.nd pi_wi (by rw [G.nn, G.sc]; exact blkOk_by hb) ?_ ?_ ?_ (hs X.env)) (comp_ok G hi hb ho hg hsl ht he S L e P))
  · exact fun s H0 c0 cl fp => ⟨fun pins s1 _ _ _ u _ I r q => q s H0 c0 cl fp pins s1 u I r⟩
  · exact fun s H0 c0 cl fp => ⟨fun pins s1 _ _ _ I q => q s H0 c0 cl fp pins s1 I⟩
  · exact fun s H0 c0 cl fp => ⟨fun pins s1 _ _ _ I q => q s H0 c0 cl fp pins s1 I⟩
end
end Zm
/-! Zm 14: the machine is sound for statements. -/
namespace Zm
open PySem PySem.Spec PyProof.Rows L2
/-- what a statement is to reach -/
def Fin_ (K : PySem.W.Frag) (pr : List (Addr × HO)) (ρ : Nat → Addr) (H : Hp) (h : AH) (o : Out) (h1 : AH) (D : Ends) : Prop := match o with
  | .nx σ1 => ∀ ρ' H' τ', Nx ρ H h ρ' H' h1 → Lv K pr ρ' H' h1 → SgOk K ρ' H' h1.length σ1 τ' → D.nx τ' H'
  | .rt d => ∀ ρ' H' v, Nx ρ H h ρ' H' h1 → Lv K pr ρ' H' h1 → bel h1.length d → Rv K ρ' H' d v → D.rt v H'
theorem Fin_.nx {K : PySem.W.Frag} {pr : List (Addr × HO)} {ρ ρ1 : Nat → Addr} {H H1 : Hp} {h h1 h2 : AH} {o : Out} {D : Ends} (F : Fin_ K pr ρ H h o h2 D) (N : Nx ρ H h ρ1 H1 h1) : Fin_ K pr ρ1 H1 h1 o h2 D := by
  cases o with
  | nx σ => exact fun ρ' H' τ' N2 L S => F ρ' H' τ' (N.trans N2) L S
  | rt d => exact fun ρ' H' v N2 L b r => F ρ' H' v (N.trans N2) L b r
structure SS (Γ : Ga) (s : S) (st : Stmt) : Prop where
  run : ∀ (C : Orc) (X : Cx), XG Γ C X → ∀ (pr : List (Addr × HO)) (ρ : Nat → Addr) (H : Hp) (h : AH) (σ : Sg) (τ : L2.St) (D : Ends) (o : Out) (h1 : AH),
  SgOk X.K ρ H h.length σ τ → Lv X.K pr ρ H h → ex C s σ h = .ok o h1 → Fin_ X.K pr ρ H h o h1 D → WS X st D τ H
structure SSs (Γ : Ga) (s : S) (st : List Stmt) : Prop where
  run : ∀ (C : Orc) (X : Cx), XG Γ C X → ∀ (pr : List (Addr × HO)) (ρ : Nat → Addr) (H : Hp) (h : AH) (σ : Sg) (τ : L2.St) (D : Ends) (o : Out) (h1 : AH),
  SgOk X.K ρ H h.length σ τ → Lv X.K pr ρ H h → ex C s σ h = .ok o h1 → Fin_ X.K pr ρ H h o h1 D → WSs X st D τ H
/-- an env that has no more than a scope -/
def envS (sc : Scope) : Env := envOfC "" sc 0 0 .none
theorem tLc_mono {g : TG} {tt : TT} {te : TE} {vs : List Nat} {σ : L2.St} {H : Hp} {Q Q' : VK} {X : Cx} {tg xi : Expr} (h : tLc (WI X tg xi) g tt te vs σ H Q) (k : ∀ v H', Q v H' → Q' v H') : tLc (WI X tg xi) g tt te vs σ H Q' := by
  intro pins s I
  refine thn (h pins s I) fun v s1 q => thn q fun u s2 q => ?_
  obtain ⟨it, fp, tn, J, H', e, I2, T, st, hf, q⟩ := q
  refine ⟨it, fp, tn, J, H', e, I2, T, st, hf, fun p hp => ?_⟩
  obtain ⟨W, w0, q⟩ := q p hp
  refine ⟨W, w0, fun i m H w => ?_⟩
  rcases q i m H w with ⟨q1, q2⟩ | q
  · exact .inl ⟨q1, k _ _ q2⟩
  · exact .inr q
section
variable {Γ : Ga} {a b c e t elt cond : E} {sa sb : S} {xa xb xc xe tg : Expr} {st : Stmt} {sts body : List Stmt} {pos p2 p3 : Pos} {x : Str}
theorem sss_nil : SSs Γ .nil [] := by
  refine ⟨?_⟩
  intro C X G pr ρ H h σ τ D o h1 S L e P
  simp only [ex] at e
  cases e
  exact wss_of pss_nil (P ρ H τ Nx.refl L S)
theorem sss_cons (ha : SS Γ sa st) (hr : SSs Γ sb sts) : SSs Γ (.cons sa sb) (st :: sts) := by
  refine ⟨?_⟩
  intro C X G pr ρ H h σ τ D o h1 S L e P
  simp only [ex] at e
  obtain ⟨o1, h2, e1, e2⟩ := R.bind_eq e
  refine wss_of (pss_cons ps_ws pss_wss) (ha.run C X G pr ρ H h σ τ { D with nx := WSs X sts D } o1 h2 S L e1 ?_)
  cases o1 with
  | nx σ1 => exact fun ρ' H' τ' N L' S' => hr.run C X G pr ρ' H' h2 σ1 τ' D o h1 S' L' e2 (P.nx N)
  | rt d =>
    cases e2
    exact P
theorem ss_asg (he : SE Γ e xe) (hg : SG Γ t tg) (hs : ∀ env, env.scope = Γ.sc → swapsWithSole [tg] xe pos.line env = pure false) (hw : ∀ env, env.scope = Γ.sc → swappedStores [tg] xe env = pure none) (h1 : ∀ env, (assignEach [tg] env).map (·.2) = [assign tg env]) :
    SS Γ (.asg t e) (.Assign [tg] xe pos) := by
  refine ⟨?_⟩
  intro C X G pr ρ H h σ τ D o h1' S L ee P
  simp only [ex] at ee
  obtain ⟨d, h2, e1, ee⟩ := R.bind_eq ee
  obtain ⟨σ1, h3, e2, ee⟩ := R.bind_eq ee
  cases ee
  refine ws_of (ps_asg pe_we pg_wg (hs X.env G.sc) (hw X.env G.sc) (h1 X.env)) (he.run C X G _ _ _ _ _ _ _ _ _ S L e1 fun ρ1 H1 v N1 L1 b1 r1 => ?_)
  exact hg.run C X G _ _ _ _ _ _ _ _ _ _ _ (S.nx N1) L1 b1 r1 e2 fun ρ2 H2 τ2 N2 L2 S2 _ => P ρ2 H2 τ2 (N1.trans N2) L2 S2
theorem sw_cell {elt : Expr} {gs : List Comprehension} {scope : Scope} {py pp : Pos} {y : Str} {l : Nat} {sc : Scope} (h : (sc.names.lookup y == some .local) = false) (env : Env) (e : env.scope = sc) : swapsWithSole [.Name y py] (.ListComp elt gs scope pp) l env = pure false := by
  subst e
  have k : (env.kindOf y == some .local) = false := h
  unfold swapsWithSole swapsWith
  simp only [k, Bool.and_false, Bool.false_and]
theorem swaps_env (ts : List Expr) (v : Expr) (env : Env) : swappedStores ts v env = swappedStores ts v (envS env.scope) := rfl
theorem swaps_of {ts : List Expr} {v : Expr} {q : Sem (Option (List Str))} (h : swappedStores ts v (envS Γ.sc) = q) (env : Env) (e : env.scope = Γ.sc) : swappedStores ts v env = q := by
  rw [swaps_env, e]
  exact h
/-- name = [..] on one line -/
theorem ss_setLc {n : Nat} {ownS : List (Str × Nat)} {scope : Scope} {ifs : List Expr} {xi : Expr} {it : E} {py pl : Pos} (hN : Γ.N[n]? = some x) (hyl : (Γ.sc.names.lookup x == some .local) = true) (hk : (Γ.sc.kind == .function) = true) (hl : (py.line == pl.line) = true)
    (hn : (scope.names.any fun (n, k) => n == x && (k == .local || k == .cell)) = false)
    (hi : SI Γ it tg xi) (hb : blkC Γ.N Γ.sc scope ownS = true) (ho : ownB Γ scope (ownS.map (·.1)) = true)
    (hg : SG (Γ.blk scope (ownS.map (·.1))) t tg) (hsl : (slots t).all (fun i => (ownS.map (·.2)).contains i) = true) (ht : STs (Γ.blk scope (ownS.map (·.1))) cond ifs) (he : SE (Γ.blk scope (ownS.map (·.1))) elt xe)
    (hs : ∀ env x, foldedSetIterable xi env x = pure x) : SS Γ (.asg (.var n) (.comp (ownS.map (·.2)) elt t it cond)) (.Assign [.Name x py] (.ListComp xe [⟨tg, xi, ifs, 0⟩] scope pl) pos) := by
  refine ⟨?_⟩
  intro C X G pr ρ H h σ τ D o h1' S L ee P
  simp only [ex] at ee
  obtain ⟨d, h2, e1, ee⟩ := R.bind_eq ee
  simp only [asg, R.bind_ok] at ee
  cases ee
  have yl : X.env.scope.names.lookup x = some .local := by
    rw [G.sc]
    exact beq_iff_eq.mp hyl
  have kk : X.env.scope.kind = .function := by
    rw [G.sc]
    exact beq_iff_eq.mp hk
  have key := ps_setLc (X := X) (i := n) (y := x) (py := py) (elt := xe) (tg := tg) (iter := xi) (ifs := ifs) (scope := scope) (own := ownS) (pos := pl) (spos := pos) (wi := WI X tg xi) (g := gB X scope tg) (tt := tB' X scope ifs) (te := eB X scope xe)
    G.gd.calm G.gd.nd (by rw [G.nn]; exact hN) yl (sw_true kk yl hl hn) pi_wi (by rw [G.nn, G.sc]; exact blkOk_by hb)
    (fun s H0 c0 cl fp => ⟨fun pins s1 _ _ _ u _ I r q => q s H0 c0 cl fp pins s1 u I r⟩) (fun s H0 c0 cl fp => ⟨fun pins s1 _ _ _ I q => q s H0 c0 cl fp pins s1 I⟩) (fun s H0 c0 cl fp => ⟨fun pins s1 _ _ _ I q => q s H0 c0 cl fp pins s1 I⟩) (hs X.env)
  have fin := comp_ok (Q := fun v H' => D.nx (τ.set n (some v)) H') G hi hb ho hg hsl ht he S L e1 fun ρ' H' v N L b r => P ρ' H' _ N L ((S.nx N).set b r n)
  intro pins s I
  refine thn (key.run pins s τ H { D with nx := fun σ' H' => ∃ p vs, σ' = τ.set n (some (.ref p)) ∧ H' p = some (.lst vs) ∧ ∀ o, D.nx σ' (upd H' p (.frz o (.lst vs))) } I ?_) fun f s' q => ?_
  · show tLc _ _ _ _ _ τ H fun v H' => _
    refine tLc_mono fin fun v H' q => ?_
    obtain ⟨p, vs, rfl, q1, q2⟩ := q
    exact ⟨p, vs, rfl, q1, q2⟩
  · cases f with
    | next =>
      obtain ⟨σ', H', I', p, vs, rfl, q1, q2⟩ := q
      obtain ⟨o, I2⟩ := Inv.freeze I' q1
      exact ⟨_, _, I2, q2 o⟩
    | brk => exact q
    | cont => exact q
    | ret v => exact q
theorem ss_expr (he : SE Γ e xe) (hs : ∀ env, swapsWith xe none pos.line env = pure false) : SS Γ (.expr e) (.Expr xe pos) := by
  refine ⟨?_⟩
  intro C X G pr ρ H h σ τ D o h1 S L ee P
  simp only [ex] at ee
  obtain ⟨d, h2, e1, ee⟩ := R.bind_eq ee
  cases ee
  exact ws_of (ps_expr pe_we (hs X.env)) (he.run C X G _ _ _ _ _ _ _ _ _ S L e1 fun ρ1 H1 v N1 L1 b1 r1 => P ρ1 H1 τ N1 L1 (S.nx N1))
theorem ss_ret (he : SE Γ e xe) : SS Γ (.ret e) (.Return (some xe) pos) := by
  refine ⟨?_⟩
  intro C X G pr ρ H h σ τ D o h1 S L ee P
  simp only [ex] at ee
  obtain ⟨d, h2, e1, ee⟩ := R.bind_eq ee
  cases ee
  exact ws_of (ps_ret pe_we) (he.run C X G _ _ _ _ _ _ _ _ _ S L e1 fun ρ1 H1 v N1 L1 b1 r1 => P ρ1 H1 v N1 L1 b1 r1)
theorem ss_if (hc : ST Γ c xc) (ha : SSs Γ sa sts) (hb : SSs Γ sb body) : SS Γ (.sif c sa sb) (.If xc sts body pos) := by
  refine ⟨?_⟩
  intro C X G pr ρ H h σ τ D o h1 S L ee P
  simp only [ex] at ee
  obtain ⟨d, h2, e1, ee⟩ := R.bind_eq ee
  rcases bool_of' ee with ⟨rfl, ee⟩ | ⟨rfl, ee⟩
  · refine ws_of (ps_if pt_wt pss_wss pss_wss) (hc.run C X G _ _ _ _ _ _ _ _ _ S L e1 fun ρ1 H1 N1 L1 => ?_)
    rw [if_pos rfl]
    exact ha.run C X G _ _ _ _ _ _ _ _ _ (S.nx N1) L1 ee (P.nx N1)
  · refine ws_of (ps_if pt_wt pss_wss pss_wss) (hc.run C X G _ _ _ _ _ _ _ _ _ S L e1 fun ρ1 H1 N1 L1 => ?_)
    rw [if_neg Bool.false_ne_true]
    exact hb.run C X G _ _ _ _ _ _ _ _ _ (S.nx N1) L1 ee (P.nx N1)
theorem ss_raise : SS Γ .raise st := by
  refine ⟨?_⟩
  intro C X G pr ρ H h σ τ D o h1 S L ee P
  simp only [ex] at ee
  cases ee
theorem sss_raise : SSs Γ .raise sts := by
  refine ⟨?_⟩
  intro C X G pr ρ H h σ τ D o h1 S L ee P
  simp only [ex] at ee
  cases ee
theorem xg_pass {C : Orc} {X : Cx} (G : XG Γ C X) : PassesOwn (model X.prog X.w) X.A X.env X.xe := by
  rw [G.xe]
  exact PassesOwn.never
theorem ss_for {it : E} (hi : SI Γ it tg xe) (hg : SG Γ t tg) (hb : SSs Γ sa body) (hs : ∀ env x, foldedSetIterable xe env x = pure x) : SS Γ (.sfor t it sa) (.For tg xe body [] pos) := by
  refine ⟨?_⟩
  intro C X G pr ρ H h σ τ D o h1 S L ee P
  simp only [ex] at ee
  obtain ⟨sr, h2, e1, ee⟩ := R.bind_eq ee
  refine ws_of (ps_for (xg_pass G) G.gd.calm pi_wi pg_wg pss_wss (hs X.env)) (hi.run C X G _ _ _ _ _ _ _ _ _ S L e1 fun ρ1 H1 J N1 L1 W => ?_)
  have P1 := P.nx N1
  let St : Nat → L2.St → Hp → Prop := fun i τ H => ∃ ρ h σ, Nx ρ1 H1 h2 ρ H h ∧ Lv X.K pr ρ H h ∧ SgOk X.K ρ H h.length σ τ ∧ forL (asg C t) (ex C sa) (okS sr) (sr.xs.drop i) σ h = .ok o h1
  refine ⟨fun i m τ H => m = sr.xs.length - i ∧ i ≤ sr.xs.length ∧ St i τ H, ⟨sr.xs.length, by simp, Nat.zero_le _, ρ1, h2, σ, Nx.refl, L1, S.nx N1, by rw [List.drop_zero]; exact ee⟩, ?_⟩
  rintro i m τ H ⟨rfl, hi, ρ, h, σ, N, L, S, ef⟩
  by_cases hlt : i < sr.xs.length
  · right
    have hdrop : sr.xs.drop i = sr.xs[i] :: sr.xs.drop (i + 1) := List.drop_eq_getElem_cons hlt
    rw [hdrop] at ef
    simp only [forL] at ef
    split at ef
    · cases ef
    rename_i hok
    refine ⟨W.go i _ ρ H h hlt N L hok, St (i + 1), fun τ' H' s => ⟨sr.xs.length - (i + 1), by omega, rfl, hlt, s⟩, fun x H' y => ?_⟩
    obtain ⟨ρ2, N2, L2', r2⟩ := W.yld i sr.xs[i] x _ ρ H h H' (List.getElem?_eq_getElem hlt) N L hok y
    obtain ⟨σ1, h3, e2, ef⟩ := R.bind_eq ef
    obtain ⟨o1, h4, e3, ef⟩ := R.bind_eq ef
    have bd : bel h.length sr.xs[i] := (belA_iff.mp W.bel _ (List.getElem_mem hlt)).mono N.le
    refine hg.run C X G _ _ _ _ _ _ _ _ _ _ _ (S.nx N2) L2' bd r2 e2 fun ρ3 H3 τ3 N3 L3 S3 _ => ?_
    have N13 := (N.trans N2).trans N3
    refine hb.run C X G _ _ _ _ _ _ _ _ _ S3 L3 e3 ?_
    cases o1 with
    | nx σ2 => exact fun ρ4 H4 τ4 N4 L4 S4 => ⟨ρ4, h4, σ2, N13.trans N4, L4, S4, ef⟩
    | rt d =>
      cases ef
      exact P1.nx N13
  · left
    have e0 : i = sr.xs.length := by omega
    subst e0
    rw [List.drop_length] at ef
    simp only [forL] at ef
    split at ef
    · cases ef
    rename_i hok
    cases ef
    exact ⟨W.stop _ ρ H h1 N L hok, P1 ρ H τ N L S⟩
theorem ss_wh {n : Nat} (hc : ST Γ c xc) (hb : SSs Γ sa body) : SS Γ (.swh n c sa) (.While xc body [] pos) := by
  refine ⟨?_⟩
  intro C X G pr ρ H h σ τ D o h1 S L ee P
  simp only [ex] at ee
  refine ws_of (ps_while (xg_pass G) pt_wt pss_wss) ?_
  refine ⟨fun m τ' H' => ∃ ρ' h' σ', Nx ρ H h ρ' H' h' ∧ Lv X.K pr ρ' H' h' ∧ SgOk X.K ρ' H' h'.length σ' τ' ∧ whL (ev C c) (ex C sa) m σ' h' = .ok o h1, ⟨n, ρ, h, σ, Nx.refl, L, S, ee⟩, ?_⟩
  rintro m τ1 H1 ⟨ρ1, h2, σ1, N1, L1, S1, e1⟩
  cases m with
  | zero =>
    simp only [whL] at e1
    cases e1
  | succ m =>
    simp only [whL] at e1
    obtain ⟨d, h3, e2, e1⟩ := R.bind_eq e1
    rcases bool_of' e1 with ⟨rfl, e1⟩ | ⟨rfl, e1⟩
    · refine hc.run C X G _ _ _ _ _ _ _ _ _ S1 L1 e2 fun ρ2 H2 N2 L2 => ?_
      rw [if_pos rfl]
      obtain ⟨o1, h4, e3, e1⟩ := R.bind_eq e1
      refine ⟨fun τ' H' => ∃ ρ' h' σ', Nx ρ H h ρ' H' h' ∧ Lv X.K pr ρ' H' h' ∧ SgOk X.K ρ' H' h'.length σ' τ' ∧ whL (ev C c) (ex C sa) m σ' h' = .ok o h1, fun τ' H' q => ⟨m, Nat.lt_succ_self m, q⟩, ?_⟩
      refine hb.run C X G _ _ _ _ _ _ _ _ _ (S1.nx N2) L2 e3 ?_
      cases o1 with
      | nx σ2 => exact fun ρ4 H4 τ4 N4 L4 S4 => ⟨ρ4, h4, σ2, (N1.trans N2).trans N4, L4, S4, e1⟩
      | rt d =>
        cases e1
        exact P.nx (N1.trans N2)
    · cases e1
      refine hc.run C X G _ _ _ _ _ _ _ _ _ S1 L1 e2 fun ρ2 H2 N2 L2 => ?_
      rw [if_neg Bool.false_ne_true]
      exact P ρ2 H2 τ1 (N1.trans N2) L2 (S1.nx N2)
/-- x, y = a, b : two plain names -/
theorem ss_par {n m : Nat} {y : Str} {px py pt : Pos} {kt k2 : Nat} {pt2 : Pos} (hN : Γ.N[n]? = some x) (hM : Γ.N[m]? = some y) (hnm : n ≠ m) (hx : (Γ.sc.names.lookup x == some .local) = true) (hy : (Γ.sc.names.lookup y == some .local) = true)
    (ha : SA Γ (.cons a (.cons b .nil)) [xa, xb]) (hw : swappedStores [.Tuple [.Name x px, .Name y py] kt pt] (.Tuple [xa, xb] k2 pt2) (envS Γ.sc) = pure (some [x, y])) :
    SS Γ (.asg (.tup (.cons (.var n) (.cons (.var m) .nil))) (.tup (.cons a (.cons b .nil)))) (.Assign [.Tuple [.Name x px, .Name y py] kt pt] (.Tuple [xa, xb] k2 pt2) pos) := by
  refine ⟨?_⟩
  intro C X G pr ρ H h σ τ D o h1 S L ee P
  simp only [ex, ev] at ee
  obtain ⟨d, h2, e1, ee⟩ := R.bind_eq ee
  obtain ⟨σ1, h3, e2, ee⟩ := R.bind_eq ee
  cases ee
  obtain ⟨ds, h4, e3, e4⟩ := R.bind_eq e1
  cases e4
  refine ws_of (ps_par G.gd.calm G.gd.nd (by rw [G.nn]; exact hN) (by rw [G.nn]; exact hM) hnm (by rw [G.sc]; exact beq_iff_eq.mp hx) (by rw [G.sc]; exact beq_iff_eq.mp hy) pa_wa (swaps_of hw X.env G.sc)) (ha.run C X G _ _ _ _ _ _ _ _ _ S L e3 fun ρ1 H1 vs N1 L1 b1 r1 hl => ?_)
  have e5 : asgs C (.cons (.var n) (.cons (.var m) .nil)) ds σ h2 = .ok σ1 h1 := by
    simp only [asg] at e2
    cases hps : pys ds with
    | none =>
      simp only [mkTup, hps] at e2
      exact e2
    | some qs =>
      simp only [mkTup, hps] at e2
      rw [pys_eq hps]
      exact e2
  cases r1 with
  | nil => simp [asgs] at e5
  | cons r1 r2 =>
    cases r2 with
    | nil => simp [asgs, asg] at e5
    | cons r2 r3 =>
      cases r3 with
      | cons _ _ => simp [asgs, asg] at e5
      | nil =>
        simp only [asgs, asg, R.bind_ok] at e5
        cases e5
        simp only [belA] at b1
        exact ⟨_, _, rfl, P ρ1 H1 _ N1 L1 (((S.nx N1).set b1.1 r1 n).set b1.2.1 r2 m)⟩
end
end Zm
/-! Zm 15: the machine is sound for defs. -/
namespace Zm
open PySem PySem.Spec PyProof.Rows L2
/-! ### what is left when a def is left -/
theorem take_get {h : AH} {n i : Nat} {o : O} (e : (h.take n)[i]? = some o) : i < n ∧ h[i]? = some o := by
  have hi : i < (h.take n).length := (List.getElem?_eq_some_iff.mp e).1
  rw [List.length_take] at hi
  have hn : i < n := by omega
  refine ⟨hn, ?_⟩
  rw [List.getElem?_take_of_lt hn] at e
  exact e
theorem okO_cut {K : PySem.W.Frag} {ρ : Nat → Addr} {H : Hp} {n m : Nat} {a : Addr} {o : O} (z : OkO K ρ H m a o) (hp : plainO o ∨ ∀ xs, o = .lst xs → belA n xs) : OkO K ρ H n a o := by
  cases o with
  | dead => trivial
  | lst xs =>
    obtain ⟨_, vs, e, r⟩ := z
    refine ⟨?_, vs, e, r⟩
    rcases hp with hp | hp
    · obtain ⟨ps, rfl⟩ := hp
      exact belA_py _ _
    · exact hp xs rfl
  | dct _ => exact z.elim
  | ins _ _ => exact z.elim
section
variable {K : PySem.W.Frag} {pr : List (Addr × HO)} {ρ ρ1 : Nat → Addr} {H H1 : Hp} {h h1 : AH}
theorem chg_ok (L : Lv K pr ρ H h) (L1 : Lv K pr ρ1 H1 h1) (c : Chg h (h1.take h.length)) (i : Nat) (o : O) (e : (h1.take h.length)[i]? = some o) (m : Nat) (hm : h.length ≤ m) : OkO K ρ1 H1 m (ρ1 i) o := by
  obtain ⟨hi, e1⟩ := take_get e
  refine okO_cut (L1.at_ i o e1) ?_
  rcases c.2 i with q | ⟨u, q, hu⟩
  · right
    intro xs ho
    subst ho
    rw [q] at e
    exact ((L.lst e).1).mono hm
  · rw [q] at e
    cases e
    exact .inl hu
theorem leave_pure (N : Nx ρ H h ρ1 H1 h1) (L : Lv K pr ρ H h) (L1 : Lv K pr ρ1 H1 h1) (c : Chg h (h1.take h.length)) : Nx ρ H h ρ1 H1 (h1.take h.length) ∧ Lv K pr ρ1 H1 (h1.take h.length) := by
  have hl : (h1.take h.length).length = h.length := c.1
  refine ⟨⟨N.ext, N.same, by rw [hl]; exact Nat.le_refl _⟩, ⟨fun i o e => chg_ok L L1 c i o e _ (by rw [hl]; exact Nat.le_refl _), fun i j o u e1 e2 => L1.inj i j o u (take_get e1).2 (take_get e2).2, fun a o m => ⟨(L1.pr a o m).1, fun l u e => (L1.pr a o m).2 l u (take_get e).2⟩⟩⟩
theorem leave_fresh {l : Nat} {ps : List PyData} (N : Nx ρ H h ρ1 H1 h1) (L : Lv K pr ρ H h) (L1 : Lv K pr ρ1 H1 h1) (c : Chg h (h1.take h.length)) (hl : h1[l]? = some (.lst (ps.map .py))) (hle : h.length ≤ l) :
    ∃ ρ2, Nx ρ H h ρ2 H1 (h1.take h.length ++ [.lst (ps.map .py)]) ∧ Lv K pr ρ2 H1 (h1.take h.length ++ [.lst (ps.map .py)]) ∧ ρ2 h.length = ρ1 l := by
  have ht : (h1.take h.length).length = h.length := c.1
  have old : ∀ i, i < h.length → (if i = h.length then ρ1 l else ρ1 i) = ρ1 i := fun i hi => if_neg (Nat.ne_of_lt hi)
  have at2 : ∀ (i : Nat) (o : O), (h1.take h.length ++ [O.lst (ps.map .py)])[i]? = some o → (i < h.length ∧ (h1.take h.length)[i]? = some o) ∨ (i = h.length ∧ o = .lst (ps.map .py)) := fun i o e => by
    by_cases hi : i < h.length
    · rw [List.getElem?_append_left (by rw [ht]; exact hi)] at e
      exact .inl ⟨hi, e⟩
    · have hb := (List.getElem?_eq_some_iff.mp e).1
      rw [List.length_append, ht, List.length_singleton] at hb
      have ei : i = h.length := by omega
      subst ei
      rw [List.getElem?_append_right (by rw [ht]; exact Nat.le_refl _), ht] at e
      simp at e
      exact .inr ⟨rfl, e.symm⟩
  have stepA : ∀ {xs : List D} {vs : List V}, belA h.length xs → RvA K ρ1 H1 xs vs → RvA K (fun i => if i = h.length then ρ1 l else ρ1 i) H1 xs vs := fun b r => r.step (Ext.refl H1) old b
  refine ⟨fun i => if i = h.length then ρ1 l else ρ1 i, ⟨N.ext, fun i hi => (old i hi).trans (N.same i hi), by rw [List.length_append, ht]; omega⟩, ⟨fun i o e => ?_, fun i j o u e1 e2 ho hu e => ?_, fun a o m => ⟨(L1.pr a o m).1, fun i u e hu => ?_⟩⟩, if_pos rfl⟩
  · rcases at2 i o e with ⟨hi, e⟩ | ⟨rfl, rfl⟩
    · rw [old i hi]
      have z := chg_ok L L1 c i o e h.length (Nat.le_refl _)
      cases o with
      | dead => trivial
      | lst xs =>
        obtain ⟨b, vs, z1, z2⟩ := z
        exact ⟨b.mono (by rw [List.length_append, ht]; omega), vs, z1, stepA b z2⟩
      | dct _ => exact z.elim
      | ins _ _ => exact z.elim
    · rw [if_pos rfl]
      obtain ⟨b, vs, z1, z2⟩ := L1.lst hl
      exact ⟨belA_py _ _, vs, z1, stepA (belA_py _ _) z2⟩
  · have e : (if i = h.length then ρ1 l else ρ1 i) = (if j = h.length then ρ1 l else ρ1 j) := e
    rcases at2 i o e1 with ⟨hi, e1⟩ | ⟨rfl, rfl⟩
    · rcases at2 j u e2 with ⟨hj, e2⟩ | ⟨rfl, rfl⟩
      · rw [old i hi, old j hj] at e
        exact L1.inj i j o u (take_get e1).2 (take_get e2).2 ho hu e
      · rw [old i hi, if_pos rfl] at e
        have := L1.inj i l o _ (take_get e1).2 hl ho rfl e
        omega
    · rcases at2 j u e2 with ⟨hj, e2⟩ | ⟨rfl, rfl⟩
      · rw [old j hj, if_pos rfl] at e
        have := L1.inj l j _ u hl (take_get e2).2 rfl hu e
        omega
      · rfl
  · rcases at2 i u e with ⟨hi, e⟩ | ⟨rfl, rfl⟩
    · show (if i = h.length then ρ1 l else ρ1 i) ≠ a
      rw [old i hi]
      exact (L1.pr a o m).2 i u (take_get e).2 hu
    · show (if h.length = h.length then ρ1 l else ρ1 h.length) ≠ a
      rw [if_pos rfl]
      exact (L1.pr a o m).2 l _ hl rfl
theorem leave_ok {pol : Pol} {d d1 : D} {h2 : AH} {v : V} {Q : VK} (N : Nx ρ H h ρ1 H1 h1) (L : Lv K pr ρ H h) (L1 : Lv K pr ρ1 H1 h1) (b : bel h1.length d) (r : Rv K ρ1 H1 d v) (e : leave pol h d h1 = .ok d1 h2) (P : Post K pr ρ H h d1 h2 Q) : Q v H1 := by
  unfold leave at e
  split at e
  · cases e
    exact P ρ1 H1 v N L1 b r
  · split at e
    rotate_left
    · cases e
    split at e
    rotate_left
    · cases e
    rename_i c
    cases e
    obtain ⟨N2, L2⟩ := leave_pure N L L1 c
    refine P ρ1 H1 v N2 L2 (by simp only [bel]) ?_
    cases r with
    | py r => exact .py r
  · split at e
    rotate_left
    · cases e
    rename_i l
    split at e
    rotate_left
    · cases e
    rename_i xs hl
    split at e
    rotate_left
    · cases e
    rename_i ps hps
    split at e
    rotate_left
    · cases e
    rename_i c
    cases e
    rw [pys_eq hps] at hl
    obtain ⟨ρ2, N2, L2, e2⟩ := leave_fresh N L L1 c.1 hl c.2
    cases r with
    | obj => exact P ρ2 H1 _ N2 L2 (by simp only [bel, List.length_append, List.length_singleton, c.1.1]; omega) (e2 ▸ .obj _)
end
/-! ### defs -/
theorem sg_start {K : PySem.W.Frag} {ρ : Nat → Addr} {H : Hp} {n : Nat} {fn : Fn} {N : List Str} {ds : List D} {vs : List V} (hn : fn.ns = N.length) (b : belA n ds) (r : RvA K ρ H ds vs) : SgOk K ρ H n (initS fn ds) (L2.start N vs) := by
  have hl := r.length
  refine ⟨by unfold initS L2.start; simp only [List.length_append, List.length_map, List.length_replicate]; rw [hn, hl], fun i d e => ?_⟩
  unfold initS at e
  by_cases hi : i < ds.length
  · rw [List.getElem?_append_left (by simpa using hi), List.getElem?_map] at e
    cases q : ds[i]? with
    | none =>
      rw [q] at e
      cases e
    | some d' =>
      rw [q] at e
      cases e
      obtain ⟨v, hv, rv⟩ := r.get q
      refine ⟨belA_iff.mp b _ (List.mem_of_getElem? q), v, ?_, rv⟩
      unfold L2.start
      rw [List.getElem?_append_left (by rw [List.length_map]; omega), List.getElem?_map, hv]
      rfl
  · rw [List.getElem?_append_right (by simpa using hi), List.getElem?_replicate] at e
    split at e <;> cases e
/-- a def's body as a function of the machine -/
noncomputable def runF (C : Orc) (fn : Fn) : List D → AH → R D := fun ds h => if ds.length = fn.np then (ex C fn.body (initS fn ds) h).bind fun o h1 => (match o with
  | .rt d => leave fn.pol h d h1
  | .nx _ => leave fn.pol h .non h1) else .stuck
theorem callN_succ (F : List Fn) (k f : Nat) (fn : Fn) (e : F[f]? = some fn) : callN F (k + 1) f = runF (callN F k) fn := by
  funext ds h
  rw [callN, e]
  rfl
abbrev CXf : CXT := fun _ _ _ _ _ _ => False
/-- what a module gives: functions, constants, built-in names -/
structure Md (mg : Str → Option Value) (K : PySem.W.Frag) (fns : List Str) (gl : List (Str × PyData)) (ad : Nat → Addr) : Prop where
  gl : ∀ (i : Nat) (x : Str) (p : PyData), gl[i]? = some (x, p) → ∃ (v : V) (u : Value), mg x = some u ∧ RelV v u ∧ ∀ H, Dq K H p v
  bl : ∀ x ∈ bltins, mg x = none
  fn : ∀ (f : Nat) (x : Str), fns[f]? = some x → mg x = some (.ref (ad f)) ∧ PySem.W.keepIn K (.ref (ad f)) = true
section
variable {P : Program} {w : World} {K : PySem.W.Frag} {mg : Str → Option Value} {base : Heap} {fns : List Str} {gl : List (Str × PyData)} {ad : Nat → Addr}
theorem fnS_of {C : Orc} {n : Nat} {f : Addr} {fd : FuncData} {name qual : Str} {params : Arguments} {body : List Stmt} {scope : Scope} {N ps own : List Str} {fn : Fn} (M : Md mg K fns gl ad)
    (hC : ∀ (j : Nat) (x : Str), fns[j]? = some x → FnS P w K mg base n (ad j) (C j))
    (F : FunD K name qual params body scope [] [] f fd) (hb : Binds K fd ps []) (S : FnScope N ps scope) (hnp : fn.np = ps.length) (hns : fn.ns = N.length) (hS : SSs ⟨scope, N, fns, gl, own⟩ fn.body body) :
    FnS P w K mg base (n + 1) f (runF C fn) := by
  intro A outer s H us vs pr ρ h ds d h1 Q hr hgd e0 rv r b L e Po
  obtain ⟨oc, od, dV, kV, doc, pm, an, cdv, ct, osl, rfl, lk, hcd, _, _⟩ := F.ex
  unfold runF at e
  split at e
  rotate_left
  · cases e
  rename_i hlen
  obtain ⟨o, h2, e1, e⟩ := R.bind_eq e
  have hl : vs.length = ps.length := by rw [← r.length, hlen, hnp]
  have hlu : (us ++ ([] : List Value)).length = ps.length := by rw [List.append_nil, ← rv.length, hl]
  have KX : K.In s.heap := e0.mod.kin.keeps fun a o q => (e0.bs a o q).1
  have NL : s.heap.NoLimit := e0.mod.nolimit.keeps fun a o q => (e0.bs a o q).1
  have kd : ∀ y ∈ ps.zip us, scope.names.lookup y.1 = some .local ∨ (scope.names.lookup y.1 = some .cell ∧ ((cellsFrom (s.heap.objs.size + 1) scope.names []).lookup y.1).isSome = true) := fun y hy => by
    rcases S.par y.1 (List.of_mem_zip (show (y.1, y.2) ∈ ps.zip us from hy)).1 with q | q
    · exact .inl q
    · exact .inr ⟨q, PySem.W.cellsFrom_some _ _ _ (.inl q)⟩
  have hb2 := hb s us KX hlu
  rw [List.append_nil] at hb2
  refine codeAny_call_function hr.depth (KX _ _ lk) rfl S.co S.gen rfl (PySem.W.codeRec_of KX hcd) (hb2 _ _ _ _ ?_)
  refine wpAny_newFunctionEnv_cells S.kind kd fun env he s1 x => ?_
  subst he
  refine ⟨NL.keeps x.toInCall.keep, codeAny_func ?_⟩
  have I : L2.Inv (cxOf CXf P w K mg base N qual scope f cdv A outer s H (fun _ _ _ => False)) [] (L2.start N vs) H s1 := inv_start S hr.hd e0 hl rv x
  have I2 : L2.Inv (cxOf CXf P w K mg base N qual scope f cdv A outer s H (fun _ _ _ => False)).nox [] (L2.start N vs) H s1 := I.wish _
  have hr2 : Room n (A.deeper (envOfC qual scope s.heap.objs.size f cdv)) := hr.deeper _
  have G : XG ⟨scope, N, fns, gl, own⟩ C (cxOf CXf P w K mg base N qual scope f cdv A outer s H (fun _ _ _ => False)).nox :=
    ⟨⟨rfl, S.nd, by have := hr2.un; show (A.deeper (envOfC qual scope s.heap.objs.size f cdv)).units + 150 < cLine; omega, hgd⟩, rfl, rfl, rfl, fun _ _ => .inl rfl, M.gl, M.bl, n, hr2, fun j x hj => ⟨ad j, (M.fn j x hj).1, (M.fn j x hj).2, hC j x hj⟩⟩
  have run := hS.run C _ G pr ρ H h (initS fn ds) (L2.start N vs) { nx := fun _ H' => Q .non H', rt := Q } o h2 (sg_start hns b r) L e1 (by
    cases o with
    | nx σ1 => exact fun ρ' H' τ' N1 L1 S1 => leave_ok N1 L L1 (by simp only [bel]) (.py .non) e Po
    | rt d1 => exact fun ρ' H' v N1 L1 b1 r1 => leave_ok N1 L L1 b1 r1 e Po)
  refine wpAny_mono (run [] s1 I2) (fun fl s' q => ?_) fun _ _ q => q.elim
  cases fl with
  | ret u =>
    obtain ⟨v, σ', H', J, r2, q⟩ := q
    exact ⟨v, H', J.os, J.bare, J.base, J.hok, r2, q⟩
  | next =>
    obtain ⟨σ', H', J, q⟩ := q
    exact ⟨.non, H', J.os, J.bare, J.base, J.hok, rfl, q⟩
  | brk =>
    obtain ⟨_, _, _, q⟩ := q
    exact q.elim
  | cont =>
    obtain ⟨_, _, _, q⟩ := q
    exact q.elim
theorem fnS_zero {f : Addr} {k : Nat} {F : List Fn} {j : Nat} : FnS P w K mg base k f (callN F 0 j) := by
  intro A outer s H us vs pr ρ h ds d h1 Q hr hgd e0 rv r b L e Po
  rw [callN] at e
  cases e
/-- one def of the table -/
structure Dd (P : Program) (w : World) (K : PySem.W.Frag) (mg : Str → Option Value) (base : Heap) (fns : List Str) (gl : List (Str × PyData)) (ad : Nat → Addr) (f : Addr) (fn : Fn) : Prop where
  st : ∀ (C : Orc) (n : Nat), (∀ (j : Nat) (x : Str), fns[j]? = some x → FnS P w K mg base n (ad j) (C j)) → FnS P w K mg base (n + 1) f (runF C fn)
theorem levels {F : List Fn} (hl : F.length = fns.length) (D : ∀ (j : Nat) (fn : Fn), F[j]? = some fn → Dd P w K mg base fns gl ad (ad j) fn) : ∀ (n j : Nat) (x : Str), fns[j]? = some x → FnS P w K mg base n (ad j) (callN F n j)
  | 0, j, x, hj => fnS_zero
  | n + 1, j, x, hj => by
    have hj2 : j < F.length := by
      rw [hl]
      exact (List.getElem?_eq_some_iff.mp hj).1
    have e : F[j]? = some F[j] := List.getElem?_eq_getElem hj2
    rw [callN_succ F n j _ e]
    exact (D j _ e).st _ n fun j x hj => levels hl D n j x hj
end
end Zm
/-! Zm 16: a law by the machine. -/
namespace Zm
open PySem PySem.Spec PySem.W PyProof.Rows L2
theorem dqa_ints {K : Frag} {H : Hp} : ∀ ns : List Int, DqA K H (ns.map .int) (ns.map V.int)
  | [] => .nil
  | n :: r => .cons (.int n) (dqa_ints r)
theorem lv_nil {K : Frag} {ρ : Nat → Addr} {H : Hp} : Lv K [] ρ H [] := ⟨fun l o e => by simp at e, fun l m o u e => by simp at e, fun a o m => by cases m⟩
/-- the law's def is called with the script -/
theorem law_run {P : Program} {w : World} {K : Frag} {mg mb : Str → Option Value} {k : Nat} {fa a : Addr} {φ : List D → AH → R D} {s1 : Shared} {vs : List Value} {ns : List Int}
    (KX : K.In s1.heap) (h1 : s1.heap.Ns mainGlobals mg) (h2 : s1.heap.Ns builtinsNs mb) (h3 : ∀ x : Str, x ≠ "__name__" → mb x = bootBuiltins x) (h4 : s1.heap.NoLimit) (h5 : s1.gens = #[])
    (ha : s1.heap.get? a = some { cls := .type "list", data := .seq vs.toArray }) (hi : IntsAre vs ns) (hl : ns.length ≤ sizeLine) (hr : Room k callerA) (hgd : callerA.guards = some [])
    (F : ∀ base : Heap, K.In base → base.Ns mainGlobals mg → FnS P w K mg base k fa φ) (law : ∃ h', φ [.py (.list (ns.map .int))] [] = .ok (.b true) h') :
    codeAny (model P w) callerA (.call (.ref fa) ⟨[.ref a], []⟩) (fun r s' => r = .ok (.ret (.bool true)) ∧ OldK s1.heap s'.heap ∧ s'.os = s1.os ∧ AllBare s'.gens) s1 := by
  have rv := vals_ints hi
  have lv := hi.length
  obtain ⟨hh, law⟩ := law
  have core : ∀ H : Hp, (∀ b, H b = none ∨ ∃ o xs, H b = some (.frz o (.lst xs))) → FzL K H a (ns.map V.int) → HOk P w H s1.heap → (∀ b, H b ≠ none → b = a) → (H a ≠ none → K.lookup a = none) →
      codeAny (model P w) callerA (.call (.ref fa) ⟨[.ref a], []⟩) (fun r s' => r = .ok (.ret (.bool true)) ∧ OldK s1.heap s'.heap ∧ s'.os = s1.os ∧ AllBare s'.gens) s1 := by
    intro H hO hS hok hA hK
    have noA : ∀ {b : Addr} {o : Obj} {es : Array DictEntry} {ep : Nat}, s1.heap.get? b = some o → o.data = .dict es ep → H b = none := fun {b o es ep} e d => by
      cases q : H b with
      | none => rfl
      | some u =>
        have eb : b = a := hA b (by rw [q]; simp)
        rw [eb, ha] at e
        cases e
        cases (show Data.seq vs.toArray _ = Data.dict es ep from d)
    have nsK : ∀ {b : Addr} {m : Str → Option Value}, s1.heap.Ns b m → (hidT s1.heap H).Ns b m := fun {b m} z => by
      obtain ⟨o, es, ep, e, d, r⟩ := z
      exact ⟨o, es, ep, hidT_get e (noA e d), d, r⟩
    have hKb : K.In (hidT s1.heap H) := fun b o e => hidT_get (KX b o e) (by
      cases q : H b with
      | none => rfl
      | some u =>
        have eb : b = a := hA b (by rw [q]; simp)
        rw [eb, hK (by rw [← eb, q]; simp)] at e
        cases e)
    have hM : Mod K mg (hidT s1.heap H) := by
      obtain ⟨mc, z1, z2⟩ := h4
      exact ⟨hKb, nsK h1, ⟨mb, nsK h2, h3⟩, ⟨mc, nsK z1, z2⟩⟩
    have e0 : Env0 P w K mg (hidT s1.heap H) callerA [] s1 H :=
      ⟨rfl, hM, fun b o e => of_hidT e, Nat.le_of_eq (hidT_size _ _), trivial, fun b hb => absurd (show b ∈ ([] : List Addr) from hb) (by simp), hok, .of_eq h5⟩
    have run := F _ hKb (nsK h1) callerA [] s1 H [.ref a] [.ref a] [] (fun _ => 0) [] [.py (.list (ns.map .int))] (.b true) hh (fun v _ => v = .bl true) hr hgd e0 (.cons rfl .nil)
      (.cons (.py (.lst hS (dqa_ints ns))) .nil) (by simp only [belA, bel, and_self]) lv_nil law (fun ρ' H' v N L b r => by
        cases r with
        | py q => exact q.bool_)
    refine codeAny_mono run fun r s' q => ?_
    cases r with
    | error e => exact q.elim
    | ok fl =>
      cases fl with
      | next => exact False.elim q
      | brk => exact False.elim q
      | cont => exact False.elim q
      | ret u =>
        obtain ⟨v, H', os, bare, un, hok', r', q⟩ := q
        have q' : v = .bl true := q
        subst q'
        obtain rfl : u = Value.bool true := r'
        refine ⟨rfl, OldK.of_keep fun b o e => ?_, os, bare⟩
        cases q : H b with
        | none => exact un.keep b o e q (fun z => absurd (show b ∈ ([] : List Addr) from z) (by simp)) (by simp)
        | some u =>
          rcases hO b with z | ⟨ob, xs, z⟩
          · rw [q] at z
            cases z
          · have z2 := un.frzs b ob _ z
            obtain ⟨e1, _⟩ := hok b _ z
            obtain ⟨e2, _⟩ := hok' b _ z2
            rw [e] at e1
            cases e1
            exact e2
  cases hk : K.lookup a with
  | some o =>
    have e := KX a o hk
    rw [ha] at e
    cases e
    exact core (fun _ => none) (fun _ => .inl rfl) (.inr ⟨vs.toArray, _, hk, by rw [List.size_toArray, lv]; exact hl, by simpa using rv⟩) (fun b u z => nomatch (show (none : Option HO) = some u from z)) (fun b z => absurd rfl z) fun z => absurd rfl z
  | none =>
    refine core (fun b => if b = a then some (.frz { cls := .type "list", data := .seq vs.toArray } (.lst (ns.map V.int))) else none) (fun b => ?_) (.inl ⟨_, if_pos rfl⟩) (fun b u z => ?_) (fun b z => ?_) fun _ => hk
    · by_cases hb : b = a
      · exact .inr ⟨_, _, if_pos hb⟩
      · exact .inl (if_neg hb)
    · by_cases hb : b = a
      · have z' := (if_pos hb).symm.trans z
        cases z'
        subst hb
        exact ⟨ha, by rw [List.length_map]; exact hl, vs, _, rv, ha⟩
      · have z' := (if_neg hb).symm.trans z
        cases z'
    · by_cases hb : b = a
      · exact hb
      · exact absurd (if_neg hb) z
theorem walkZ {l : OpenLaw} {n k : Nat} {q : Program} {loose : List Str} {XP : (Str → Option Value) → Heap → Prop} {YP : World → Heap → Prop} {d : DefRec} {φ : List D → AH → R D}
    (hn : l.most = some n) (hn2 : n ≤ sizeLine) (hdf : d.params.defaults = []) (hr : Room k callerA) (hgd : callerA.guards = some [])
    (F : ∀ (w : World) (mg : Str → Option Value) (fa : Addr) (h : Heap), YP w h → h.Ns mainGlobals mg → mg d.name = some (.ref fa) →
      ∃ K : Frag, K.In h ∧ ∀ base : Heap, K.In base → base.Ns mainGlobals mg → FnS l.prog w K mg base k fa φ)
    (law : ∀ ns : List Int, ns.length ≤ n → ∃ h', φ [.py (.list (ns.map .int))] [] = .ok (.b true) h') :
    WalkO q loose XP YP l.row.toRowW d [] (fun f vs => PySem.call f vs) := by
  refine Att.attach_call hn hdf fun w s0 s1 mg mb fa o pm cd doc a vs ns G Y _ _ _ hmg hobj hints hlen hg => ?_
  obtain ⟨K, KX, hF⟩ := F w mg fa _ Y G.T.g hmg
  exact law_run KX G.T.g G.T.b G.T.builtins G.T.nolimit hg hobj hints (Nat.le_trans hlen hn2) hr hgd hF (law ns hlen)
end Zm
/-! Zm s: set(xs) of a list or a tuple; sorted(set(xs)) of ints. -/
namespace Zm
open PySem PySem.Spec PyProof.Rows L2
/-- a new set as it is laid -/
abbrev sObj (w : World) : Obj := { cls := .type "set", dict := none, data := .set #[] 0 (.fresh 0 0 (!w.params.followText "set-order")) }
section
variable {P : Program} {w : World} {A : Around} {E : Value → Shared → Prop} {s : Shared}
set_option maxHeartbeats 3200000 in
/-- set(xs), by what its loop does -/
theorem set_by {l : Addr} {items : Array Value} {seq : Bool} {T : Heap → Prop} {Q : Value → Shared → Prop} (hl : if seq then s.heap.IsList l items else s.heap.IsTuple l items)
    (loop : ∀ R : Result → Shared → Prop, (∀ (h' : Heap) (tk : Nat), T h' → (∀ b o, s.heap.get? b = some o → h'.get? b = some o) → R (.ok (.ret .none)) { s with heap := h', toks := tk }) →
      codeAny (model P w) A.in1.in1 (.builtin "set.update.loop" ⟨[.ref s.heap.objs.size, .ref (s.heap.push (sObj w)).objs.size], []⟩) R
        { s with heap := (s.heap.push (sObj w)).push { cls := .type (if seq then "list_iterator" else "tuple_iterator"), data := .fields #[.ref l, .int 0 0] } })
    (q : ∀ (h' : Heap) (tk : Nat), T h' → (∀ b o, s.heap.get? b = some o → h'.get? b = some o) → Q (.ref s.heap.objs.size) { s with heap := h', toks := tk }) :
    wpAny (model P w) A (call (.type "set") [.ref l]) Q E s := by
  obtain ⟨c, tl, g0⟩ := F.called_set.mro
  have g1 := F.called_set.made
  have g2 := F.called_set.sub
  refine wpAny_call (codeAny_of_tree ?_)
  show wpAny _ _ (callAny (.type "set") _) _ _ _
  refine wpAny_pure ⟨Code.quiet_builtin _ (by decide +kernel), codeAny_builtin F.entry_type_call ?_⟩
  rw [Around.under_plain (weight_type_call_type "set" [.ref l] []) rfl]
  have g3 := F.called_set.notType
  have g4 := F.called_set.canCreate
  have g5 := F.typeCall_set_1 (.ref l)
  repeat (any_goals (first | assumption | wp_step))
  refine codeAny_mono (code_set_led1 (.ref l) (E := E) (Q₁ := fun u s1 => u = .ref s.heap.objs.size ∧ s1 = { s with heap := s.heap.push (sObj w) }) ⟨rfl, rfl⟩) fun r s1 hr => ?_
  cases r with
  | error e => exact hr
  | ok fl =>
    cases fl with
    | ret u =>
      obtain ⟨rfl, rfl⟩ := hr
      have k1 : (s.heap.push (sObj w)).get? s.heap.objs.size = some (sObj w) := Heap.get?_push_size _ rfl
      have k2 : Shared.TypeIs { s with heap := s.heap.push (sObj w) } (.ref s.heap.objs.size) "set" := ⟨_, k1, rfl⟩
      have k3 := F.called_set.init.lookup
      have k4 := F.called_set.init.bind (.ref s.heap.objs.size)
      repeat (any_goals (first | assumption | wp_step))
      refine codeAny_mono (codeAny_call_builtin (R := wants (fun r s2 => r = .none ∧ ∃ h' tk, s2 = { s with heap := h', toks := tk } ∧ T h' ∧ (∀ b o, s.heap.get? b = some o → h'.get? b = some o)) E)
        F.called_set.init.plain F.entry_set_init (check_set_init_1 k2 ?_)) fun r2 s2 hr2 => ?_
      · cases seq with
        | true =>
          obtain ⟨ol, z1, z2, nl, z3⟩ := (if_pos rfl : (if true = true then s.heap.IsList l items else s.heap.IsTuple l items) = _) ▸ hl
          obtain ⟨oc, od, odt, osl⟩ := ol
          simp only at z2 z3
          subst z2
          subst z3
          have z4 : (s.heap.push (sObj w)).get? l = some { cls := .type "list", dict := od, data := .seq items nl, slots := osl } := Heap.get?_push_of_some _ z1
          have y1 := F.sub_list_set
          have y2 := F.sub_list_frozenset
          have y3 : (Value.type "list" == Value.type "dict") = false := by decide
          have y4 : (s.heap.push (sObj w)).IsList l items := ⟨_, z4, rfl, nl, rfl⟩
          unfold Builtin.«set.__init__» noKeywords Builtin.Frozenset.updateFrom
          generalize hPI : pyIter = PI
          wp_walk
          subst hPI
          refine wpAny_pyIter_list y4 ?_
          refine wpAny_bind (wpAny_runValue ?_)
          refine loop _ fun h' tk t k => ?_
          show wpAny _ _ _ _ _ _
          refine wpAny_pure ?_
          show wpAny _ _ (ret Value.none) _ _ _
          exact wpAny_pure ⟨rfl, h', tk, rfl, t, k⟩
        | false =>
          obtain ⟨ol, z1, z2, nl, z3⟩ := (if_neg Bool.false_ne_true : (if false = true then s.heap.IsList l items else s.heap.IsTuple l items) = _) ▸ hl
          obtain ⟨oc, od, odt, osl⟩ := ol
          simp only at z2 z3
          subst z2
          subst z3
          have z4 : (s.heap.push (sObj w)).get? l = some { cls := .type "tuple", dict := od, data := .seq items nl, slots := osl } := Heap.get?_push_of_some _ z1
          have y1 := F.sub_tuple_set
          have y2 := F.sub_tuple_frozenset
          have y3 : (Value.type "tuple" == Value.type "dict") = false := by decide
          have y4 : (s.heap.push (sObj w)).IsTuple l items := ⟨_, z4, rfl, nl, rfl⟩
          unfold Builtin.«set.__init__» noKeywords Builtin.Frozenset.updateFrom
          generalize hPI : pyIter = PI
          wp_walk
          subst hPI
          refine wpAny_pyIter_tuple y4 ?_
          refine wpAny_bind (wpAny_runValue ?_)
          refine loop _ fun h' tk t k => ?_
          show wpAny _ _ _ _ _ _
          refine wpAny_pure ?_
          show wpAny _ _ (ret Value.none) _ _ _
          exact wpAny_pure ⟨rfl, h', tk, rfl, t, k⟩
      · cases r2 with
        | error e => exact hr2
        | ok fl2 =>
          cases fl2 with
          | ret r =>
            obtain ⟨rfl, h', tk, rfl, t, k⟩ := hr2
            repeat (any_goals (first | assumption | wp_step))
            exact q _ _ t k
          | _ => exact hr2.elim
    | _ => exact hr.elim
end
end Zm
/-! Zm t: sorted(set(xs)) of ints. -/
namespace Zm
open PySem PySem.Spec PyProof.Rows L2
section
variable {P : Program} {w : World} {A : Around} {E : Value → Shared → Prop} {s : Shared}
theorem set_ints {l : Addr} {items : Array Value} {seq : Bool} {ns : List Int} {Q : Value → Shared → Prop} (hh : A.handled = none) (hl : if seq then s.heap.IsList l items else s.heap.IsTuple l items) (hit : IntsAre items.toList ns) (hb : ns.length + 1 < scanBound)
    (q : ∀ (h' : Heap) (tk c : Nat), SetR w h' s.heap.objs.size (fun j => decide (j ∈ ns)) c → c ≤ ns.length → (∀ b o, s.heap.get? b = some o → h'.get? b = some o) → Q (.ref s.heap.objs.size) { s with heap := h', toks := tk }) :
    wpAny (model P w) A (call (.type "set") [.ref l]) Q E s := by
  have hn : items.size = ns.length := by
    have z := IntsAre.length hit
    rwa [Array.length_toList] at z
  have hlS : l < s.heap.objs.size := by
    cases seq with
    | true =>
      obtain ⟨_, z, _⟩ := (show s.heap.IsList l items from hl)
      exact Heap.lt_size z
    | false =>
      obtain ⟨_, z, _⟩ := (show s.heap.IsTuple l items from hl)
      exact Heap.lt_size z
  have e1 : (s.heap.push (sObj w)).objs.size = s.heap.objs.size + 1 := Heap.size_push ..
  have h3 : A.in1.in1.in1.handled = none := by simp [hh]
  have nI : l ≠ (s.heap.push (sObj w)).objs.size := by
    rw [e1]
    exact Nat.ne_of_lt (Nat.lt_succ_of_lt hlS)
  have nS : s.heap.objs.size ∉ [(s.heap.push (sObj w)).objs.size, l] := by
    rw [e1]
    simp only [List.mem_cons, List.not_mem_nil, or_false, not_or]
    exact ⟨Nat.ne_of_lt (Nat.lt_succ_self _), Nat.ne_of_gt hlS⟩
  have hval : ∀ (i : Nat) (v : Value), items[i]? = some v → ∃ k t, ns[i]? = some k ∧ v = .int k t := fun i v hv => by
    have hi : i < ns.length := by
      rw [← hn]
      exact (Array.getElem?_eq_some_iff.mp hv).1
    obtain ⟨t, e⟩ := PyProof.Rows.IntsAre.int_at hit i v (by rw [Array.getElem?_toList]; exact hv)
    refine ⟨ns[i], t, List.getElem?_eq_getElem hi, ?_⟩
    rw [e, List.getD_eq_getElem?_getD, List.getElem?_eq_getElem hi] <;> rfl
  have fin : ∀ {R : Result → Shared → Prop}, (∀ (h' : Heap) (tk : Nat), (∃ c, SetR w h' s.heap.objs.size (fun j => decide (j ∈ ns)) c ∧ c ≤ ns.length) → (∀ b o, s.heap.get? b = some o → h'.get? b = some o) → R (.ok (.ret .none)) { s with heap := h', toks := tk }) →
      ∀ {wr : List Addr} {u : Obj}, (∀ b ∈ wr, b = (s.heap.push (sObj w)).objs.size) → ∀ (s' : Shared) (c : Nat), Moved (s.heap.objs.size :: wr) (fun a b => b = a) { s with heap := (s.heap.push (sObj w)).push u } s' → c ≤ ns.length → SetR w s'.heap s.heap.objs.size (fun j => decide (j ∈ ns)) c → R (.ok (.ret .none)) s' :=
    fun {R} hR {wr u} hwr s' c hm hc hS => by
      obtain ⟨h', g2, d', tk', os'⟩ := s'
      have eg : g2 = s.gens := hm.gens
      have ed : d' = s.drawn := hm.drawn
      have eo : os' = s.os := hm.os
      subst eg ed eo
      refine hR h' tk' ⟨c, hS, hc⟩ fun b o e => ?_
      have hb0 : b < s.heap.objs.size := Heap.lt_size e
      refine hm.heap b o (fun z => ?_) (Heap.get?_push_of_some _ (Heap.get?_push_of_some _ e))
      rcases List.mem_cons.mp z with z | z
      · exact absurd hb0 (by rw [z]; exact Nat.lt_irrefl _)
      · have y := hwr b z
        rw [e1] at y
        exact absurd hb0 (by rw [y]; exact Nat.not_lt_of_lt (Nat.lt_succ_self _))
  refine set_by (T := fun h' => ∃ c, SetR w h' s.heap.objs.size (fun j => decide (j ∈ ns)) c ∧ c ≤ ns.length) hl (fun R hR => ?_) fun h' tk t k => ?_
  · cases seq with
    | true =>
      have y4 : (s.heap.push (sObj w)).IsList l items := (show s.heap.IsList l items from hl).push _
      refine set_update_ints ((Walks.list h3 _ l nI items).toS) s.heap.objs.size nS ns hn hb hval (items.size - 0) 0 _ (by omega) (Nat.zero_le _) ⟨⟨_, Heap.get?_push_size _ rfl, rfl, rfl⟩, y4.push _⟩ ⟨0, Nat.le_refl 0, setR_new_at ?_⟩ fun s' c hm hc hS => ?_
      · exact Heap.get?_push_of_some _ (Heap.get?_push_size _ rfl)
      · exact fin hR (fun b z => List.mem_singleton.mp z) s' c hm (by omega) hS
    | false =>
      have y4 : (s.heap.push (sObj w)).IsTuple l items := (show s.heap.IsTuple l items from hl).push _
      refine set_update_ints ((Walks.tuple h3 _ l nI items).toS) s.heap.objs.size nS ns hn hb hval (items.size - 0) 0 _ (by omega) (Nat.zero_le _) ⟨⟨_, Heap.get?_push_size _ rfl, rfl, rfl⟩, y4.push _⟩ ⟨0, Nat.le_refl 0, setR_new_at ?_⟩ fun s' c hm hc hS => ?_
      · exact Heap.get?_push_of_some _ (Heap.get?_push_size _ rfl)
      · exact fin hR (fun b z => List.mem_singleton.mp z) s' c hm (by omega) hS
  · obtain ⟨c, hS, hc⟩ := t
    exact q h' tk c hS hc k
end
section
variable {X : Cx}
/-- set(xs) of ints: the set is known to the object -/
theorem cr_setInts (hc : X.calm = true) : CallR X (.type "set") (fun xs H Q => ∃ (a : Addr) (ns : List Int), xs = [.ref a] ∧ (SqL X.K H a (ns.map V.int) ∨ SqT X.K H a (ns.map V.int)) ∧ ns.length < 60 ∧
    ∀ p c, H p = none → c ≤ ns.length → Q (.ref p) (upd H p (SetO X.w p (fun j => decide (j ∈ ns)) c))) := by
  intro pins s σ H xs us Q I r z
  obtain ⟨a, ns, rfl, hs, hl, q⟩ := z
  rw [Vals.ref1 r]
  have fin : ∀ (items : Array Value) (seq : Bool), (if seq then s.heap.IsList a items else s.heap.IsTuple a items) → IntsAre items.toList ns → wpAny (model X.prog X.w) X.A (call (.type "set") [.ref a]) (EP X pins σ Q) X.xe s := fun items seq h1 h2 =>
    set_ints (I.ok.hd hc) h1 h2 (by unfold scanBound; omega) fun h' tk c hS hc k => ⟨.ref _, _, I.laid (t' := tk) k (Nat.le_refl _) (setO_new hS), rfl, q _ c (I.hok.fresh (Nat.le_refl _)) hc⟩
  rcases hs with hs | hs
  · obtain ⟨its, rv, pl, _⟩ := I.list hs
    exact fin its.toArray true pl.isList (by simpa using rv.ints)
  · obtain ⟨its, rv, pl, _⟩ := I.tuple hs
    exact fin its.toArray false pl (by simpa using rv.ints)
end
end Zm
/-! Zm 17: new live lists; what else there is of statements. -/
namespace Zm
open PySem PySem.Spec PyProof.Rows L2
section
variable {Γ : Ga} {a b c e t r : E} {xa xb xc xe tg : Expr} {xs : List Expr} {pos p2 p3 : Pos} {x : Str}
theorem mul_list {p q : PyData} {ps : List PyData} (h : binP .Mult p q = some (.list ps)) :
    ∃ u k, p = .list u ∧ q = .int k ∧ (decide (0 ≤ k) && decide (k ≤ 1000) && decide (u.length ≤ 1000)) = true ∧ ps = (List.replicate k.toNat u).flatten := by
  cases p <;> cases q <;> simp only [binP] at h <;> first | (cases h; done) | skip
  · split at h <;> cases h
  · split at h
    · rename_i u k hs
      simp only [Option.some.injEq, PyData.list.injEq] at h
      exact ⟨u, k, rfl, rfl, hs, h.symm⟩
    · cases h
  · split at h <;> cases h
theorem se_rep (ha : SE Γ a xa) (hb : SE Γ b xb) : SE Γ (.rep a b) (.BinOp xa .Mult xb pos) := by
  refine ⟨?_⟩
  intro C X G pr ρ H h σ τ Q d h1 S L e P
  simp only [ev] at e
  obtain ⟨x, h2, e1, e⟩ := R.bind_eq e
  obtain ⟨y, h3, e2, e⟩ := R.bind_eq e
  split at e
  rotate_left
  · cases e
  rename_i ps hps
  cases e
  unfold binD at hps
  split at hps
  rotate_left
  · cases hps
  rename_i p q hp hq
  split at hps
  rotate_left
  · cases hps
  rename_i w hw
  cases hps
  obtain ⟨u, k, rfl, rfl, hs, rfl⟩ := mul_list hw
  obtain ⟨h5, h6⟩ := Bool.and_eq_true_iff.mp hs
  obtain ⟨h7, h8⟩ := Bool.and_eq_true_iff.mp h5
  have h6 := of_decide_eq_true h6
  have h7 := of_decide_eq_true h7
  have h8 := of_decide_eq_true h8
  refine we_of (pe_op op_w2 pe_we pe_we) (ha.run C X G _ _ _ _ _ _ _ _ _ S L e1 fun ρ1 H1 v N1 L1 b1 r1 => hb.run C X G _ _ _ _ _ _ _ _ _ (S.nx N1) L1 e2 fun ρ2 H2 w N2 L2 b2 r2 => ?_)
  obtain ⟨pa, xs, rfl, g1, g2⟩ := rd_list hp L2 (r1.nx N2 b1)
  have ew : w = .int k := (rd_at hq (fun _ z => by cases z) r2).int_
  refine w2_of op_repL ⟨pa, k, xs, rfl, ew, g1, by omega, by omega, ?_, fun p hp => ?_⟩
  · rw [← g2.length]
    have : u.length * k.toNat ≤ 1000 * 1000 := Nat.mul_le_mul h6 (by omega)
    exact Nat.le_trans this lim_line
  · obtain ⟨ρ3, N3, L3, e3⟩ := L2.alloc hp (belA_py _ _) (RvA.of_py (g2.rep k.toNat))
    exact P ρ3 _ _ ((N1.trans N2).trans N3) L3 (by simp only [bel, List.length_append, List.length_singleton]; omega) (e3 ▸ .obj _)
theorem list_new {qs : List PyData} {ps : List PyData} (h : biP .list qs = some (.list ps)) : qs = [.tuple ps] ∨ qs = [.list ps] := by
  match qs, h with
  | [], h => simp [biP] at h
  | [.tuple us], h =>
    simp only [biP, Option.some.injEq, PyData.list.injEq] at h
    exact .inl (by rw [h])
  | [.list us], h =>
    simp only [biP, Option.some.injEq, PyData.list.injEq] at h
    exact .inr (by rw [h])
  | [.none], h => simp [biP] at h
  | [.bool _], h => simp [biP] at h
  | [.int _], h => simp [biP] at h
  | [.str _], h => simp [biP] at h
  | [.dict _], h => simp [biP] at h
  | _ :: _ :: _, h => simp [biP] at h
theorem sorted_new {qs : List PyData} {ps : List PyData} (h : biP .sorted qs = some (.list ps)) : ∃ p us, qs = [p] ∧ seqP p = some us ∧ sortOk us = true ∧ ps = sortP us := by
  match qs, h with
  | [], h => simp [biP] at h
  | [p], h =>
    simp only [biP] at h
    split at h
    rotate_left
    · cases h
    rename_i us hus
    split at h
    rotate_left
    · cases h
    rename_i ok
    simp only [Option.some.injEq, PyData.list.injEq] at h
    exact ⟨p, us, rfl, hus, ok, h.symm⟩
  | _ :: _ :: _, h => simp [biP] at h
/-- a built-in function that gives a new list -/
theorem bi_new {X : Cx} {pr : List (Addr × HO)} {ρ : Nat → Addr} {H : Hp} {h : AH} {Q : VK} {B : Bi} {ds : List D} {ps : List PyData} {vs : List V} (G : Gd X) (hB : B = .list ∨ B = .sorted) (L : Lv X.K pr ρ H h) (ra : RvA X.K ρ H ds vs) (e : biD h B ds = some (.py (.list ps)))
    (P : ∀ p ys, H p = none → DqA X.K H ps ys → Q (.ref p) (upd H p (.lst ys))) : WC X (biV B) vs H Q := by
  unfold biD at e
  split at e
  rotate_left
  · cases e
  rename_i qs hqs
  split at e
  rotate_left
  · cases e
  rename_i q hq
  cases e
  rcases hB with rfl | rfl
  · rcases list_new hq with rfl | rfl
    · obtain ⟨d, rfl, h1⟩ := toPys1 hqs
      obtain ⟨v, rfl, rv⟩ := rvA1 ra
      obtain ⟨a, ys, rfl, h2, h3⟩ := (rd_at h1 (fun _ w => by cases w) rv).tuple_
      exact wc_of call_list_of ⟨a, ys, rfl, .inr h2, fun l hl => P l ys hl h3⟩
    · obtain ⟨d, rfl, h1⟩ := toPys1 hqs
      obtain ⟨v, rfl, rv⟩ := rvA1 ra
      obtain ⟨a, ys, rfl, h2, h3⟩ := rd_list h1 L rv
      exact wc_of call_list_of ⟨a, ys, rfl, .inl h2.sq, fun l hl => P l ys hl h3⟩
  · obtain ⟨p, us, rfl, hus, ok, rfl⟩ := sorted_new hq
    obtain ⟨d, rfl, h1⟩ := toPys1 hqs
    obtain ⟨v, rfl, rv⟩ := rvA1 ra
    refine wc_of (cr_sortD G) ?_
    rcases seqP_cases hus with rfl | rfl
    · obtain ⟨a, ys, rfl, h2, h3⟩ := (rd_at h1 (fun _ w => by cases w) rv).tuple_
      exact ⟨a, ys, _, rfl, .inr h2, h3, ok, fun p zs hp hz => P p zs hp hz⟩
    · obtain ⟨a, ys, rfl, h2, h3⟩ := rd_list h1 L rv
      exact ⟨a, ys, _, rfl, .inl h2, h3, ok, fun p zs hp hz => P p zs hp hz⟩
theorem live_ok {C : Orc} {X : Cx} {pr : List (Addr × HO)} {ρ : Nat → Addr} {H : Hp} {h : AH} {Q : VK} {B : Bi} {ds : List D} {vs : List V} {d : D} {h1 : AH} (G : Gd X) (hB : B = .list ∨ B = .sorted) (L : Lv X.K pr ρ H h) (ra : RvA X.K ρ H ds vs)
    (e : (match biD h B ds with
      | some (.py (.list ps)) => R.ok (D.obj h.length) (h ++ [O.lst (ps.map .py)])
      | _ => .stuck) = .ok d h1) (P : Post X.K pr ρ H h d h1 Q) : WC X (biV B) vs H Q := by
  split at e
  rotate_left
  · cases e
  rename_i ps hps
  cases e
  refine bi_new G hB L ra hps fun p ys hp hy => ?_
  obtain ⟨ρ3, N3, L3, e3⟩ := L.alloc hp (belA_py _ _) (RvA.of_py hy)
  exact P ρ3 _ _ N3 L3 (by simp only [bel, List.length_append, List.length_singleton]; omega) (e3 ▸ .obj _)
theorem se_liveList (ha : SA Γ r (xa :: xs)) (hg : glB Γ.sc "list" = true) (hs : NoStar xa xs) (hpl : NoStars pos xs) : SE Γ (.live .list r) (.Call (.Name "list" p2) (xa :: xs) [] pos) := by
  refine ⟨?_⟩
  intro C X G pr ρ H h σ τ Q d h1 S L e P
  simp only [ev] at e
  obtain ⟨ds, h2, e1, e⟩ := R.bind_eq e
  exact we_of (pe_callTy (callR_wc (f := .type "list")) (glB_ok hg G.sc) (G.bl _ (mem_bl (by decide +kernel))) (by rfl) pa_wa (by decide) (by decide) (hs X.env) (hpl X.env)) (ha.run C X G _ _ _ _ _ _ _ _ _ S L e1 fun ρ1 H1 vs N1 L1 b1 r1 _ => live_ok (C := C) (B := .list) G.gd (.inl rfl) L1 r1 e (P.nx N1))
theorem se_liveSorted (ha : SA Γ r (xa :: xs)) (hg : glB Γ.sc "sorted" = true) (hs : NoStar xa xs) (hpl : NoStars pos xs) : SE Γ (.live .sorted r) (.Call (.Name "sorted" p2) (xa :: xs) [] pos) := by
  refine ⟨?_⟩
  intro C X G pr ρ H h σ τ Q d h1 S L e P
  simp only [ev] at e
  obtain ⟨ds, h2, e1, e⟩ := R.bind_eq e
  exact we_of (pe_callB (callR_wc (f := .builtin "sorted")) (glB_ok hg G.sc) (G.bl _ (mem_bl (by decide +kernel))) (by rfl) pa_wa (by decide) (by decide) (hs X.env) (hpl X.env)) (ha.run C X G _ _ _ _ _ _ _ _ _ S L e1 fun ρ1 H1 vs N1 L1 b1 r1 _ => live_ok (C := C) (B := .sorted) G.gd (.inr rfl) L1 r1 e (P.nx N1))
theorem ss_retN : SS Γ (.ret (.lit .none)) (.Return none pos) := by
  refine ⟨?_⟩
  intro C X G pr ρ H h σ τ D o h1 S L ee P
  simp only [ex, ev, R.bind_ok] at ee
  cases ee
  exact ws_of ps_retN (P ρ H _ Nx.refl L (by simp only [bel]) (.py .non))
theorem ss_pass : SS Γ (.expr (.lit .none)) (.Pass pos) := by
  refine ⟨?_⟩
  intro C X G pr ρ H h σ τ D o h1 S L ee P
  simp only [ex, ev, R.bind_ok] at ee
  cases ee
  exact ws_of ps_pass (P ρ H _ Nx.refl L S)
/-! ### sorted(set(xs)) of ints -/
theorem mem_insI (x y : Int) : ∀ l : List Int, y ∈ insI x l ↔ y = x ∨ y ∈ l
  | [] => by simp [insI]
  | z :: r => by
    unfold insI
    split
    · simp
    · split
      · rename_i h
        subst h
        simp
      · rw [List.mem_cons, List.mem_cons, mem_insI x y r]
        constructor
        · rintro (h | h | h)
          · exact .inr (.inl h)
          · exact .inl h
          · exact .inr (.inr h)
        · rintro (h | h | h)
          · exact .inr (.inl h)
          · exact .inl h
          · exact .inr (.inr h)
theorem mem_ssetI (y : Int) : ∀ l : List Int, y ∈ ssetI l ↔ y ∈ l
  | [] => by simp [ssetI]
  | x :: r => by rw [ssetI, mem_insI, mem_ssetI y r, List.mem_cons]
theorem insI_lt (x : Int) : ∀ l : List Int, l.Pairwise (· < ·) → (insI x l).Pairwise (· < ·)
  | [], _ => by simp [insI]
  | z :: r, h => by
    obtain ⟨h1, h2⟩ := List.pairwise_cons.mp h
    unfold insI
    split
    · rename_i q
      refine List.pairwise_cons.mpr ⟨fun y hy => ?_, h⟩
      rcases List.mem_cons.mp hy with rfl | hy
      · exact q
      · have := h1 y hy
        omega
    · split
      · exact h
      · rename_i q1 q2
        refine List.pairwise_cons.mpr ⟨fun y hy => ?_, insI_lt x r h2⟩
        rcases (mem_insI x y r).mp hy with rfl | hy
        · omega
        · exact h1 y hy
theorem ssetI_lt : ∀ l : List Int, (ssetI l).Pairwise (· < ·)
  | [] => .nil
  | x :: r => insI_lt x _ (ssetI_lt r)
theorem lt_unique : ∀ {a b : List Int}, a.Pairwise (· < ·) → b.Pairwise (· < ·) → (∀ k, k ∈ a ↔ k ∈ b) → a = b
  | [], [], _, _, _ => rfl
  | [], y :: b, _, _, h => by simpa using (h y).mpr List.mem_cons_self
  | x :: a, [], _, _, h => by simpa using (h x).mp List.mem_cons_self
  | x :: a, y :: b, h1, h2, h => by
    obtain ⟨p1, p2⟩ := List.pairwise_cons.mp h1
    obtain ⟨q1, q2⟩ := List.pairwise_cons.mp h2
    have exy : x = y := by
      rcases List.mem_cons.mp ((h x).mp List.mem_cons_self) with e | e
      · exact e
      · rcases List.mem_cons.mp ((h y).mpr List.mem_cons_self) with e' | e'
        · exact e'.symm
        · have := q1 x e
          have := p1 y e'
          omega
    subst exy
    rw [lt_unique p2 q2 fun k => ?_]
    constructor
    · intro hk
      rcases List.mem_cons.mp ((h k).mp (List.mem_cons_of_mem _ hk)) with e | e
      · have := p1 k hk
        omega
      · exact e
    · intro hk
      rcases List.mem_cons.mp ((h k).mpr (List.mem_cons_of_mem _ hk)) with e | e
      · have := q1 k hk
        omega
      · exact e
theorem dqa_ints' {K : PySem.W.Frag} {H : Hp} : ∀ ns : List Int, DqA K H (ns.map .int) (ns.map V.int) := dqa_ints
theorem se_sset {pi : Pos} (ha : SA Γ r (xa :: xs)) (hg : glB Γ.sc "sorted" = true) (hg2 : glB Γ.sc "set" = true) (hs : NoStar (.Call (.Name "set" p3) (xa :: xs) [] pi) []) (hpl : NoStars pos []) (hs2 : NoStar xa xs) (hpl2 : NoStars pi xs) :
    SE Γ (.sset r) (.Call (.Name "sorted" p2) [.Call (.Name "set" p3) (xa :: xs) [] pi] [] pos) := by
  refine ⟨?_⟩
  intro C X G pr ρ H h σ τ Q d h1 S L e P
  simp only [ev] at e
  obtain ⟨ds, h2, e1, e⟩ := R.bind_eq e
  obtain ⟨e2, rfl⟩ := rO_eq e
  split at e2
  rotate_left
  · cases e2
  rename_i ps hps
  obtain ⟨q, e3, e4⟩ := Option.map_eq_some_iff.mp e2
  subst e4
  unfold ssetP at e3
  split at e3
  rotate_left
  · cases e3
  rename_i p
  split at e3
  rotate_left
  · cases e3
  rename_i us hus
  split at e3
  rotate_left
  · cases e3
  rename_i ns hns
  split at e3
  rotate_left
  · cases e3
  rename_i hl
  cases e3
  refine we_frz (we_of (pe_callB (cr_sortedSet G.gd.calm) (glB_ok hg G.sc) (G.bl _ (mem_bl (by decide +kernel))) (by rfl) (pa_cons (pe_callTy (cr_setInts G.gd.calm) (glB_ok hg2 G.sc) (G.bl _ (mem_bl (by decide +kernel))) (by rfl) pa_wa (by decide) (by decide) (hs2 X.env) (hpl2 X.env)) pa_nil (hs X.env)) (by decide) (by decide) (hs X.env) (hpl X.env))
    (ha.run C X G _ _ _ _ _ _ _ _ _ S L e1 fun ρ1 H1 vs N1 L1 b1 r1 _ => ?_))
  obtain ⟨d, rfl, h3⟩ := toPys1 hps
  obtain ⟨v, rfl, rv⟩ := rvA1 r1
  have fin : ∀ (a : Addr) (ys : List V), v = .ref a → (SqL X.K H1 a ys ∨ SqT X.K H1 a ys) → DqA X.K H1 us ys → ∃ (a : Addr) (ms : List Int), [v] = [V.ref a] ∧ (SqL X.K H1 a (ms.map V.int) ∨ SqT X.K H1 a (ms.map V.int)) ∧ ms.length < 60 ∧
      ∀ p c, H1 p = none → c ≤ ms.length → ∃ (a2 : Addr) (S : Int → Bool) (n : Nat), [V.ref p] = [V.ref a2] ∧ (upd H1 p (SetO X.w p (fun j => decide (j ∈ ms)) c)) a2 = some (SetO X.w a2 S n) ∧ n < 64 ∧
        ∀ (ks : List Int) (p2 : Addr), ks.Pairwise (· < ·) → (∀ k : Int, k ∈ ks ↔ S k = true) → ks.length = n → (upd H1 p (SetO X.w p (fun j => decide (j ∈ ms)) c)) p2 = none → Fz Q (.ref p2) (upd (upd H1 p (SetO X.w p (fun j => decide (j ∈ ms)) c)) p2 (.lst (ks.map V.int))) := by
    intro a ys ev1 hsq hd
    refine ⟨a, ns, by rw [ev1], by rw [← intL_v hns hd]; exact hsq, hl, fun p c hp hc => ⟨p, _, c, rfl, upd_same, by omega, fun ks p2 k1 k2 k3 hp2 => ?_⟩⟩
    have ek : ks = ssetI ns := lt_unique k1 (ssetI_lt ns) fun k => by
      rw [k2 k, mem_ssetI]
      simp
    rw [ek]
    have N2 : Nx ρ1 H1 h1 ρ1 (upd H1 p (SetO X.w p (fun j => decide (j ∈ ns)) c)) h1 := ⟨Ext.new hp, fun _ _ => rfl, Nat.le_refl _⟩
    exact (P.nx (N1.trans N2)).lstN (L1.new hp) (dqa_ints _) hp2
  rcases seqP_cases hus with rfl | rfl
  · obtain ⟨a, ys, e5, g1, g2⟩ := (rd_at h3 (fun _ z => by cases z) rv).tuple_
    exact fin a ys e5 (.inr g1) g2
  · obtain ⟨a, ys, e5, g1, g2⟩ := rd_list h3 L1 rv
    exact fin a ys e5 (.inl g1.sq) g2
end
end Zm
/-! Zm d: dicts of plain values that are never written. -/
namespace Zm
open PySem PySem.Spec PyProof.Rows L2
section
variable {X : Cx} {pins : List (Addr × Obj)} {σ : L2.St} {H : Hp} {s : Shared}
theorem Inv.freezeD {a : Addr} {ks : List (Key × V)} (I : Inv X pins σ H s) (e : H a = some (.dK ks)) : ∃ o, Inv X pins σ (upd H a (.frz o (.dK ks))) s := by
  obtain ⟨z, hd, vs, rel, dd⟩ := (show ObjOk X.prog X.w H s.heap a (.dK ks) from I.hok a _ e)
  have dd' := dd
  obtain ⟨ob, es, ep, e1, _⟩ := dd
  refine ⟨ob, I.ok, I.os, I.bare, ⟨I.base.keep, I.base.slot, fun b o q n0 hx => ?_, I.base.there, fun b xs q => ?_, fun b o u q => ?_, fun b ps q => ?_⟩, I.loc, I.cell, ?_, fun x c q => ?_, fun p hp => ?_, fun b u q => ?_, I.len⟩
  · have q2 := I.base.free b o q n0 hx
    rw [upd_ne fun z => by rw [z, e] at q2; cases q2]
    exact q2
  · have q2 := I.base.tups b xs q
    rw [upd_ne (ne_of q2 e fun z => by cases z)]
    exact q2
  · have q2 := I.base.frzs b o u q
    rw [upd_ne (ne_of q2 e fun z => by cases z)]
    exact q2
  · obtain ⟨more, q2⟩ := I.base.tbls b ps q
    exact ⟨more, by rw [upd_ne (ne_of q2 e fun z => by cases z)]; exact q2⟩
  · have q2 := I.free
    rw [upd_ne fun z => by rw [z, e] at q2; cases q2]
    exact q2
  · have q2 := I.freeC x c q
    rw [upd_ne fun z => by rw [z, e] at q2; cases q2]
    exact q2
  · obtain ⟨p1, p2, p3⟩ := I.pin p hp
    exact ⟨p1, by rw [upd_ne fun z => by rw [z, e] at p2; cases p2]; exact p2, p3⟩
  · by_cases hb : b = a
    · subst hb
      rw [upd_same] at q
      cases q
      exact ⟨e1, z, hd, vs, rel, dd'⟩
    · rw [upd_ne hb] at q
      exact (I.hok b u q).stay (fun c v _ z => z) (fun c z => by rw [upd_ne (ne_of z e fun z => by cases z)]; exact z) fun c ys z => by
        rw [upd_ne (ne_of z e fun z => by cases z)]
        exact z
def FzD (Q : VK) : VK := fun v H => ∃ a ks, v = .ref a ∧ H a = some (.dK ks) ∧ ∀ o, Q v (upd H a (.frz o (.dK ks)))
theorem ep_frzD {Q : VK} {u : Value} (h : EP X pins σ (FzD Q) u s) : EP X pins σ Q u s := by
  obtain ⟨v, H', I, r, a, xs, rfl, e, q⟩ := h
  obtain ⟨o, I2⟩ := Inv.freezeD I e
  exact ⟨_, _, I2, r, q o⟩
theorem we_frzD {e : Expr} {Q : VK} (h : WE X e σ H (FzD Q)) : WE X e σ H Q := fun pins s I => thn (h pins s I) fun _ _ q => ep_frzD q
end
section
variable {K : PySem.W.Frag} {pr : List (Addr × HO)} {ρ : Nat → Addr} {H : Hp} {h h1 : AH} {Q : VK}
theorem Post.dctN {kvs : List (PyData × PyData)} {ks : List (Key × V)} {p : Addr} (P : Post K pr ρ H h (.py (.dict kvs)) h Q) (L : Lv K pr ρ H h) (r : dkV kvs = some ks) (hp : H p = none) : FzD Q (.ref p) (upd H p (.dK ks)) := by
  refine ⟨p, ks, rfl, upd_same, fun o => ?_⟩
  rw [upd_upd]
  exact P ρ _ _ ⟨Ext.new hp, fun _ _ => rfl, Nat.le_refl _⟩ (L.new hp) (by simp only [bel]) (.py (.dct ⟨o, upd_same⟩ r))
end
section
variable {Γ : Ga} {pos p1 p2 : Pos} {j1 j2 : Nat}
theorem se_dct0 : SE Γ (.dct []) (.Dict [] [] pos) := by
  refine ⟨?_⟩
  intro C X G pr ρ H h σ τ Q d h1 S L e P
  simp only [ev] at e
  cases e
  exact we_frzD (we_of pe_dnewK fun p hp => Post.dctN P L rfl hp)
theorem se_dct1 {m n : Int} : SE Γ (.dct [(.int m, .int n)]) (.Dict [some (.Constant (.int m) j1 p1)] [.Constant (.int n) j2 p2] pos) := by
  refine ⟨?_⟩
  intro C X G pr ρ H h σ τ Q d h1 S L e P
  simp only [ev] at e
  cases e
  refine we_frzD (we_of (pe_disp (pps_cons pe_int pe_int pps_nil) rfl rfl (by simp) (by simp)) fun p hp => ?_)
  show _ ∧ ∃ kvs : List (Key × V), _ ∧ _ ∧ _
  refine ⟨upd_same, [(.inl m, .int n)], rfl, by simp, ?_⟩
  rw [upd_upd]
  exact Post.dctN P L rfl hp
end
end Zm
/-! Zm r: turned-about rows, by a slice of step -1. -/
namespace Zm
open PySem PySem.Spec PyProof.Rows L2
section
variable {prog : Program} {w : World} {A : Around} {E : Value → Shared → Prop} {s : Shared}
theorem applied_rev {sl : Addr} {vs : Value} {n : Nat} {Q : Int × Int × Nat → Shared → Prop} (hs : s.heap.IsSliceOf sl .none .none vs) (ps : IsPart vs (some (-1)))
    (h : Q ((n : Int) - 1, -1, n) s) : wpAny (model prog w) A (Builtin.Slice.sliceApplied (.ref sl) (pure (n : Int))) Q E s := by
  obtain ⟨os, hos, hcs, hds⟩ := id hs
  unfold Builtin.Slice.sliceApplied Builtin.Slice.sliceFields
  refine wpAny_bind (wpAny_bind (wpAny_field hos hds (x := .none) rfl (wpAny_bind (wpAny_field hos hds (x := .none) rfl (wpAny_bind (wpAny_field hos hds (x := vs) rfl (wpAny_pure ?_)))))))
  refine wpAny_bind (HT.slicePart_ ps ?_)
  show wpAny _ _ (if ((-1 : Int) == 0) = true then _ else _) _ _ s
  rw [if_neg (by decide)]
  refine wpAny_bind (HT.slicePart_ IsPart.none (wpAny_bind (HT.slicePart_ IsPart.none (wpAny_bind (wpAny_pure ?_)))))
  have ha : Builtin.Slice.sliceAdjust none none (-1) (n : Int) = ((n : Int) - 1, -1) := rfl
  show wpAny _ _ (match Builtin.Slice.sliceAdjust none none (-1) (n : Int) with | (lo, hi) => pure (lo, (-1 : Int), Builtin.Slice.slicePlaces lo hi (-1))) _ _ s
  rw [ha]
  have hp : Builtin.Slice.slicePlaces ((n : Int) - 1) (-1) (-1) = n := by
    unfold Builtin.Slice.slicePlaces
    rw [if_neg (by decide)]
    by_cases h0 : n = 0
    · subst h0
      decide
    · rw [if_pos (by omega)]
      have e : ((n : Int) - 1 - -1 - 1) / (- -1) + 1 = n := by
        have : (- -1 : Int) = 1 := by decide
        rw [this, Int.ediv_one]
        omega
      rw [e]
      exact Int.toNat_natCast n
  show wpAny _ _ (pure ((n : Int) - 1, (-1 : Int), Builtin.Slice.slicePlaces ((n : Int) - 1) (-1) (-1))) _ _ s
  rw [hp]
  exact wpAny_pure h
theorem fm_congr {f g : Nat → Option Value} : ∀ l : List Nat, (∀ m ∈ l, f m = g m) → l.filterMap f = l.filterMap g
  | [], _ => rfl
  | m :: r, h => by
    rw [List.filterMap_cons, List.filterMap_cons, h m List.mem_cons_self, fm_congr r fun k hk => h k (List.mem_cons_of_mem _ hk)]
theorem pick_rev (xs : Array Value) : ((List.range xs.size).filterMap fun (m : Nat) => xs[(((xs.size : Nat) : Int) - 1 + (m : Int) * -1).toNat]?).toArray = xs.toList.reverse.toArray := by
  congr 1
  have e : ∀ m ∈ List.range xs.size, xs[(((xs.size : Nat) : Int) - 1 + (m : Int) * -1).toNat]? = xs.toList.reverse[m]? := fun m hm => by
    rw [List.mem_range] at hm
    have e1 : (((xs.size : Nat) : Int) - 1 + (m : Int) * -1).toNat = xs.size - 1 - m := by omega
    rw [e1, List.getElem?_reverse (by simpa using hm), Array.length_toList, ← Array.getElem?_toList]
  rw [fm_congr _ e]
  have key : ∀ ys : List Value, (List.range ys.length).filterMap (fun m => ys[m]?) = ys := by
    intro ys
    refine List.ext_getElem? fun i => ?_
    have : (List.range ys.length).filterMap (fun m => ys[m]?) = (List.range ys.length).filterMap (fun m => some (ys.getD m .none)) := by
      refine fm_congr _ fun m hm => ?_
      rw [List.mem_range] at hm
      simp [hm]
    rw [this, List.filterMap_eq_map']
    rw [List.getElem?_map]
    by_cases h : i < ys.length
    · simp [h]
    · simp [h]
  have := key xs.toList.reverse
  rw [List.length_reverse, Array.length_toList] at this
  exact this
theorem getItem_tuple_rev {t sl : Addr} {items : Array Value} {vs : Value} {Q : Value → Shared → Prop} (ht : IsTup s.heap t items) (hs : s.heap.IsSliceOf sl .none .none vs) (ps : IsPart vs (some (-1)))
    (h : Q (.ref s.heap.objs.size) { s with heap := s.heap.push { cls := .type "tuple", data := .seq items.toList.reverse.toArray } })
    (hsz : items.size ≤ sizeLine) : wpAny (model prog w) A (getItem (.ref t) (.ref sl)) Q E s := by
  have htake : sizeOk (.seq items.toList.reverse.toArray) := by
    show items.toList.reverse.toArray.size ≤ sizeLine
    rw [List.size_toArray, List.length_reverse, Array.length_toList]
    exact hsz
  obtain ⟨os, hos, hcs, hds⟩ := id hs
  have hTs : s.TypeIs (.ref sl) "slice" := ⟨os, hos, hcs⟩
  unfold getItem
  try with_reducible refine wpAny_holding ?_
  first | refine wpAny_bind (wpAny_pure ?_) | skip
  refine wpAny_bind (wpAny_sequenceKey ht.typeIs (by decide) ?_)
  refine wpAny_bind (wpAny_callSpecial?_slot (name := Str.ofString "__getitem__") ht.typeIs PyProof.Rows.slot_tuple_getitem
    (wpAny_call_entry PyProof.Rows.slot_tuple_getitem ht.typeIs entry_tuple_getitem ?_ (args_tuple_getitem _ _)))
  show wpAny _ _ (Builtin.Tuple.tupleItemsOf (.ref t) >>= _) _ _ s
  refine wpAny_bind (tupleItemsOf_ ht ?_)
  refine wpAny_bind (wpAny_typeOf hTs ?_)
  rw [if_pos (by decide)]
  refine wpAny_bind (applied_rev hs ps ?_)
  have hno : ¬ ((((items.size : Nat) : Int) - 1 == 0 && (-1 : Int) == 1 && items.size == items.size) = true) := by
    rw [Bool.and_eq_true, Bool.and_eq_true]
    intro q
    exact absurd q.1.2 (by decide)
  show wpAny _ _ (if (((items.size : Nat) : Int) - 1 == 0 && (-1 : Int) == 1 && items.size == items.size) = true then _ else _) _ _ s
  rw [if_neg hno, pick_rev]
  first
    | exact wpAny_bind (m := Builtin.Tuple.tupleExact _) (wpAny_newObj_type (wpAny_pure ⟨_, rfl, wpAny_pure h⟩) htake)
    | exact wpAny_bind (m := Builtin.Tuple.tupleExact _) (wpAny_newObj_type (wpAny_bind (wpAny_pure (wpAny_pure ⟨_, rfl, wpAny_pure h⟩))) htake)
    | exact wpAny_bind (wpAny_bind (m := Builtin.Tuple.tupleExact _) (wpAny_newObj_type (wpAny_pure (wpAny_pure ⟨_, rfl, wpAny_pure h⟩)) htake))
    | exact wpAny_bind (wpAny_bind (m := Builtin.Tuple.tupleExact _) (wpAny_newObj_type (wpAny_pure ⟨_, rfl, wpAny_pure h⟩) htake))
end
end Zm
/-! Zm x: more of the expressions: rows turned about, new live rows, rows of a range. -/
namespace Zm
open PySem PySem.Spec PyProof.Rows L2
/-! ### turned about -/
def tRevT (K : PySem.W.Frag) (te : TE) : TE := fun σ H Q => te σ H fun x H1 => ∃ a xs, x = .ref a ∧ SqT K H1 a xs ∧ ∀ p, H1 p = none → Q (.ref p) (upd H1 p (.tup xs.reverse))
theorem pe_revT {X : Cx} {e : Expr} {te : TE} {k : Nat} {p1 p2 p3 pos : Pos} (he : PE X e te) : PE X (.Subscript e (.Slice none none (some (.UnaryOp .USub (.Constant (.int 1) k p1) p2)) p3) pos) (tRevT X.K te) := by
  refine ⟨fun pins s σ H Q I h => ?_⟩
  refine Subscript_ (thn (he.run pins s σ H _ I h) fun v s1 ⟨x, H1, I1, r1, q1⟩ => ?_)
  obtain ⟨a, xs, ex, hx, q⟩ := q1
  subst ex
  cases r1
  have hst : PO X (some (.UnaryOp .USub (.Constant (.int 1) k p1) p2)) (tPart (tUn (rU fun i => .int (-i)) (tC (.int 1)))) := po_some (pe_un un_neg pe_int)
  refine wpAny_Slice (thn (po_none.run pins s1 σ H1 (fun o H2 => o = none ∧ H2 = H1) I1 ⟨rfl, rfl⟩) fun vl s2 ⟨l, H2, I2, pl, el, e2⟩ => ?_)
  subst el e2
  refine thn (po_none.run pins s2 σ H2 (fun o H3 => o = none ∧ H3 = H2) I2 ⟨rfl, rfl⟩) fun vu s3 ⟨u, H3, I3, pu, eu, e3⟩ => ?_
  subst eu e3
  refine thn (hst.run pins s3 σ H3 (fun o H4 => o = some (-1) ∧ H4 = H3) I3 ⟨1, rfl, -1, rfl, rfl, rfl⟩) fun vs s4 ⟨o, H4, I4, ps, eo, e4⟩ => ?_
  subst eo e4
  cases pl
  cases pu
  have I5 : Inv X pins σ H4 { s4 with heap := s4.heap.push { cls := .type "slice", data := .fields #[.none, .none, vs] } } := I4.kept (t' := s4.toks) fun b ob q => Heap.get?_push_of_some _ q
  obtain ⟨its, r, ht, hz⟩ := I5.tuple hx
  have hlen := r.length
  show wpAny (model X.prog X.w) X.A (subscriptTail e (.Slice none none (some (.UnaryOp .USub (.Constant (.int 1) k p1) p2)) p3) (.ref a) (.ref s4.heap.objs.size)) (EP X pins σ Q) X.xe { s4 with heap := s4.heap.push { cls := .type "slice", data := .fields #[.none, .none, vs] } }
  refine tail_any (ops := [.ref a, .ref s4.heap.objs.size]) ht.typeIs (PyProof.Rows.slot_tuple_getitem.lookup) ?_ (by with_unfolding_all rfl)
  refine getItem_tuple_rev ht (Heap.IsSliceOf.new _ .none .none vs) ps ?_ (by rw [List.size_toArray]; omega)
  refine ⟨.ref _, _, I5.laid (t' := s4.toks) (o := .tup xs.reverse) (fun b ob q => Heap.get?_push_of_some _ q) (Nat.le_refl _) ?_, rfl, q _ (I5.hok.fresh (Nat.le_refl _))⟩
  exact ⟨by rw [List.length_reverse]; exact hz, _, r.reverse, IsTup.new _ _⟩
theorem DqA.rev {K : PySem.W.Frag} {H : Hp} : ∀ {ds : List PyData} {vs : List V}, DqA K H ds vs → DqA K H ds.reverse vs.reverse
  | _, _, .nil => .nil
  | _, _, .cons h r => by
    rw [List.reverse_cons, List.reverse_cons]
    exact r.rev.append (.cons h .nil)
section
variable {Γ : Ga} {a b c e t r it elt cond : E} {xa xb xc xe xi tg : Expr} {xs : List Expr} {pos p1 p2 p3 p4 : Pos} {x : Str} {j : Nat}
theorem se_rev (ha : SE Γ a xa) : SE Γ (.rev a) (.Subscript xa (.Slice none none (some (.UnaryOp .USub (.Constant (.int 1) j p1) p2)) p3) pos) := by
  refine ⟨?_⟩
  intro C X G pr ρ H h σ τ Q d h1 S L e P
  simp only [ev] at e
  obtain ⟨x, h2, e1, e⟩ := R.bind_eq e
  split at e
  · cases e
    rename_i ps hp
    refine we_of (pe_revT pe_we) (ha.run C X G _ _ _ _ _ _ _ _ _ S L e1 fun ρ1 H1 w N1 L1 b1 r1 => ?_)
    obtain ⟨pa, xs, rfl, g1, g2⟩ := (rd_at hp (fun _ z => by cases z) r1).tuple_
    exact ⟨pa, xs, rfl, g1, fun p hq => (P.nx N1).tupN L1 g2.rev hq⟩
  · cases e
    rename_i ps hp
    refine we_frz (we_of (pe_revL pe_we) (ha.run C X G _ _ _ _ _ _ _ _ _ S L e1 fun ρ1 H1 w N1 L1 b1 r1 => ?_))
    obtain ⟨pa, xs, rfl, g1, g2⟩ := rd_list hp L1 r1
    exact ⟨pa, xs, rfl, g1.sq, fun p hq => (P.nx N1).lstN L1 g2.rev hq⟩
  · cases e
/-! ### new live rows -/
theorem add_list {p q : PyData} {ps : List PyData} (h : binP .Add p q = some (.list ps)) : ∃ u v, p = .list u ∧ q = .list v ∧ u.length + v.length ≤ lim ∧ ps = u ++ v := by
  cases p <;> cases q <;> simp only [binP] at h <;> first | (cases h; done) | skip
  · split at h <;> cases h
  · split at h
    · rename_i u v hs
      simp only [Option.some.injEq, PyData.list.injEq] at h
      exact ⟨u, v, rfl, rfl, hs, h.symm⟩
    · cases h
  · split at h <;> cases h
theorem se_addL (ha : SE Γ a xa) (hb : SE Γ b xb) : SE Γ (.addL a b) (.BinOp xa .Add xb pos) := by
  refine ⟨?_⟩
  intro C X G pr ρ H h σ τ Q d h1 S L e P
  simp only [ev] at e
  obtain ⟨x, h2, e1, e⟩ := R.bind_eq e
  obtain ⟨y, h3, e2, e⟩ := R.bind_eq e
  split at e
  rotate_left
  · cases e
  rename_i ps hps
  cases e
  unfold binD at hps
  split at hps
  rotate_left
  · cases hps
  rename_i p q hp hq
  split at hps
  rotate_left
  · cases hps
  rename_i w hw
  cases hps
  obtain ⟨u, v, rfl, rfl, hz, rfl⟩ := add_list hw
  refine we_of (pe_op op_w2 pe_we pe_we) (ha.run C X G _ _ _ _ _ _ _ _ _ S L e1 fun ρ1 H1 v1 N1 L1 b1 r1 => hb.run C X G _ _ _ _ _ _ _ _ _ (S.nx N1) L1 e2 fun ρ2 H2 w N2 L2 b2 r2 => ?_)
  obtain ⟨pa, xs, rfl, g1, g2⟩ := rd_list hp L2 (r1.nx N2 b1)
  obtain ⟨pb, ys, rfl, g3, g4⟩ := rd_list hq L2 r2
  refine w2_of op_catL ⟨pa, pb, xs, ys, rfl, rfl, g1, g3, by rw [← g2.length, ← g4.length]; exact Nat.le_trans hz lim_line, fun p hp => ?_⟩
  obtain ⟨ρ3, N3, L3, e3⟩ := L2.alloc hp (belA_py _ _) (RvA.of_py (g2.append g4))
  exact P ρ3 _ _ ((N1.trans N2).trans N3) L3 (by simp only [bel, List.length_append, List.length_singleton]; omega) (e3 ▸ .obj _)
/-! ### a row that a comprehension has made, as a live one -/
theorem Lv.adopt {K : PySem.W.Frag} {pr : List (Addr × HO)} {ρ : Nat → Addr} {H : Hp} {h : AH} {p : Addr} {ds : List D} {vs : List V} (L : Lv K ((p, .lst vs) :: pr) ρ H h) (np : ∀ q ∈ pr, q.1 ≠ p) (b : belA h.length ds) (r : RvA K ρ H ds vs) :
    ∃ ρ', Nx ρ H h ρ' H (h ++ [.lst ds]) ∧ Lv K pr ρ' H (h ++ [.lst ds]) ∧ ρ' h.length = p := by
  obtain ⟨e1, ne⟩ := L.pr p _ List.mem_cons_self
  have nw : ∀ l, l < h.length → (fun l => if l = h.length then p else ρ l) l = ρ l := fun l q => if_neg (Nat.ne_of_lt q)
  have old : ∀ (l : Nat) (o : O), (h ++ [O.lst ds])[l]? = some o → l < h.length ∧ h[l]? = some o ∨ l = h.length ∧ o = .lst ds := fun l o q => by
    by_cases hl : l < h.length
    · rw [List.getElem?_append_left hl] at q
      exact .inl ⟨hl, q⟩
    · have hl2 : l = h.length := by
        have := (List.getElem?_eq_some_iff.mp q).1
        simp at this
        omega
      subst hl2
      rw [List.getElem?_append_right (Nat.le_refl _)] at q
      simp at q
      exact .inr ⟨rfl, q.symm⟩
  refine ⟨fun l => if l = h.length then p else ρ l, ⟨Ext.refl H, nw, by simp⟩, ⟨fun l o q => ?_, fun l m o u ql qm ho hu e => ?_, fun a o m => ⟨(L.pr a o (List.mem_cons_of_mem _ m)).1, fun l u q hu => ?_⟩⟩, if_pos rfl⟩
  · rcases old l o q with ⟨hl, q⟩ | ⟨rfl, rfl⟩
    · have z := L.at_ l o q
      rw [if_neg (Nat.ne_of_lt hl)]
      cases o with
      | dead => trivial
      | lst ys =>
        obtain ⟨b1, ws, e2, r1⟩ := z
        exact ⟨b1.mono (by simp), ws, e2, r1.step (Ext.refl H) nw b1⟩
      | dct _ => exact z.elim
      | ins _ _ => exact z.elim
    · rw [if_pos rfl]
      exact ⟨b.mono (by simp), vs, e1, r.step (Ext.refl H) nw b⟩
  · have e : (if l = h.length then p else ρ l) = (if m = h.length then p else ρ m) := e
    rcases old l o ql with ⟨hl, q1⟩ | ⟨rfl, _⟩ <;> rcases old m u qm with ⟨hm, q2⟩ | ⟨rfl, _⟩
    · rw [if_neg (Nat.ne_of_lt hl), if_neg (Nat.ne_of_lt hm)] at e
      exact L.inj l m o u q1 q2 ho hu e
    · rw [if_neg (Nat.ne_of_lt hl), if_pos rfl] at e
      exact absurd e (ne l o q1 ho)
    · rw [if_pos rfl, if_neg (Nat.ne_of_lt hm)] at e
      exact absurd e.symm (ne m u q2 hu)
    · rfl
  · show (if l = h.length then p else ρ l) ≠ a
    rcases old l u q with ⟨hl, q1⟩ | ⟨rfl, _⟩
    · rw [if_neg (Nat.ne_of_lt hl)]
      exact (L.pr a o (List.mem_cons_of_mem _ m)).2 l u q1 hu
    · rw [if_pos rfl]
      exact (np _ m).symm
theorem comp_gen {C : Orc} {X : Cx} {ownS : List (Str × Nat)} {scope : Scope} {ifs : List Expr} (G : XG Γ C X) (hi : SI Γ it tg xi) (hb : blkC Γ.N Γ.sc scope ownS = true) (ho : ownB Γ scope (ownS.map (·.1)) = true)
    (hg : SG (Γ.blk scope (ownS.map (·.1))) t tg) (hsl : (slots t).all (fun i => (ownS.map (·.2)).contains i) = true) (ht : STs (Γ.blk scope (ownS.map (·.1))) cond ifs) (he : SE (Γ.blk scope (ownS.map (·.1))) elt xe)
    {pr : List (Addr × HO)} {ρ : Nat → Addr} {H : Hp} {h : AH} {σ : Sg} {τ : L2.St} {Qd : VK} {sr : Src} {ys : List D} {h2 h3 : AH} (S : SgOk X.K ρ H h.length σ τ) (L : Lv X.K pr ρ H h) (e1 : evi C it σ h = .ok sr h2) (hlen : sr.xs.length ≤ lim)
    (e2 : compL (asg C t) (ev C cond) (ev C elt) (wipeS σ (ownS.map (·.2))) (okS sr) sr.xs h2 = .ok ys h3)
    (fin : ∀ p ρ' H' vs, Nx ρ H h ρ' H' h3 → Lv X.K ((p, .lst vs) :: pr) ρ' H' h3 → (∀ q ∈ pr, q.1 ≠ p) → belA h3.length ys → RvA X.K ρ' H' ys vs → Qd (.ref p) H') :
    tLc (WI X tg xi) (gB X scope tg) (tB' X scope ifs) (eB X scope xe) (ownS.map (·.2)) τ H Qd := by
  refine hi.run C X G _ _ _ _ _ _ _ _ _ S L e1 fun ρ1 H1 J N1 L1 W1 p hp => ?_
  have np : ∀ q ∈ pr, q.1 ≠ p := fun q hq z => by
    have := (L1.pr q.1 q.2 hq).1
    rw [z, hp] at this
    cases this
  have N2 : Nx ρ1 H1 h2 ρ1 (upd H1 p (.lst [])) h2 := ⟨Ext.new hp, fun _ _ => rfl, Nat.le_refl _⟩
  have L2' : Lv X.K ((p, .lst []) :: pr) ρ1 (upd H1 p (.lst [])) h2 := L1.padd hp
  have W2' : Wk X.K ρ1 (upd H1 p (.lst [])) h2 J sr := ⟨W1.bel, fun i pr ρ' H' h' hi N => W1.go i pr ρ' H' h' hi (N2.trans N), fun i d x pr ρ' H' h' Hq hd N => W1.yld i d x pr ρ' H' h' Hq hd (N2.trans N), fun pr ρ' H' h' N => W1.stop pr ρ' H' h' (N2.trans N)⟩
  refine comp_loop (g := gB X scope tg) (tt := tB' X scope ifs) (te := eB X scope xe) (Qd := fun H' => Qd (.ref p) H') hlen np ?_ ?_ ?_ (((S.nx (N1.trans N2)).wipe _)) L2' W2' e2 ?_
  · intro pr ρ H h v d T σ1 h' S L b r ea P s H0 c0 cl fp
    refine hg.run C _ (G.blk ho s H0 c0 cl fp) pr ρ H h _ _ v d T σ1 h' S L b r ea fun ρ' H' τ' N L S m => P ρ' H' τ' N L S ⟨m.1, fun i hi => m.2 i fun z => hi ?_⟩
    have := List.all_eq_true.mp hsl i z
    simpa using this
  · intro pr ρ H h σ1 τ1 Q b h' S L ea P s H0 c0 cl fp
    exact ht.run C _ (G.blk ho s H0 c0 cl fp) pr ρ H h _ _ Q b h' S L ea P
  · intro pr ρ H h σ1 τ1 Q d h' S L ea P s H0 c0 cl fp
    exact he.run C _ (G.blk ho s H0 c0 cl fp) pr ρ H h _ _ Q d h' S L ea P
  · intro ρ' H' vs N L b r
    exact fin p ρ' H' vs ((N1.trans N2).trans N) L np b r
theorem se_compN {ownS : List (Str × Nat)} {scope : Scope} {ifs : List Expr} (hi : SI Γ it tg xi) (hb : blkC Γ.N Γ.sc scope ownS = true) (ho : ownB Γ scope (ownS.map (·.1)) = true)
    (hg : SG (Γ.blk scope (ownS.map (·.1))) t tg) (hsl : (slots t).all (fun i => (ownS.map (·.2)).contains i) = true) (ht : STs (Γ.blk scope (ownS.map (·.1))) cond ifs) (he : SE (Γ.blk scope (ownS.map (·.1))) elt xe)
    (hs : ∀ env x, foldedSetIterable xi env x = pure x) : SE Γ (.compN (ownS.map (·.2)) elt t it cond) (.ListComp xe [⟨tg, xi, ifs, 0⟩] scope pos) := by
  refine ⟨?_⟩
  intro C X G pr ρ H h σ τ Q d h1 S L e P
  simp only [ev] at e
  obtain ⟨sr, h2, e1, e⟩ := R.bind_eq e
  split at e
  · cases e
  rename_i hlen
  obtain ⟨ys, h3, e2, e⟩ := R.bind_eq e
  cases e
  refine we_of (pe_lc G.gd.calm G.gd.nd pi_wi (by rw [G.nn, G.sc]; exact blkOk_by hb) ?_ ?_ ?_ (hs X.env)) (comp_gen G hi hb ho hg hsl ht he S L e1 (of_decide_eq_true hlen) e2 fun p ρ' H' vs N L' np b r => ?_)
  · exact fun s H0 c0 cl fp => ⟨fun pins s1 _ _ _ u _ I r q => q s H0 c0 cl fp pins s1 u I r⟩
  · exact fun s H0 c0 cl fp => ⟨fun pins s1 _ _ _ I q => q s H0 c0 cl fp pins s1 I⟩
  · exact fun s H0 c0 cl fp => ⟨fun pins s1 _ _ _ I q => q s H0 c0 cl fp pins s1 I⟩
  · obtain ⟨ρ3, N3, L3, e3⟩ := L'.adopt np b r
    exact P ρ3 _ _ (N.trans N3) L3 (by simp only [bel, List.length_append, List.length_singleton]; omega) (e3 ▸ .obj _)
/-! ### rows of a range -/
theorem rg_dq {K : PySem.W.Frag} {H : Hp} (n : Nat) : DqA K H ((List.range n).map fun i => .int (i : Nat)) (rgV 0 (n : Nat)) := by
  have key : ∀ (l : List Nat), DqA K H (l.map fun i => .int (i : Nat)) (l.map fun i => V.int (0 + (i : Nat))) := by
    intro l
    induction l with
    | nil => exact .nil
    | cons i r ih => exact .cons (by show Dq K H (.int ((i : Nat) : Int)) (.int (0 + ((i : Nat) : Int))); rw [Int.zero_add]; exact .int _) ih
  have e : ((n : Int) - 0).toNat = n := by omega
  unfold rgV
  rw [e]
  exact key _
theorem se_rngL (ha : SE Γ a xa) (hg : glB Γ.sc "list" = true) (hg2 : glB Γ.sc "range" = true) (hs : ∀ env, starEach [xa] env = (false, eval xa env) :: starEach [] env) (hs2 : ∀ env, starEach [.Call (.Name "range" p2) [xa] [] p3] env = (false, eval (.Call (.Name "range" p2) [xa] [] p3) env) :: starEach [] env) :
    SE Γ (.rngL a) (.Call (.Name "list" p1) [.Call (.Name "range" p2) [xa] [] p3] [] pos) := by
  refine ⟨?_⟩
  intro C X G pr ρ H h σ τ Q d h1 S L e P
  simp only [ev] at e
  obtain ⟨x, h2, e1, e⟩ := R.bind_eq e
  split at e
  rotate_left
  · cases e
  rename_i n
  split at e
  rotate_left
  · cases e
  rename_i hn
  cases e
  obtain ⟨n0, n1⟩ := Bool.and_eq_true_iff.mp hn
  have n0 := of_decide_eq_true n0
  have n1 := of_decide_eq_true n1
  obtain ⟨m, rfl⟩ := Int.eq_ofNat_of_zero_le n0
  refine we_frz (we_of (pe_listRg G.gd.calm (glB_ok hg G.sc) (G.bl _ (mem_bl (by decide +kernel))) (prg_1 (glB_ok hg2 G.sc) (G.bl _ (mem_bl (by decide +kernel))) pe_we (hs X.env)) (hs2 X.env)) (ha.run C X G _ _ _ _ _ _ _ _ _ S L e1 fun ρ1 H1 w N1 L1 b1 r1 => ?_))
  cases r1 with
  | py q =>
    refine ⟨_, q.int_, RgOk.of_le (by decide) (by omega) (by decide) (by omega), fun p hp => ?_⟩
    have := rg_dq (K := X.K) (H := H1) m
    rw [Int.toNat_natCast] at P
    exact (P.nx N1).lstN L1 this hp
theorem se_rngT (ha : SE Γ a xa) (hg : glB Γ.sc "tuple" = true) (hg2 : glB Γ.sc "range" = true) (hs : ∀ env, starEach [xa] env = (false, eval xa env) :: starEach [] env) (hs2 : ∀ env, starEach [.Call (.Name "range" p2) [xa] [] p3] env = (false, eval (.Call (.Name "range" p2) [xa] [] p3) env) :: starEach [] env) :
    SE Γ (.rngT a) (.Call (.Name "tuple" p1) [.Call (.Name "range" p2) [xa] [] p3] [] pos) := by
  refine ⟨?_⟩
  intro C X G pr ρ H h σ τ Q d h1 S L e P
  simp only [ev] at e
  obtain ⟨x, h2, e1, e⟩ := R.bind_eq e
  split at e
  rotate_left
  · cases e
  rename_i n
  split at e
  rotate_left
  · cases e
  rename_i hn
  cases e
  obtain ⟨n0, n1⟩ := Bool.and_eq_true_iff.mp hn
  have n0 := of_decide_eq_true n0
  have n1 := of_decide_eq_true n1
  obtain ⟨m, rfl⟩ := Int.eq_ofNat_of_zero_le n0
  refine we_of (pe_tupRg G.gd.calm (glB_ok hg G.sc) (G.bl _ (mem_bl (by decide +kernel))) (prg_1 (glB_ok hg2 G.sc) (G.bl _ (mem_bl (by decide +kernel))) pe_we (hs X.env)) (hs2 X.env)) (ha.run C X G _ _ _ _ _ _ _ _ _ S L e1 fun ρ1 H1 w N1 L1 b1 r1 => ?_)
  cases r1 with
  | py q =>
    refine ⟨_, q.int_, RgOk.of_le (by decide) (by omega) (by decide) (by omega), fun p hp => ?_⟩
    have := rg_dq (K := X.K) (H := H1) m
    rw [Int.toNat_natCast] at P
    exact (P.nx N1).tupN L1 this hp
/-! ### no starred arguments -/
def noSt : Expr → Bool
  | .Starred _ _ => false
  | _ => true
theorem star_ok {xa : Expr} {xs : List Expr} (h : noSt xa = true) : ∀ env, starEach (xa :: xs) env = (false, eval xa env) :: starEach xs env := by
  intro env
  cases xa <;> first | rfl | cases h
theorem stars_ok {p : Pos} : ∀ {xs : List Expr}, xs.all noSt = true → NoStars p xs
  | [], _ => fun _ => rfl
  | xa :: r, h => by
    rw [List.all_cons, Bool.and_eq_true] at h
    intro env
    have ih := stars_ok (p := p) h.2 env
    rw [star_ok h.1 env]
    unfold backTo at ih ⊢
    simpa using ih
end
end Zm
/-! Zm i: xs.index(x) of data; range with a step. -/
namespace Zm
open PySem PySem.Spec PyProof.Rows L2
theorem findIdx_at {α : Type} {p : α → Bool} : ∀ {xs : List α} {j : Nat}, xs.findIdx? p = some j → (∃ z, xs[j]? = some z ∧ p z = true) ∧ ∀ (m : Nat) (z : α), m < j → xs[m]? = some z → p z = false
  | [], j, e => by simp at e
  | x :: r, j, e => by
    rw [List.findIdx?_cons] at e
    cases hx : p x with
    | true =>
      rw [hx, if_pos rfl] at e
      cases e
      exact ⟨⟨x, rfl, hx⟩, fun m z hm _ => absurd hm (Nat.not_lt_zero _)⟩
    | false =>
      rw [hx, if_neg Bool.false_ne_true] at e
      obtain ⟨i, hi, rfl⟩ := Option.map_eq_some_iff.mp e
      obtain ⟨⟨z, h1, h2⟩, h3⟩ := findIdx_at hi
      refine ⟨⟨z, by simpa using h1, h2⟩, fun m w hm hw => ?_⟩
      cases m with
      | zero =>
        simp only [List.getElem?_cons_zero, Option.some.injEq] at hw
        rw [← hw]
        exact hx
      | succ m => exact h3 m w (by omega) (by simpa using hw)
section
variable {Γ : Ga} {a b c : E} {xa xb xc : Expr} {pos p2 : Pos} {tg : Expr}
theorem se_index {apos : Pos} (ho : SE Γ a xa) (ha : SA Γ (.cons b .nil) [xb]) (hbase : ∀ env, attributeBase xa "index" env (eval xa env) = eval xa env)
    (hfew : ∀ env, ((backTo pos (starEach [xb] env)).all (fun x => !x.1) && (backToKw pos (keywordEach [] env)).all (fun x => x.1.isSome) && decide ([xb].length + ([] : List Keyword).length + (if ([] : List Keyword).isEmpty then 0 else 1) < 30)) = true)
    (hline : (apos.endLine == pos.line) = true) (hs : NoStar xb []) (hpl : NoStars pos []) : SE Γ (.ixo a b) (.Call (.Attribute xa "index" apos) [xb] [] pos) := by
  refine ⟨?_⟩
  intro C X G pr ρ H h σ τ Q d h1 S L e P
  simp only [ev] at e
  obtain ⟨x, h2, e1, e⟩ := R.bind_eq e
  obtain ⟨y, h3, e2, e⟩ := R.bind_eq e
  split at e
  rotate_left
  · cases e
  rename_i ps q _
  split at e
  rotate_left
  · cases e
  rename_i j hd hj
  cases e
  obtain ⟨s1, s2⟩ := of_decide_eq_true hd
  have ee : evs C (.cons b .nil) σ h2 = .ok [.py q] h1 := by simp only [evs, e2, R.bind_ok]
  refine we_of (pe_bm F.plainAttrs_list F.slot_list_index F.type_list_index (mt_indexD (by have := G.gd.hu; omega)) pe_we pa_wa (hbase X.env) (hfew X.env) hline (hs X.env) (hpl X.env)) (ho.run C X G _ _ _ _ _ _ _ _ _ S L e1 fun ρ1 H1 v N1 L1 b1 r1 => ?_)
  cases r1 with
  | py r1 =>
    obtain ⟨l, vs, rfl, g1, g2⟩ := r1.list_
    refine ⟨.inl ⟨rfl, vs, g1.sq⟩, ha.run C X G _ _ _ _ _ _ _ _ _ (S.nx N1) L1 ee fun ρ2 H2 ws N2 L2 b3 r3 _ => ?_⟩
    obtain ⟨w, rfl, r5⟩ := rvA1 r3
    cases r5 with
    | py r5 =>
      obtain ⟨⟨z, z1, z2⟩, z3⟩ := findIdx_at hj
      have hl : Dq X.K H2 (.list ps) (.ref l) := (Dq.lst g1 g2).ext N2.ext
      exact ⟨l, w, q, ps, j, z, rfl, rfl, hl.dp (shp_noDict s1), r5.dp (shp_noDict s2), s1, s2, z1, z2, z3, P ρ2 H2 _ (N1.trans N2) L2 (by simp only [bel]) (.py (.int _))⟩
theorem rg_ok {m n c : Int} (h1 : r62 m = true) (h2 : r62 n = true) (c0 : 0 < c) (c1 : c < 1073741824) : RgC m n c (rsz m n c) := by
  unfold r62 at h1 h2
  rw [Bool.and_eq_true, decide_eq_true_eq, decide_eq_true_eq] at h1 h2
  have e : Builtin.Range.rangeSize m n c = (rsz m n c : Nat) := by
    unfold Builtin.Range.rangeSize rsz
    rw [if_pos c0]
    by_cases h : m < n
    · rw [if_pos h, if_pos h]
      have : 0 ≤ (n - m - 1) / c := Int.ediv_nonneg (by omega) (by omega)
      omega
    · rw [if_neg h, if_neg h]
      rfl
  have hsz : (rsz m n c : Int) ≤ 2 ^ 63 - 1 := by
    unfold rsz
    split
    · have h0 : 0 ≤ (n - m - 1) / c := Int.ediv_nonneg (by omega) (by omega)
      have h3 : (n - m - 1) / c ≤ n - m - 1 := Int.ediv_le_self _ (by omega)
      omega
    · decide
  refine ⟨by omega, by omega, ?_, e⟩
  unfold Builtin.Range.small
  rw [e]
  simp only [Builtin.Range.rangeFitsLong, Bool.and_eq_true, Bool.or_eq_true, decide_eq_true_eq, beq_iff_eq, c0, gt_iff_lt, if_true]
  refine ⟨⟨⟨⟨⟨by omega, by omega⟩, by omega, by omega⟩, by omega, by omega⟩, by omega, by omega⟩, .inr ⟨by omega, by omega⟩⟩
theorem wk_rngC {K : PySem.W.Frag} {ρ : Nat → Addr} {H : Hp} {h : AH} {lo c : Int} {n : Nat} : Wk K ρ H h (Itc lo c n) ⟨(List.range n).map fun i => D.i (lo + (i : Nat) * c), none⟩ where
  bel := belA_iff.mpr fun d hd => by
    obtain ⟨i, _, rfl⟩ := List.mem_map.mp hd
    simp only [bel]
  go := fun i pr ρ' H' h' hi N L _ => by
    rw [List.length_map, List.length_range] at hi
    exact hi
  yld := fun i d x pr ρ' H' h' H2 hd N L _ y => by
    obtain ⟨e, y⟩ := y
    subst e
    rw [List.getElem?_map] at hd
    obtain ⟨j, hj, rfl⟩ := Option.map_eq_some_iff.mp hd
    have hi : i < n := by
      have := (List.getElem?_eq_some_iff.mp hj).1
      rwa [List.length_range] at this
    rw [List.getElem?_range hi] at hj
    cases hj
    rw [y]
    exact ⟨ρ', Nx.refl, L, .py (.int _)⟩
  stop := fun pr ρ' H' h' N L _ => by
    show n ≤ _
    rw [List.length_map, List.length_range]
    exact Nat.le_refl _
theorem rng3S_eq {x y z : D} {sr : Src} (e : rng3S x y z = some sr) : ∃ m n c, x = .i m ∧ y = .i n ∧ z = .i c ∧ (r62 m && r62 n && (decide (0 < c) && decide (c < 1073741824))) = true ∧ sr = ⟨(List.range (rsz m n c)).map fun i => .i (m + (i : Nat) * c), none⟩ := by
  unfold rng3S at e
  split at e
  · split at e
    · cases e
      exact ⟨_, _, _, rfl, rfl, rfl, by assumption, rfl⟩
    · cases e
  · cases e
theorem si_rng3 (ha : SA Γ (.cons a (.cons b (.cons c .nil))) [xa, xb, xc]) (hg : glB Γ.sc "range" = true) (hs : ∀ env, starEach [xa, xb, xc] env = (false, eval xa env) :: starEach [xb, xc] env) (hs2 : ∀ env, (backTo pos (starEach [xb, xc] env)).any (·.1) = false) :
    SI Γ (.rng3 a b c) tg (.Call (.Name "range" p2) [xa, xb, xc] [] pos) := by
  refine ⟨?_⟩
  intro C X G pr ρ H h σ τ T sr h1 S L e P
  simp only [evi] at e
  obtain ⟨x, h2, e1, e⟩ := R.bind_eq e
  obtain ⟨y, h3, e2, e⟩ := R.bind_eq e
  obtain ⟨z, h4, e3, e⟩ := R.bind_eq e
  obtain ⟨e4, rfl⟩ := rO_eq e
  obtain ⟨m, n, k, rfl, rfl, rfl, hr, rfl⟩ := rng3S_eq e4
  simp only [Bool.and_eq_true, decide_eq_true_eq] at hr
  obtain ⟨⟨r1, r2⟩, r3, r4⟩ := hr
  have ee : evs C (.cons a (.cons b (.cons c .nil))) σ h = .ok [.i m, .i n, .i k] h1 := by simp only [evs, e1, e2, e3, R.bind_ok]
  refine wi_of (pi_range3 (glB_ok hg G.sc) (G.bl _ (mem_bl (by decide +kernel))) pa_wa (hs X.env) (hs2 X.env)) (ha.run C X G _ _ _ _ _ _ _ _ _ S L ee fun ρ1 H1 vs N1 L1 b1 r5 _ => ?_)
  cases r5 with
  | cons q1 r5 =>
    cases r5 with
    | cons q2 r5 =>
      cases r5 with
      | cons q3 r5 =>
        cases r5
        cases q1 with
        | py q1 =>
          cases q2 with
          | py q2 =>
            cases q3 with
            | py q3 => exact ⟨m, n, k, _, by rw [q1.int_, q2.int_, q3.int_], rg_ok r1 r2 r3 r4, P ρ1 H1 _ N1 L1 wk_rngC⟩
end
end Zm
/-! Zm 18: from the head's facts to the table of defs. -/
namespace Zm
open PySem PySem.Spec PySem.W PyProof.Rows L2
def glFa : Str × PyData → He.Fa
  | (x, .int i) => .int x i
  | (x, .str z) => .str x z
  | (x, _) => .glo x
def glOk : Str × PyData → Bool
  | (_, .int _) => true
  | (_, .str _) => true
  | _ => false
def faOf (fns : List Str) (gl : List (Str × PyData)) : List He.Fa := fns.map He.Fa.glo ++ fns.map He.Fa.keep ++ bltins.map He.Fa.free ++ gl.map glFa
/-- where the functions lie -/
def adr (K : Frag) (fns : List Str) (j : Nat) : Addr := He.ga K (fns.getD j (Str.ofString ""))
theorem getD_of {α : Type} {xs : List α} {j : Nat} {x d : α} (e : xs[j]? = some x) : xs.getD j d = x := by
  rw [List.getD_eq_getElem?_getD, e] <;> rfl
theorem md_of {K : Frag} {mg : Str → Option Value} {h : Heap} {fns : List Str} {gl : List (Str × PyData)} {fn : List He.DefD} (X : K.In h) (G : h.Ns mainGlobals mg) (c : He.SaysD (faOf fns gl) fn K) (hg : gl.all glOk = true) : Md mg K fns gl (adr K fns) := by
  have all : ∀ f ∈ faOf fns gl, f.ok K = true := fun f hf => by
    obtain ⟨i, hi⟩ := List.getElem?_of_mem hf
    exact c.fact i hi
  refine ⟨fun i x p e => ?_, fun x hx => ?_, fun f x e => ?_⟩
  · have hm := List.mem_of_getElem? e
    have ok := List.all_eq_true.mp hg _ hm
    have fk := all (glFa (x, p)) (List.mem_append_right _ (List.mem_map.mpr ⟨_, hm, rfl⟩))
    cases p with
    | int n =>
      obtain ⟨t, q⟩ := He.int_ok X G fk
      exact ⟨.int n, _, q, ⟨t, rfl⟩, fun H => .int n⟩
    | str z =>
      obtain ⟨t, q⟩ := He.str_ok X G fk
      exact ⟨.str z, _, q, ⟨t, rfl⟩, fun H => .str z⟩
    | none => cases ok
    | bool _ => cases ok
    | list _ => cases ok
    | tuple _ => cases ok
    | dict _ => cases ok
  · exact He.free_ok X G (all (.free x) (List.mem_append_left _ (List.mem_append_right _ (List.mem_map.mpr ⟨x, hx, rfl⟩))))
  · have hm := List.mem_of_getElem? e
    have g1 := He.glo_ok X G (all (.glo x) (List.mem_append_left _ (List.mem_append_left _ (List.mem_append_left _ (List.mem_map.mpr ⟨x, hm, rfl⟩)))))
    have g2 := He.keep_ok (all (.keep x) (List.mem_append_left _ (List.mem_append_left _ (List.mem_append_right _ (List.mem_map.mpr ⟨x, hm, rfl⟩)))))
    unfold adr
    rw [getD_of e]
    exact ⟨g1, g2⟩
section
variable {P : Program} {w : World} {K : Frag} {mg : Str → Option Value} {base : Heap} {fns : List Str} {gl : List (Str × PyData)} {ad : Nat → Addr}
def DdL (P : Program) (w : World) (K : Frag) (mg : Str → Option Value) (base : Heap) (fns : List Str) (gl : List (Str × PyData)) (ad : Nat → Addr) : Nat → List Fn → Prop
  | _, [] => True
  | j, f :: r => Dd P w K mg base fns gl ad (ad j) f ∧ DdL P w K mg base fns gl ad (j + 1) r
theorem DdL.get : ∀ {F : List Fn} {i : Nat}, DdL P w K mg base fns gl ad i F → ∀ (j : Nat) (fn : Fn), F[j]? = some fn → Dd P w K mg base fns gl ad (ad (i + j)) fn
  | [], _, _, j, fn, e => by simp at e
  | f :: r, i, d, 0, fn, e => by
    simp at e
    subst e
    exact d.1
  | f :: r, i, d, j + 1, fn, e => by
    have := DdL.get d.2 j fn (by simpa using e)
    rw [show i + (j + 1) = i + 1 + j by omega]
    exact this
theorem dd_of {fd : FuncData} {name qual : Str} {params : Arguments} {body : List Stmt} {scope : Scope} {N ps own : List Str} {fn : Fn} {f : Addr} (M : Md mg K fns gl ad)
    (Fd : FunD K name qual params body scope [] [] f fd) (hb : ∀ (kV doc pm : Value) (an : Option Addr) (cdv ct : Value) (us : List Value), us.length = ps.length → bindArgs (fnOf name qual params body scope .none kV doc pm an cdv ct) ⟨us, []⟩ = pure (ps.zip us))
    (hsc : C8.scC N ps scope = true) (hnp : fn.np = ps.length) (hns : fn.ns = N.length) (hS : SSs ⟨scope, N, fns, gl, own⟩ fn.body body) : Dd P w K mg base fns gl ad f fn :=
  ⟨fun C n hC => fnS_of M hC Fd (Fd.bindsN hb) (C8.fnScope_by hsc) hnp hns hS⟩
end
end Zm
/-! Zm 19: laws of the evaluation. -/
namespace Zm
open PySem PySem.Spec PySem.W PyProof.Rows L2
/-- a comprehension whose turns leave the heap as it is -/
theorem compL_pure {asg : D → Sg → AH → R Sg} {cond elt : Sg → AH → R D} {σ : Sg} {ok : AH → Bool} {h : AH} (hok : ok h = true) {p : D → Bool} {f : D → D} {s : D → Sg} :
    ∀ xs : List D, (∀ x ∈ xs, asg x σ h = .ok (s x) h ∧ cond (s x) h = .ok (.b (p x)) h ∧ (p x = true → elt (s x) h = .ok (f x) h)) → compL asg cond elt σ ok xs h = .ok ((xs.filter p).map f) h
  | [], _ => by simp [compL, hok]
  | x :: xs, H => by
    obtain ⟨h1, h2, h3⟩ := H x List.mem_cons_self
    have ih := compL_pure hok (p := p) (f := f) (s := s) xs fun y hy => H y (List.mem_cons_of_mem _ hy)
    rw [compL, hok]
    simp only [h1, h2, R.bind_ok]
    cases hp : p x with
    | true => simp only [h3 hp, R.bind_ok, ih, List.filter_cons_of_pos hp, List.map_cons]
    | false =>
      have e : List.filter p (x :: xs) = List.filter p xs := by rw [List.filter_cons, hp]; rfl
      simp only [ih, e]
/-- a loop by what stays true -/
theorem forL_inv {asg : D → Sg → AH → R Sg} {body : Sg → AH → R Out} {ok : AH → Bool} (I : Nat → Sg → AH → Prop) :
    ∀ (xs : List D) (i : Nat) (σ : Sg) (h : AH), I i σ h → (∀ (j : Nat) (σ : Sg) (h : AH), I j σ h → ok h = true) →
      (∀ (j : Nat) (x : D) (σ : Sg) (h : AH), xs[j]? = some x → I (i + j) σ h → ∃ σ1 h1, asg x σ h = .ok σ1 h1 ∧ ∃ σ2 h2, body σ1 h1 = .ok (.nx σ2) h2 ∧ I (i + j + 1) σ2 h2) →
      ∃ σ' h', forL asg body ok xs σ h = .ok (.nx σ') h' ∧ I (i + xs.length) σ' h'
  | [], i, σ, h, I0, hok, _ => ⟨σ, h, by rw [forL, hok i σ h I0], I0⟩
  | x :: xs, i, σ, h, I0, hok, hs => by
    obtain ⟨σ1, h1, e1, σ2, h2, e2, I1⟩ := hs 0 x σ h rfl I0
    obtain ⟨σ', h', e3, I2⟩ := forL_inv I xs (i + 1) σ2 h2 I1 hok fun j y σ h hj Ij => by
      have := hs (j + 1) y σ h (by simpa using hj) (by rw [show i + (j + 1) = i + 1 + j by omega]; exact Ij)
      rw [show i + (j + 1) + 1 = i + 1 + j + 1 by omega] at this
      exact this
    refine ⟨σ', h', ?_, by rw [List.length_cons, show i + (xs.length + 1) = i + 1 + xs.length by omega]; exact I2⟩
    rw [forL, hok i σ h I0]
    simp only [e1, R.bind_ok, e2, e3]
/-- a loop as a fold: the heap stays, the slots are a function of the state -/
theorem forL_fold {α : Type} {asg : D → Sg → AH → R Sg} {body : Sg → AH → R Out} {ok : AH → Bool} (S : α → Sg) (Hp : α → AH) (step : α → D → α) :
    ∀ (xs : List D) (a : α), (∀ a, ok (Hp a) = true) → (∀ a x, x ∈ xs → ∃ σ1 h1, asg x (S a) (Hp a) = .ok σ1 h1 ∧ body σ1 h1 = .ok (.nx (S (step a x))) (Hp (step a x))) →
      forL asg body ok xs (S a) (Hp a) = .ok (.nx (S (xs.foldl step a))) (Hp (xs.foldl step a))
  | [], a, hok, _ => by rw [forL, hok a]; rfl
  | x :: xs, a, hok, hs => by
    obtain ⟨σ1, h1, e1, e2⟩ := hs a x List.mem_cons_self
    rw [forL, hok a]
    simp only [e1, R.bind_ok, e2, List.foldl_cons]
    exact forL_fold S Hp step xs (step a x) hok fun a y hy => hs a y (List.mem_cons_of_mem _ hy)
@[simp] theorem rO_some {α : Type} (h : AH) (a : α) : rO h (some a) = .ok a h := rfl
@[simp] theorem rO_none {α : Type} (h : AH) : (rO h (none : Option α)) = .stuck := rfl
theorem okS_none (xs : List D) (h : AH) : okS ⟨xs, none⟩ h = true := rfl
theorem chg_refl (h : AH) : Chg h h := ⟨rfl, fun _ => .inl rfl⟩
/-- a def that leaves the heap as it was -/
theorem leave_same (p : PyData) (h : AH) : leave .pure h (.py p) h = .ok (.py p) h := by
  unfold leave
  have e : List.take (List.length h) h = h := List.take_length
  have c : Chg h (List.take (List.length h) h) := by
    rw [e]
    exact chg_refl h
  simp only [e]
  rw [if_pos c]
/-! ### comparisons of numbers, of truth values, of data -/
theorem shp_int (a : Int) : shp (.int a) = true := by
  unfold shp SeqAt.shaped
  simp [PyData.canLay0, PyData.depth]
theorem eqv_int (a b : Int) : PyData.eqv (.int a) (.int b) = decide (a = b) := by
  simp only [PyData.eqv]
  exact Bool.beq_eq_decide_eq a b
theorem cmp_eqI (a b : Int) : cmpP .Eq (.int a) (.int b) = some (decide (a = b)) := by
  simp [cmpP, shp_int, eqv_int]
theorem cmp_neI (a b : Int) : cmpP .NotEq (.int a) (.int b) = some (!decide (a = b)) := by
  simp [cmpP, shp_int, eqv_int]
theorem cmp_ltI (a b : Int) : cmpP .Lt (.int a) (.int b) = some (decide (a < b)) := rfl
theorem cmp_leI (a b : Int) : cmpP .LtE (.int a) (.int b) = some (decide (a ≤ b)) := rfl
theorem cmp_gtI (a b : Int) : cmpP .Gt (.int a) (.int b) = some (decide (b < a)) := rfl
theorem cmp_geI (a b : Int) : cmpP .GtE (.int a) (.int b) = some (decide (b ≤ a)) := rfl
theorem cmpD_py {h : AH} {o : CmpOp} {p q : PyData} (hn : q ≠ .none) : cmpD h o (.py p) (.py q) = cmpP o p q := by
  cases q <;> first | exact absurd rfl hn | (cases o <;> rfl)
theorem cmpD_int (h : AH) (o : CmpOp) (p : PyData) (n : Int) : cmpD h o (.py p) (.i n) = cmpP o p (.int n) := cmpD_py (fun z => by cases z)
theorem atI_0 {α : Type} (x : α) (r : List α) : L2.atI (x :: r) 0 = some x := by simp [L2.atI, L2.ixN]
theorem atI_1 {α : Type} (x y : α) (r : List α) : L2.atI (x :: y :: r) 1 = some y := by
  have e : L2.ixN (x :: y :: r).length 1 = some 1 := by
    unfold L2.ixN
    rw [if_pos (by decide), if_pos (by rw [List.length_cons, List.length_cons]; omega)]
    rfl
  unfold L2.atI
  rw [e]
  rfl
theorem atI_nat {α : Type} (xs : List α) (i : Nat) : L2.atI xs (i : Int) = xs[i]? := by
  by_cases h : i < xs.length
  · simp [L2.atI, L2.ixN, h]
  · simp [L2.atI, L2.ixN, h]
/-- a comprehension over data whose turns leave the heap as it is -/
theorem ev_compP {C : Orc} {own : List Nat} {elt t it cond : E} {σ : Sg} {h : AH} {xs : List D} {ps : List PyData} (hit : evi C it σ h = .ok ⟨xs, none⟩ h) (hl : xs.length ≤ lim) (p : D → Bool) (f : D → D) (s : D → Sg)
    (H : ∀ x ∈ xs, asg C t x (wipeS σ own) h = .ok (s x) h ∧ ev C cond (s x) h = .ok (.b (p x)) h ∧ (p x = true → ev C elt (s x) h = .ok (f x) h)) (hp : pys ((xs.filter p).map f) = some ps) :
    ev C (.comp own elt t it cond) σ h = .ok (.py (.list ps)) h := by
  simp only [ev, hit, R.bind_ok, decide_eq_true hl, compL_pure (okS_none xs h) xs H, hp]
/-- .. over data, by a function on what stands behind -/
theorem ev_compM {α : Type} {C : Orc} {own : List Nat} {elt t it cond : E} {σ : Sg} {h : AH} {os : List α} {e : α → D} (hit : evi C it σ h = .ok ⟨os.map e, none⟩ h) (hl : os.length ≤ lim) (p : α → Bool) (f : α → PyData) (s : α → Sg)
    (H : ∀ o ∈ os, asg C t (e o) (wipeS σ own) h = .ok (s o) h ∧ ev C cond (s o) h = .ok (.b (p o)) h ∧ (p o = true → ev C elt (s o) h = .ok (.py (f o)) h)) :
    ev C (.comp own elt t it cond) σ h = .ok (.py (.list ((os.filter p).map f))) h := by
  have key : ∀ os : List α, (∀ o ∈ os, asg C t (e o) (wipeS σ own) h = .ok (s o) h ∧ ev C cond (s o) h = .ok (.b (p o)) h ∧ (p o = true → ev C elt (s o) h = .ok (.py (f o)) h)) → ∀ ok : AH → Bool, ok h = true →
      compL (asg C t) (ev C cond) (ev C elt) (wipeS σ own) ok (os.map e) h = .ok ((os.filter p).map fun o => .py (f o)) h := by
    intro os
    induction os with
    | nil =>
      intro _ ok hok
      simp [compL, hok]
    | cons o r ih =>
      intro H ok hok
      obtain ⟨h1, h2, h3⟩ := H o List.mem_cons_self
      have i2 := ih (fun y hy => H y (List.mem_cons_of_mem _ hy)) ok hok
      rw [List.map_cons, compL, hok]
      simp only [h1, h2, R.bind_ok]
      cases hp : p o with
      | true =>
        have ef : List.filter p (o :: r) = o :: List.filter p r := by rw [List.filter_cons, hp]; rfl
        simp only [h3 hp, R.bind_ok, i2, ef, List.map_cons]
      | false =>
        have ef : List.filter p (o :: r) = List.filter p r := by rw [List.filter_cons, hp]; rfl
        simp only [i2, ef]
  have pm : ∀ l : List α, pys (l.map fun o => D.py (f o)) = some (l.map f) := by
    intro l
    induction l with
    | nil => rfl
    | cons o r ih => simp [pys, ih]
  have hl2 : (os.map e).length ≤ lim := by rw [List.length_map]; exact hl
  simp only [ev, hit, R.bind_ok, decide_eq_true hl2, key os H _ (okS_none _ h), pm]
theorem bools_map {α : Type} (p : α → Bool) : ∀ os : List α, bools (os.map fun o => PyData.bool (p o)) = some (os.map p)
  | [] => rfl
  | o :: r => by simp [bools, bools_map p r]
theorem intL_map {α : Type} (p : α → Int) : ∀ os : List α, intL (os.map fun o => PyData.int (p o)) = some (os.map p)
  | [] => rfl
  | o :: r => by simp [intL, intL_map p r]
/-- a loop as a fold over what stands behind the items -/
theorem forL_foldM {α β : Type} {asg : D → Sg → AH → R Sg} {body : Sg → AH → R Out} {ok : AH → Bool} {e : β → D} (S : α → Sg) (Hp : α → AH) (step : α → β → α) :
    ∀ (xs : List β) (a : α), (∀ a, ok (Hp a) = true) → (∀ a x, x ∈ xs → ∃ σ1 h1, asg (e x) (S a) (Hp a) = .ok σ1 h1 ∧ body σ1 h1 = .ok (.nx (S (step a x))) (Hp (step a x))) →
      forL asg body ok (xs.map e) (S a) (Hp a) = .ok (.nx (S (xs.foldl step a))) (Hp (xs.foldl step a))
  | [], a, hok, _ => by rw [List.map_nil, forL, hok a]; rfl
  | x :: xs, a, hok, hs => by
    obtain ⟨σ1, h1, e1, e2⟩ := hs a x List.mem_cons_self
    rw [List.map_cons, forL, hok a]
    simp only [e1, R.bind_ok, e2, List.foldl_cons]
    exact forL_foldM S Hp step xs (step a x) hok fun a y hy => hs a y (List.mem_cons_of_mem _ hy)
theorem rangeL_map : ∀ (n : Nat) (lo : Int), rangeL lo n = (List.range n).map fun i => D.i (lo + (i : Nat))
  | 0, _ => rfl
  | n + 1, lo => by
    rw [rangeL, rangeL_map n (lo + 1), List.range_succ_eq_map, List.map_cons, List.map_map]
    have e : lo + ((0 : Nat) : Int) = lo := by simp
    rw [e]
    congr 1
    refine List.map_congr_left fun i _ => ?_
    show D.i (lo + 1 + (i : Int)) = D.i (lo + ((i + 1 : Nat) : Int))
    rw [show lo + 1 + (i : Int) = lo + ((i + 1 : Nat) : Int) by push_cast; omega]
theorem bi_lenT (ps : List PyData) : biP .len [.tuple ps] = some (.int ps.length) := rfl
theorem bi_lenL (ps : List PyData) : biP .len [.list ps] = some (.int ps.length) := rfl
theorem bi_min2 (a b : Int) : biP .min [.int a, .int b] = some (.int (if b < a then b else a)) := rfl
theorem bi_max2 (a b : Int) : biP .max [.int a, .int b] = some (.int (if b > a then b else a)) := rfl
theorem bi_tupT (ps : List PyData) : biP .tuple [.tuple ps] = some (.tuple ps) := rfl
theorem bi_tupL (ps : List PyData) : biP .tuple [.list ps] = some (.tuple ps) := rfl
theorem bi_listT (ps : List PyData) : biP .list [.tuple ps] = some (.list ps) := rfl
theorem bi_listL (ps : List PyData) : biP .list [.list ps] = some (.list ps) := rfl
theorem bi_intB (b : Bool) : biP .int [.bool b] = some (.int (if b then 1 else 0)) := rfl
theorem bi_all (ps : List PyData) : biP .all [.list ps] = (bools ps).map fun bs => .bool (bs.all id) := rfl
theorem bi_any (ps : List PyData) : biP .any [.list ps] = (bools ps).map fun bs => .bool (bs.any id) := rfl
theorem bi_sumL (ps : List PyData) : biP .sum [.list ps] = (intL ps).map fun ns => .int ns.sum := rfl
theorem bi_sumT (ps : List PyData) : biP .sum [.tuple ps] = (intL ps).map fun ns => .int ns.sum := rfl
theorem bi_dm {a b : Int} (h1 : 0 < b) (h2 : b < 1073741824) : biP .divmod [.int a, .int b] = some (.tuple [.int (a / b), .int (a % b)]) := by simp [biP, h1, h2]
theorem bin_add (h : AH) (a b : Int) : binD h .Add (.i a) (.i b) = some (.i (a + b)) := rfl
theorem bin_sub (h : AH) (a b : Int) : binD h .Sub (.i a) (.i b) = some (.i (a - b)) := rfl
theorem bin_mod (h : AH) (a b : Int) (hb : 0 < b) : binD h .Mod (.i a) (.i b) = some (.i (a % b)) := by simp [binD, toPy, binP, hb]
theorem bin_div (h : AH) (a b : Int) (h1 : 0 < b) (h2 : b < 1073741824) : binD h .FloorDiv (.i a) (.i b) = some (.i (a / b)) := by simp [binD, toPy, binP, h1, h2]
theorem bin_mul (h : AH) (a b : Int) (hs : small a = true) : binD h .Mult (.i a) (.i b) = some (.i (a * b)) := by simp [binD, toPy, binP, hs]
/-! ### the end of a heap -/
theorem get_end (h : AH) (o : O) : (h ++ [o])[h.length]? = some o := by simp
theorem set_end (h : AH) (o u : O) : (h ++ [o]).set h.length u = h ++ [u] := by simp
theorem take_end (h : AH) (o : O) : (h ++ [o]).take h.length = h := by simp
theorem leave_end (p : PyData) (h : AH) (o : O) : leave .pure h (.py p) (h ++ [o]) = .ok (.py p) h := by
  have c : Chg h (List.take (List.length h) (h ++ [o])) := by
    rw [take_end]
    exact chg_refl h
  unfold leave
  simp only [take_end]
  rw [if_pos c]
theorem pysI (ms : List Int) : pys (ms.map D.i) = some (ms.map .int) := by
  induction ms with
  | nil => rfl
  | cons m r ih => simp [pys, ih]
end Zm
/-! Zm 20: pens and draws (all laws have them); pairs of numbers, their order; enumerate. -/
namespace Zm
open PySem PySem.Spec PySem.W PyProof.Rows L2
/-- a pen -/
def PO (x f : Int) : O := .lst [.i x, .i f]
theorem PO_plain (x f : Int) : plainO (PO x f) := ⟨[.int x, .int f], rfl⟩
theorem PO_get (x f : Int) : PO x f = .lst [.i x, .i f] := rfl
theorem lt_of_get {α : Type} {h : List α} {l : Nat} {o : α} (e : h[l]? = some o) : l < h.length := by
  rw [List.getElem?_eq_some_iff] at e
  exact e.1
theorem chg_set {h : AH} {l : Nat} {o : O} (p : plainO o) : Chg h (h.set l o) := by
  refine ⟨by simp, fun i => ?_⟩
  rw [List.getElem?_set]
  by_cases e : l = i
  · by_cases e2 : l < h.length
    · rw [if_pos e, if_pos e2]
      exact .inr ⟨o, rfl, p⟩
    · rw [if_pos e, if_neg e2]
      subst e
      exact .inl (by rw [List.getElem?_eq_none (by omega)])
  · rw [if_neg e]
    exact .inl rfl
theorem chg_trans {a b c : AH} (h1 : Chg a b) (h2 : Chg b c) : Chg a c := by
  refine ⟨h2.1.trans h1.1, fun i => ?_⟩
  rcases h2.2 i with e | e
  · rw [e]
    exact h1.2 i
  · exact .inr e
/-- a def that leaves the old part plainly changed -/
theorem leave_chg {h h1 : AH} {p : PyData} (c : Chg h h1) (r : AH) : leave .pure h (.py p) (h1 ++ r) = .ok (.py p) h1 := by
  have e : (h1 ++ r).take h.length = h1 := by rw [← c.1]; simp
  have c' : Chg h ((h1 ++ r).take h.length) := by
    rw [e]
    exact c
  unfold leave
  simp only
  rw [if_pos c', e]
theorem leave_chg0 {h h1 : AH} {p : PyData} (c : Chg h h1) : leave .pure h (.py p) h1 = .ok (.py p) h1 := by
  have := leave_chg (p := p) c []
  rwa [List.append_nil] at this
/-! ### the cell, the pen, a draw -/
def bCell : S := .cons (.sif (.cmp .Lt (.var 1) (.bi .len (.cons (.var 0) (.nil)))) (.cons (.ret (.idx (.var 0) (.var 1))) (.nil)) (.nil)) (.cons (.ret (.lit (.int 0))) (.nil))
def fCell : Fn := ⟨2, 2, bCell, .pure⟩
def bPen : S := .cons (.asg (.var 1) (.bi .max (.cons (.var 0) (.cons (.bin .Sub (.lit (.int 0)) (.var 0)) (.nil))))) (.cons (.ret (.lst true (.cons (.var 1) (.cons (.bi .int (.cons (.cmp .GtE (.var 1) (.bin .Pow (.lit (.int 10)) (.lit (.int 18)))) (.nil))) (.nil))))) (.nil))
def fPen : Fn := ⟨1, 2, bPen, .fresh⟩
def bDraw : S := .cons (.sif (.cmp .Eq (.idx (.var 0) (.lit (.int 1))) (.lit (.int 1))) (.cons (.asg (.tup (.cons (.var 3) (.cons (.var 4) (.nil)))) (.bi .divmod (.cons (.idx (.var 0) (.lit (.int 0))) (.cons (.var 1) (.nil))))) (.cons (.asg (.idx (.var 0) (.lit (.int 0))) (.var 3)) (.cons (.ret (.var 4)) (.nil)))) (.nil)) (.cons (.asg (.var 2) (.bin .Mod (.bin .Mult (.bin .Add (.bin .Mod (.idx (.var 0) (.lit (.int 0))) (.lit (.int 2147483647))) (.lit (.int 40503))) (.lit (.int 69621))) (.lit (.int 2147483629)))) (.cons (.asg (.var 2) (.bin .Mod (.bin .Add (.bin .Mult (.var 2) (.var 2)) (.lit (.int 7817))) (.lit (.int 2147483587)))) (.cons (.asg (.idx (.var 0) (.lit (.int 0))) (.bin .Mod (.bin .Add (.bin .Mult (.var 2) (.lit (.int 48271))) (.lit (.int 11))) (.lit (.int 2147483629)))) (.cons (.ret (.bin .Mod (.bin .FloorDiv (.idx (.var 0) (.lit (.int 0))) (.lit (.int 32))) (.var 1))) (.nil)))))
def fDraw : Fn := ⟨2, 5, bDraw, .pure⟩
theorem cell_spec {F : List Fn} {j : Nat} (hj : F[j]? = some fCell) (k : Nat) (ns : List Int) (h : AH) : callN F (k + 1) j [.py (.list (ns.map .int)), .i 0] h = .ok (.i (ns.getD 0 0)) h := by
  rw [callN_succ F k j _ hj]
  cases ns with
  | nil => simp [runF, fCell, bCell, initS, ex, ev, evs, biD, toPys, toPy, bi_lenL, cmpD_int, cmp_ltI, leave_same]
  | cons n r =>
    have h0 : (0 : Int) < (r.length : Int) + 1 := by omega
    simp [runF, fCell, bCell, initS, ex, ev, evs, biD, toPys, toPy, bi_lenL, cmpD_int, cmp_ltI, idxD, idxP, atI_0, leave_same, h0]
theorem pysM (ps : List PyData) : pys (ps.map .py) = some ps := by
  induction ps with
  | nil => rfl
  | cons p r ih => simp [pys, ih]
/-- a def that leaves one new list -/
theorem leave_new (ps : List PyData) (h : AH) : leave .fresh h (.obj h.length) (h ++ [.lst (ps.map .py)]) = .ok (.obj h.length) (h ++ [.lst (ps.map .py)]) := by
  have c : Chg h ((h ++ [O.lst (ps.map .py)]).take h.length) ∧ h.length ≤ h.length := by
    rw [take_end]
    exact ⟨chg_refl h, Nat.le_refl _⟩
  unfold leave
  simp only [get_end, pysM]
  rw [if_pos c, take_end]
theorem pen_spec {F : List Fn} {j : Nat} (hj : F[j]? = some fPen) (k : Nat) (n : Int) (h : AH) : ∃ x f, callN F (k + 1) j [.i n] h = .ok (.obj h.length) (h ++ [PO x f]) := by
  rw [callN_succ F k j _ hj]
  have hs : small 10 = true := by decide
  refine ⟨if n < -n then -n else n, if 1000000000000000000 ≤ (if n < -n then -n else n) then 1 else 0, ?_⟩
  simp [runF, fPen, bPen, initS, ex, ev, evs, asg, biD, toPys, toPy, bi_max2, binD, binP, hs, cmpD_int, cmp_geI, bi_intB]
  exact leave_new [_, _] h
theorem set_get {h : AH} {l : Nat} {o u : O} (e : h[l]? = some o) : (h.set l u)[l]? = some u := by
  rw [List.getElem?_set_self (lt_of_get e)]
theorem draw_spec {F : List Fn} {j : Nat} (hj : F[j]? = some fDraw) (k : Nat) {l : Nat} {h : AH} {x f : Int} (hl : h[l]? = some (PO x f)) (m : Int) (m0 : 0 < m) (m1 : m < 1073741824) :
    ∃ g y, callN F (k + 1) j [.obj l, .i m] h = .ok (.i g) (h.set l (PO y f)) ∧ 0 ≤ g ∧ g < m := by
  rw [callN_succ F k j _ hj]
  by_cases hf : f = 1
  · refine ⟨x % m, x / m, ?_, Int.emod_nonneg _ (by omega), Int.emod_lt_of_pos _ m0⟩
    subst hf
    simp [runF, fDraw, bDraw, initS, ex, ev, evs, asg, asgs, idxD, hl, PO, atI_0, atI_1, cmpD_int, cmp_eqI, biD, toPys, toPy, bi_dm m0 m1, setIdx, L2.ixN]
    exact leave_chg0 (chg_set (PO_plain _ _))
  · have h1 : small ((x % 2147483647 + 40503)) = true := by
      have a := Int.emod_nonneg x (show (2147483647 : Int) ≠ 0 by decide)
      have b := Int.emod_lt_of_pos x (show (0 : Int) < 2147483647 by decide)
      unfold small
      simp only [Bool.and_eq_true, decide_eq_true_eq]
      omega
    have h2 : ∀ y : Int, small (y % 2147483629) = true := fun y => by
      have a := Int.emod_nonneg y (show (2147483629 : Int) ≠ 0 by decide)
      have b := Int.emod_lt_of_pos y (show (0 : Int) < 2147483629 by decide)
      unfold small
      simp only [Bool.and_eq_true, decide_eq_true_eq]
      omega
    have h3 : ∀ y : Int, small (y % 2147483587) = true := fun y => by
      have a := Int.emod_nonneg y (show (2147483587 : Int) ≠ 0 by decide)
      have b := Int.emod_lt_of_pos y (show (0 : Int) < 2147483587 by decide)
      unfold small
      simp only [Bool.and_eq_true, decide_eq_true_eq]
      omega
    have hs : ∃ s1 : Int, s1 = (x % 2147483647 + 40503) * 69621 % 2147483629 := ⟨_, rfl⟩
    obtain ⟨s1, e1⟩ := hs
    have hs : ∃ s2 : Int, s2 = (s1 * s1 + 7817) % 2147483587 := ⟨_, rfl⟩
    obtain ⟨s2, e2⟩ := hs
    have hs : ∃ y : Int, y = (s2 * 48271 + 11) % 2147483629 := ⟨_, rfl⟩
    obtain ⟨y, e3⟩ := hs
    have q1 : small s1 = true := by rw [e1]; exact h2 _
    have q2 : small s2 = true := by rw [e2]; exact h3 _
    have hg : (h.set l (O.lst [D.i y, D.i f]))[l]? = some (O.lst [D.i y, D.i f]) := List.getElem?_set_self (lt_of_get hl)
    refine ⟨y / 32 % m, y, ?_, Int.emod_nonneg _ (by omega), Int.emod_lt_of_pos _ m0⟩
    simp [runF, fDraw, bDraw, initS, ex, ev, evs, asg, asgs, idxD, hl, PO, atI_0, atI_1, cmpD_int, cmp_eqI, hf, bin_mod, bin_add, bin_mul, bin_div, h1, q1, q2, ← e1, ← e2, ← e3, setIdx, L2.ixN, m0, hg]
    exact leave_chg0 (chg_set (PO_plain _ _))
end Zm
namespace Zm
open PySem PySem.Spec PySem.W PyProof.Rows L2
/-! ### pairs of numbers -/
/-- two numbers in a tuple -/
def pr (o : Int × Int) : PyData := .tuple [.int o.1, .int o.2]
def leP (x y : Int × Int) : Bool := decide (x.1 < y.1 ∨ (x.1 = y.1 ∧ x.2 ≤ y.2))
theorem pr_depth (o : Int × Int) : (pr o).depth = 1 := by simp [pr, PyData.depth, PyData.depthAll]
theorem alike_pr (a b : Int × Int) : alike (pr a) (pr b) = true := by simp [pr, alike, alikeAll]
theorem sortOk_pr {α : Type} (g : α → Int × Int) (os : List α) : sortOk (os.map fun o => pr (g o)) = true := by
  unfold sortOk
  simp only [List.all_map, Bool.and_eq_true, Bool.or_eq_true]
  refine ⟨⟨?_, .inl ?_⟩, ?_⟩
  · rw [List.all_eq_true]
    intro a _
    rw [Function.comp_apply, List.all_eq_true]
    intro b _
    exact alike_pr _ _
  · rw [List.all_eq_true]
    intro a _
    rfl
  · rw [List.all_eq_true]
    intro a _
    rw [Function.comp_apply, pr_depth]
    rfl
theorem sortP_pr {α : Type} (g : α → Int × Int) (os : List α) : sortP (os.map fun o => pr (g o)) = (os.mergeSort fun x y => leP (g x) (g y)).map fun o => pr (g o) := by
  unfold sortP
  refine (List.map_mergeSort fun a _ b _ => ?_).symm
  have e := congrFun (congrFun (dataLe_ii (fun o : α => (g o).1) (fun o => (g o).2)) a) b
  exact e.symm
/-! ### how long a shown datum is at most -/
mutual
def wt : PyData → Nat
  | .none => 4
  | .bool _ => 5
  | .int i => i.natAbs.log2 + 2
  | .str x => if x.cps.toList.all fun c => decide (c < 16 ^ 8) then 10 * x.length + 2 else 1000000000
  | .list xs => wtAll xs + 3
  | .tuple xs => wtAll xs + 3
  | .dict _ => 1000000000
def wtAll : List PyData → Nat
  | [] => 0
  | x :: r => wt x + 2 + wtAll r
end
theorem join_len : ∀ ts : List Str, (Str.join ", " ts).length ≤ (ts.map fun t => t.length + 2).sum
  | [] => by simp [Str.join, Str.length, Str.empty]
  | [x] => by show x.length ≤ _; simp
  | x :: y :: r => by
    have ih := join_len (y :: r)
    show (x ++ ", " ++ Str.join ", " (y :: r)).length ≤ _
    have e2 : ((", " : String) : Str).length = 2 := rfl
    rw [strLen_append, strLen_append, e2, List.map_cons, List.sum_cons]
    omega
theorem textFrom_le : ∀ (ts : List Str) (k : Nat) (acc : Str), (textFrom k acc ts).length ≤ acc.length + (ts.map fun t => t.length + 2).sum
  | [], k, acc => by simp [textFrom]
  | t :: r, k, acc => by
    have ih := textFrom_le r (k + 1) (acc ++ (if k > 0 then ", " else "" : String) ++ t)
    have e : (acc ++ (if k > 0 then ", " else "" : String) ++ t).length ≤ acc.length + 2 + t.length := by
      rw [strLen_append, strLen_append]
      have : (((if k > 0 then ", " else "" : String) : Str)).length ≤ 2 := by split <;> decide
      omega
    rw [textFrom, List.map_cons, List.sum_cons]
    omega
mutual
theorem shown_wt : ∀ p : PyData, p.shown.length ≤ wt p ∨ 1000000000 ≤ wt p
  | .none => .inl (by simp only [PyData.shown, wt]; decide)
  | .bool b => .inl (by cases b <;> (simp only [PyData.shown, wt]; decide))
  | .int i => .inl (by
      have := int_text_length_le (a := i) (k := i.natAbs.log2 + 1) (by omega) (by omega)
      simp only [PyData.shown, wt]
      rw [show ((toString i : String) : Str) = Str.ofString (toString i) from rfl, PySem.ofString_length]
      omega)
  | .str x => by
    by_cases h : (x.cps.toList.all fun c => decide (c < 16 ^ 8)) = true
    · left
      simp only [PyData.shown, wt]
      rw [if_pos h]
      exact PySem.StrLaws.reprText_len x fun c hc => by
        have := List.all_eq_true.mp h c hc
        exact of_decide_eq_true this
    · right
      simp only [wt]
      rw [if_neg h]
      exact Nat.le_refl _
  | .list xs => by
    rcases shown_wtAll xs with e | e
    · left
      simp only [PyData.shown, wt, listText]
      have := textFrom_le (PyData.shownAll xs) 0 "["
      rw [strLen_append]
      have e1 : (("[" : String) : Str).length = 1 := rfl
      have e2 : (("]" : String) : Str).length = 1 := rfl
      omega
    · right
      simp only [wt]
      omega
  | .tuple xs => by
    rcases shown_wtAll xs with e | e
    · left
      simp only [PyData.shown, wt, tupleText]
      have := join_len (PyData.shownAll xs)
      rw [strLen_append, strLen_append]
      have e1 : (("(" : String) : Str).length = 1 := rfl
      have e2 : (((if (PyData.shownAll xs).length == 1 then ",)" else ")" : String) : Str)).length ≤ 2 := by split <;> decide
      omega
    · right
      simp only [wt]
      omega
  | .dict _ => .inr (by simp only [wt]; exact Nat.le_refl _)
theorem shown_wtAll : ∀ xs : List PyData, ((PyData.shownAll xs).map fun t => t.length + 2).sum ≤ wtAll xs ∨ 1000000000 ≤ wtAll xs
  | [] => .inl (by simp [PyData.shownAll, wtAll])
  | x :: r => by
    simp only [PyData.shownAll, wtAll, List.map_cons, List.sum_cons]
    rcases shown_wt x with e | e <;> rcases shown_wtAll r with q | q <;> omega
end
theorem strOk_app (a b : Str) : PyData.strOk (a ++ b) = (PyData.strOk a && PyData.strOk b) := by
  show (a.cps ++ b.cps).all _ = _
  rw [Array.all_append]
  rfl
theorem strOk_of (s : String) : PyData.strOk (Str.ofString s) = true := by
  rw [Str.ofString_eq_toList]
  unfold PyData.strOk
  simp only [List.all_toArray, List.all_map, List.all_eq_true]
  intro c _
  have := c.valid
  unfold UInt32.isValidChar Nat.isValidChar at this
  simp only [Function.comp_apply, decide_eq_true_eq]
  show c.val.toNat < 0x110000
  omega
theorem hex_ok (n : Nat) : ∀ c ∈ (Nat.toDigits 16 n).map Char.toNat, c < 0x110000 := by
  intro c hc
  obtain ⟨d, _, rfl⟩ := List.mem_map.mp hc
  have := d.valid
  unfold UInt32.isValidChar Nat.isValidChar at this
  show d.val.toNat < 0x110000
  omega
theorem reprChar_ok {q c : Nat} (hc : c < 0x110000) : ∀ d ∈ Builtin.Str.reprChar q c, d < 0x110000 := by
  intro d hd
  have hx := hex_ok c
  unfold Builtin.Str.reprChar at hd
  dsimp only at hd
  have key : ∀ w : Nat, d ∈ List.replicate w 48 ++ (Nat.toDigits 16 c).map Char.toNat → d < 0x110000 := fun w h => by
    rcases List.mem_append.mp h with h | h
    · have := List.eq_of_mem_replicate h
      omega
    · exact hx d h
  repeat' split at hd
  all_goals simp only [List.mem_cons, List.not_mem_nil, or_false, List.cons_append, List.nil_append] at hd
  all_goals first
    | omega
    | (rcases hd with h | h | h
       · omega
       · omega
       · exact key _ h)
theorem foldl_ok (q : Nat) : ∀ (l : List Nat) (acc : Array Nat), (∀ c ∈ l, c < 0x110000) → (∀ c ∈ acc.toList, c < 0x110000) → ∀ c ∈ (l.foldl (fun out c => out ++ (Builtin.Str.reprChar q c).toArray) acc).toList, c < 0x110000
  | [], acc, _, h => h
  | x :: r, acc, hl, h => by
    refine foldl_ok q r _ (fun c hc => hl c (List.mem_cons_of_mem _ hc)) fun c hc => ?_
    rw [Array.toList_append, List.mem_append] at hc
    rcases hc with hc | hc
    · exact h c hc
    · exact reprChar_ok (hl x List.mem_cons_self) c hc
theorem strOk_iff (x : Str) : PyData.strOk x = true ↔ ∀ c ∈ x.cps.toList, c < 0x110000 := by
  unfold PyData.strOk
  rw [← Array.all_toList, List.all_eq_true]
  simp
theorem strOk_repr {x : Str} (h : PyData.strOk x = true) : PyData.strOk (reprText x) = true := by
  rw [strOk_iff] at h ⊢
  intro c hc
  have hq : reprQuote x < 0x110000 := by
    unfold reprQuote
    split <;> decide
  unfold reprText at hc
  simp only [Array.toList_push, List.mem_append, List.mem_singleton] at hc
  rcases hc with hc | hc
  · rw [← Array.foldl_toList] at hc
    refine foldl_ok (reprQuote x) x.cps.toList #[reprQuote x] h (fun d hd => ?_) c hc
    simp at hd
    omega
  · omega
mutual
/-- texts of signs that there are, no dict -/
def noText : PyData → Bool
  | .none | .bool _ | .int _ => true
  | .str x => PyData.strOk x
  | .list xs | .tuple xs => noTextAll xs
  | .dict _ => false
def noTextAll : List PyData → Bool
  | [] => true
  | x :: r => noText x && noTextAll r
end
theorem strOk_join : ∀ ts : List Str, (∀ t ∈ ts, PyData.strOk t = true) → PyData.strOk (Str.join ", " ts) = true
  | [], _ => by simp [Str.join, PyData.strOk, Str.empty]
  | [x], h => h x List.mem_cons_self
  | x :: y :: r, h => by
    have ih := strOk_join (y :: r) fun t ht => h t (List.mem_cons_of_mem _ ht)
    show PyData.strOk (x ++ ", " ++ Str.join ", " (y :: r)) = true
    rw [strOk_app, strOk_app, h x List.mem_cons_self, ih, strOk_of]
    rfl
theorem strOk_from : ∀ (ts : List Str) (k : Nat) (acc : Str), PyData.strOk acc = true → (∀ t ∈ ts, PyData.strOk t = true) → PyData.strOk (textFrom k acc ts) = true
  | [], k, acc, h, _ => h
  | t :: r, k, acc, h, ht => by
    refine strOk_from r (k + 1) _ ?_ fun u hu => ht u (List.mem_cons_of_mem _ hu)
    rw [strOk_app, strOk_app, h, ht t List.mem_cons_self, strOk_of]
    rfl
mutual
theorem strOk_shown : ∀ p : PyData, noText p = true → PyData.strOk p.shown = true
  | .none, _ => by simp only [PyData.shown]; exact strOk_of _
  | .bool b, _ => by
    simp only [PyData.shown]
    split <;> exact strOk_of _
  | .int i, _ => by
    simp only [PyData.shown]
    exact strOk_of _
  | .str x, h => by
    simp only [PyData.shown]
    exact strOk_repr (by simpa [noText] using h)
  | .list xs, h => by
    simp only [PyData.shown, listText]
    rw [strOk_app, strOk_from _ 0 _ (strOk_of _) (strOk_shownAll xs (by simpa [noText] using h)), strOk_of]
    rfl
  | .tuple xs, h => by
    simp only [PyData.shown, tupleText]
    rw [strOk_app, strOk_app, strOk_join _ (strOk_shownAll xs (by simpa [noText] using h)), strOk_of, strOk_of]
    rfl
  | .dict _, h => by simp [noText] at h
theorem strOk_shownAll : ∀ xs : List PyData, noTextAll xs = true → ∀ t ∈ PyData.shownAll xs, PyData.strOk t = true
  | [], _ => by simp [PyData.shownAll]
  | x :: r, h => by
    simp only [noTextAll, Bool.and_eq_true] at h
    intro t ht
    simp only [PyData.shownAll, List.mem_cons] at ht
    rcases ht with e | e
    · rw [e]; exact strOk_shown x h.1
    · exact strOk_shownAll r h.2 t e
end
def offs (os : List (Int × Int)) : PyData := .tuple (os.map pr)
theorem bi_sorted_pr {α : Type} (g : α → Int × Int) (os : List α) : biP .sorted [.list (os.map fun o => pr (g o))] = some (.list ((os.mergeSort fun x y => leP (g x) (g y)).map fun o => pr (g o))) := by
  simp only [biP, seqP]
  rw [if_pos (sortOk_pr g os), sortP_pr]
theorem enumD_zip {α : Type} (f : α → PyData) : ∀ (os : List α) (k : Nat), enumD (k : Int) ((os.map f).map D.py) = (os.zipIdx k).map fun x => D.py (.tuple [.int (x.2 : Int), f x.1])
  | [], _ => rfl
  | o :: r, k => by
    have ih := enumD_zip f r (k + 1)
    rw [List.map_cons, List.map_cons, enumD, List.zipIdx_cons, List.map_cons, ← ih]
    rfl
/-! ### repr -/
mutual
theorem noDict_of : ∀ p : PyData, noText p = true → p.hasDict = false
  | .none, _ => rfl
  | .bool _, _ => rfl
  | .int _, _ => rfl
  | .str _, _ => rfl
  | .list xs, h => by simpa [PyData.hasDict] using noDict_ofAll xs (by simpa [noText] using h)
  | .tuple xs, h => by simpa [PyData.hasDict] using noDict_ofAll xs (by simpa [noText] using h)
  | .dict _, h => by simp [noText] at h
theorem noDict_ofAll : ∀ xs : List PyData, noTextAll xs = true → PyData.hasDictAll xs = false
  | [], _ => rfl
  | x :: r, h => by
    simp only [noTextAll, Bool.and_eq_true] at h
    simp [PyData.hasDictAll, noDict_of x h.1, noDict_ofAll r h.2]
end
theorem repr_ok {p : PyData} (hn : noText p = true) (hs : p.showable = true) (hd : p.depth ≤ 64) (hw : wt p ≤ lim) : biP .repr [p] = some (.str p.shown) := by
  have h1 := noDict_of p hn
  have h2 : p.shown.length ≤ lim := by
    rcases shown_wt p with e | e
    · omega
    · unfold lim at hw
      omega
  simp [biP, h1, hs, hd, h2]
theorem wtAll_le {B : Nat} : ∀ {ps : List PyData}, (∀ p ∈ ps, wt p ≤ B) → wtAll ps ≤ (B + 2) * ps.length
  | [], _ => by simp [wtAll]
  | p :: r, h => by
    have h1 := h p List.mem_cons_self
    have h2 := wtAll_le (ps := r) fun q hq => h q (List.mem_cons_of_mem _ hq)
    rw [wtAll, List.length_cons, Nat.mul_succ]
    omega
theorem noTextAll_of {ps : List PyData} (h : ∀ p ∈ ps, noText p = true) : noTextAll ps = true := by
  induction ps with
  | nil => rfl
  | cons p r ih => simp [noTextAll, h p List.mem_cons_self, ih fun q hq => h q (List.mem_cons_of_mem _ hq)]
theorem showableAll_of {ps : List PyData} (h : ∀ p ∈ ps, p.showable = true) : PyData.showableAll ps = true := by
  induction ps with
  | nil => rfl
  | cons p r ih => simp [PyData.showableAll, h p List.mem_cons_self, ih fun q hq => h q (List.mem_cons_of_mem _ hq)]
theorem depthAll_le {B : Nat} {ps : List PyData} (h : ∀ p ∈ ps, p.depth ≤ B) : PyData.depthAll ps ≤ B := by
  induction ps with
  | nil => exact Nat.zero_le _
  | cons p r ih =>
    have h1 := h p List.mem_cons_self
    have h2 := ih fun q hq => h q (List.mem_cons_of_mem _ hq)
    rw [PyData.depthAll]
    omega
/-- data that repr may be asked of: no text, no dict, d deep, at most n signs -/
structure Rp (p : PyData) (d n : Nat) : Prop where
  nt : noText p = true
  sh : p.showable = true
  dp : p.depth ≤ d
  wt : Zm.wt p ≤ n
theorem Rp.mono {p : PyData} {d n d' n' : Nat} (h : Rp p d n) (hd : d ≤ d') (hn : n ≤ n') : Rp p d' n' := ⟨h.nt, h.sh, Nat.le_trans h.dp hd, Nat.le_trans h.wt hn⟩
theorem Rp.int {n : Int} (h1 : -1024 < n) (h2 : n < 1024) : Rp (.int n) 0 11 := by
  have h3 : n.natAbs < 2 ^ 10 := by omega
  have h4 : n.natAbs.log2 ≤ 9 := by
    by_cases h0 : n.natAbs = 0
    · rw [h0]; decide
    · have := (Nat.log2_lt h0).mpr h3
      omega
  refine ⟨rfl, ?_, Nat.le_refl _, ?_⟩
  · simp only [PyData.showable, decide_eq_true_eq]
    omega
  · simp only [Zm.wt]
    omega
theorem Rp.tuple {ps : List PyData} {d n m : Nat} (h : ∀ p ∈ ps, Rp p d n) (hm : (n + 2) * ps.length + 3 ≤ m) : Rp (.tuple ps) (d + 1) m := by
  have h1 := depthAll_le fun p hp => (h p hp).dp
  have h2 := wtAll_le fun p hp => (h p hp).wt
  refine ⟨?_, ?_, ?_, ?_⟩
  · rw [noText]; exact noTextAll_of fun p hp => (h p hp).nt
  · rw [PyData.showable]; exact showableAll_of fun p hp => (h p hp).sh
  · rw [PyData.depth]; omega
  · rw [Zm.wt]; omega
theorem Rp.list {ps : List PyData} {d n m : Nat} (h : ∀ p ∈ ps, Rp p d n) (hm : (n + 2) * ps.length + 3 ≤ m) : Rp (.list ps) (d + 1) m := by
  have h1 := depthAll_le fun p hp => (h p hp).dp
  have h2 := wtAll_le fun p hp => (h p hp).wt
  refine ⟨?_, ?_, ?_, ?_⟩
  · rw [noText]; exact noTextAll_of fun p hp => (h p hp).nt
  · rw [PyData.showable]; exact showableAll_of fun p hp => (h p hp).sh
  · rw [PyData.depth]; omega
  · rw [Zm.wt]; omega
theorem Rp.repr {p : PyData} {d n : Nat} (h : Rp p d n) (hd : d ≤ 64) (hn : n ≤ 1000000) : biP .repr [p] = some (.str p.shown) := repr_ok h.nt h.sh (Nat.le_trans h.dp hd) (Nat.le_trans h.wt hn)
theorem Rp.shp {p : PyData} {d n : Nat} (h : Rp p d n) : shp (.str p.shown) = true := by
  have e : PyData.strOk p.shown = true := strOk_shown p h.nt
  unfold Zm.shp SeqAt.shaped
  simp [PyData.canLay0, PyData.depth, e]
theorem str_same (x : Str) : PyData.eqv (.str x) (.str x) = true := by simp [PyData.eqv]
/-- a repr is like itself -/
theorem Rp.same {p : PyData} {d n : Nat} (h : Rp p d n) (hp : AH) : cmpD hp .NotEq (.py (.str p.shown)) (.py (.str p.shown)) = some false := by
  rw [cmpD_py (fun z => by cases z)]
  simp [cmpP, h.shp, str_same]
/-! ### loops -/
/-- a loop as a fold whose state keeps a promise -/
theorem forL_foldI {α β : Type} {asg : D → Sg → AH → R Sg} {body : Sg → AH → R Out} {ok : AH → Bool} {e : β → D} (S : α → Sg) (Hp : α → AH) (step : α → β → α) (I : Nat → α → Prop) (N : Nat) (Q : β → Prop) (hok : ∀ j a, I j a → ok (Hp a) = true)
    (hs : ∀ j a x, j < N → I j a → Q x → (∃ σ1 h1, asg (e x) (S a) (Hp a) = .ok σ1 h1 ∧ body σ1 h1 = .ok (.nx (S (step a x))) (Hp (step a x))) ∧ I (j + 1) (step a x)) :
    ∀ (xs : List β) (i : Nat) (a : α), i + xs.length ≤ N → I i a → (∀ x ∈ xs, Q x) → forL asg body ok (xs.map e) (S a) (Hp a) = .ok (.nx (S (xs.foldl step a))) (Hp (xs.foldl step a)) ∧ I (i + xs.length) (xs.foldl step a)
  | [], i, a, _, hI, _ => ⟨by rw [List.map_nil, forL, hok i a hI]; rfl, hI⟩
  | x :: xs, i, a, hN, hI, hQ => by
    rw [List.length_cons] at hN
    obtain ⟨⟨σ1, h1, e1, e2⟩, h3⟩ := hs i a x (by omega) hI (hQ x List.mem_cons_self)
    obtain ⟨h4, h5⟩ := forL_foldI S Hp step I N Q hok hs xs (i + 1) (step a x) (by omega) h3 fun y hy => hQ y (List.mem_cons_of_mem _ hy)
    refine ⟨?_, ?_⟩
    · rw [List.map_cons, forL, hok i a hI]
      simp only [e1, R.bind_ok, e2, List.foldl_cons]
      exact h4
    · rw [List.length_cons, show i + (xs.length + 1) = i + 1 + xs.length by omega, List.foldl_cons]
      exact h5
/-- a drawn place in a row -/
theorem atI_draw {α : Type} {xs : List α} {g : Int} (h0 : 0 ≤ g) (h1 : g < xs.length) : ∃ x, L2.atI xs g = some x ∧ x ∈ xs := by
  obtain ⟨n, rfl⟩ := Int.eq_ofNat_of_zero_le h0
  have hn : n < xs.length := by omega
  exact ⟨xs[n], by rw [Zm.atI_nat, List.getElem?_eq_getElem hn], List.getElem_mem hn⟩
theorem intL_ints (ns : List Int) : intL (ns.map .int) = some ns := by
  have := intL_map id ns
  rwa [List.map_id] at this
theorem sset_ints {ns : List Int} (hl : ns.length < 60) : ssetP [.list (ns.map .int)] = some (.list ((ssetI ns).map .int)) := by
  simp only [ssetP, seqP, intL_ints]
  rw [if_pos hl]
/-! ### draws from a pen that stands below new objects -/
theorem draw_at {F : List Fn} {j : Nat} (hj : F[j]? = some fDraw) (k : Nat) {l : Nat} {h : AH} (hl : l < h.length) (r : AH) (x f m : Int) (m0 : 0 < m) (m1 : m < 1073741824) :
    ∃ g y, callN F (k + 1) j [.obj l, .i m] (h.set l (PO x f) ++ r) = .ok (.i g) (h.set l (PO y f) ++ r) ∧ 0 ≤ g ∧ g < m := by
  have hg : (h.set l (PO x f) ++ r)[l]? = some (PO x f) := by
    rw [List.getElem?_append_left (by rw [List.length_set]; exact hl), List.getElem?_set_self hl]
  obtain ⟨g, y, e, h1, h2⟩ := draw_spec hj k hg m m0 m1
  refine ⟨g, y, ?_, h1, h2⟩
  rw [e, List.set_append_left _ _ (by rw [List.length_set]; exact hl), List.set_set]
theorem set_back {h : AH} {l : Nat} {o : O} (e : h[l]? = some o) : h.set l o = h := by
  refine List.ext_getElem? fun i => ?_
  rw [List.getElem?_set]
  by_cases c : l = i
  · subst c
    rw [if_pos rfl, if_pos (lt_of_get e), e]
  · rw [if_neg c]
theorem get_end2 (h : AH) (l : Nat) (p o : O) : (h.set l p ++ [o])[h.length]? = some o := by
  have := get_end (h.set l p) o
  rwa [List.length_set] at this
theorem set_end2 (h : AH) (l : Nat) (p o u : O) : (h.set l p ++ [o]).set h.length u = h.set l p ++ [u] := by
  have := set_end (h.set l p) o u
  rwa [List.length_set] at this
theorem pysF {α : Type} (f : α → PyData) (os : List α) : pys (os.map fun o => D.py (f o)) = some (os.map f) := by
  induction os with
  | nil => rfl
  | cons p r ih => simp [pys, ih]
theorem canLay_pr (o : Int × Int) : (pr o).canLay0 = true := by simp [pr, PyData.canLay0, PyData.canLayAll0]
theorem canLayAll_of {ps : List PyData} (h : ∀ p ∈ ps, p.canLay0 = true) : PyData.canLayAll0 ps = true := by
  induction ps with
  | nil => rfl
  | cons p r ih => simp [PyData.canLayAll0, h p List.mem_cons_self, ih fun q hq => h q (List.mem_cons_of_mem _ hq)]
theorem shp_offs (os : List (Int × Int)) : shp (offs os) = true := by
  have h1 : PyData.canLayAll0 (os.map pr) = true := canLayAll_of fun p hp => by
    obtain ⟨o, _, rfl⟩ := List.mem_map.mp hp
    exact canLay_pr o
  have h2 : PyData.depthAll (os.map pr) ≤ 1 := depthAll_le fun p hp => by
    obtain ⟨o, _, rfl⟩ := List.mem_map.mp hp
    rw [pr_depth]
    exact Nat.le_refl _
  unfold Zm.shp SeqAt.shaped offs
  rw [PyData.canLay0, PyData.depth, h1, Bool.true_and, decide_eq_true_eq]
  exact Nat.le_trans (Nat.succ_le_succ h2) (by decide)
theorem ne_nil (os : List (Int × Int)) (h : AH) : cmpD h .NotEq (.py (offs os)) (.py (.tuple [])) = some (!os.isEmpty) := by
  rw [cmpD_py (fun z => by cases z)]
  have e : Zm.shp (.tuple []) = true := by decide
  simp only [cmpP, shp_offs, e, Bool.and_self, if_true]
  cases os <;> simp [offs, PyData.eqv, PyData.eqvAll]
theorem idx_pr0 (h : AH) (o : Int × Int) : idxD h (.py (pr o)) (.py (.int 0)) = some (.i o.1) := by simp [idxD, idxP, pr, atI_0]
theorem idx_pr1 (h : AH) (o : Int × Int) : idxD h (.py (pr o)) (.py (.int 1)) = some (.i o.2) := by simp [idxD, idxP, pr, atI_1]
theorem idx_offs {h : AH} {os : List (Int × Int)} {g : Int} {o : Int × Int} (e : L2.atI (os.map pr) g = some (pr o)) : idxD h (.py (offs os)) (.i g) = some (.py (pr o)) := by simp [idxD, idxP, offs, e]
theorem idx_lst {h : AH} {ps : List PyData} {g : Int} {p : PyData} (e : L2.atI ps g = some p) : idxD h (.py (.list ps)) (.i g) = some (.py p) := by simp [idxD, idxP, e]
theorem idx_tup {h : AH} {ps : List PyData} {g : Int} {p : PyData} (e : L2.atI ps g = some p) : idxD h (.py (.tuple ps)) (.i g) = some (.py p) := by simp [idxD, idxP, e]
theorem len_offs (os : List (Int × Int)) : biP .len [offs os] = some (.int os.length) := by simp [offs, biP]
theorem cutP_map {α β : Type} (f : α → β) (xs : List α) (u v : Option Int) : cutP (xs.map f) u v = (cutP xs u v).map f := by
  unfold cutP
  rw [List.length_map, List.map_take, List.map_drop]
theorem cutP_len {α : Type} (xs : List α) (u v : Option Int) : (cutP xs u v).length ≤ xs.length := by
  unfold cutP
  rw [List.length_take, List.length_drop]
  omega
theorem sli_ints (ns : List Int) (u v : Option Int) : sliP (.list (ns.map .int)) u v = some (.list ((cutP ns u v).map .int)) := by
  show some (PyData.list (cutP (ns.map .int) u v)) = _
  rw [cutP_map]
/-- the cells of a script: the first, and some more -/
theorem cells_evi {C : Orc} {j : Nat} {ns : List Int} {σ : Sg} {h : AH} (hc : C j [.py (.list (ns.map .int)), .i 0] h = .ok (.i (ns.getD 0 0)) h) (hs : σ[0]? = some (some (.py (.list (ns.map .int))))) (hl : ns.length ≤ 63) (u v : Int) :
    evi C (.cons (.bin .Add (.lst false (.cons (.call j (.cons (.var 0) (.cons (.lit (.int 0)) (.nil)))) (.nil))) (.sli (.var 0) (.cons (.lit (.int u)) .nil) (.cons (.lit (.int v)) .nil))) .nil) σ h = .ok ⟨(ns.getD 0 0 :: cutP ns (some u) (some v)).map D.i, none⟩ h := by
  have h1 := cutP_len ns (some u) (some v)
  have h2 : (cutP ns (some u) (some v)).length + 1 ≤ lim := by unfold lim; omega
  simp only [evi, ev, evs, evp, hs, hc, R.bind_ok, partD, toPy, sli_ints, Option.map_some, rO_some, pys]
  simp [binD, toPy, binP, seqP]
  rw [if_pos (by omega)]
  simp [seqP]
theorem r62_nat {n : Nat} (hn : n < 1000000) : r62 (n : Nat) = true := by
  unfold r62
  simp only [Bool.and_eq_true, decide_eq_true_eq]
  omega
theorem evi_rng0 {C : Orc} {a : E} {σ : Sg} {h h1 : AH} {n : Nat} (e : ev C a σ h = .ok (.i (n : Nat)) h1) (hn : r62 (n : Nat) = true) : evi C (.rng1 a) σ h = .ok ⟨rangeL 0 ((n : Nat) : Int).toNat, none⟩ h1 := by
  rw [evi, e, R.bind_ok]
  exact if_pos hn
theorem evi_rng1 {C : Orc} {a : E} {σ : Sg} {h h1 : AH} {n : Nat} (e : ev C a σ h = .ok (.i (n : Nat)) h1) (hn : n < 1000000) : evi C (.rng1 a) σ h = .ok ⟨rangeL 0 n, none⟩ h1 := by
  have := evi_rng0 e (r62_nat hn)
  rw [Int.toNat_natCast] at this
  exact this
end Zm
/-! Zm 21: plain laws on data of any kind. -/
namespace Zm
open PySem PySem.Spec PySem.W PyProof.Rows L2
/-- a whole number between two -/
def wi (p : PyData) (a b : Int) : Bool := match p with
  | .int n => decide (a ≤ n) && decide (n ≤ b)
  | _ => false
theorem wi_int {p : PyData} {a b : Int} (h : wi p a b = true) : ∃ n, p = .int n ∧ a ≤ n ∧ n ≤ b := by
  cases p with
  | int n =>
    simp only [wi, Bool.and_eq_true, decide_eq_true_eq] at h
    exact ⟨n, rfl, h.1, h.2⟩
  | _ => cases h
theorem all_wi {a b : Int} : ∀ {ps : List PyData}, ps.all (fun p => wi p a b) = true → ∃ ns : List Int, ps = ns.map .int ∧ ∀ n ∈ ns, a ≤ n ∧ n ≤ b
  | [], _ => ⟨[], rfl, fun _ h => absurd h List.not_mem_nil⟩
  | p :: r, h => by
    rw [List.all_cons, Bool.and_eq_true] at h
    obtain ⟨n, rfl, h1, h2⟩ := wi_int h.1
    obtain ⟨ns, rfl, h3⟩ := all_wi h.2
    exact ⟨n :: ns, rfl, fun m hm => by
      rcases List.mem_cons.mp hm with e | e
      · rw [e]; exact ⟨h1, h2⟩
      · exact h3 m e⟩
theorem wi_ints {a b : Int} {ns : List Int} : ((ns.map PyData.int).all fun p => wi p a b) = ns.all fun n => decide (a ≤ n) && decide (n ≤ b) := by
  rw [List.all_map]
  rfl
/-- strictly rising -/
def rz (ns : List Int) : Bool := (ns.zip (ns.drop 1)).all fun x => decide (x.1 < x.2)
theorem rz_cons {x y : Int} {r : List Int} : rz (x :: y :: r) = (decide (x < y) && rz (y :: r)) := rfl
theorem rz_iff : ∀ {ns : List Int}, rz ns = true ↔ ns.Pairwise (· < ·)
  | [] => by simp [rz]
  | [x] => by simp [rz]
  | x :: y :: r => by
    rw [rz_cons, Bool.and_eq_true, rz_iff, List.pairwise_cons (a := x), decide_eq_true_eq]
    constructor
    · intro ⟨h1, h2⟩
      refine ⟨fun z hz => ?_, h2⟩
      rcases List.mem_cons.mp hz with e | e
      · rw [e]; exact h1
      · exact Int.lt_trans h1 ((List.pairwise_cons.mp h2).1 z e)
    · intro ⟨h1, h2⟩
      exact ⟨h1 y List.mem_cons_self, h2⟩
/-- some of six persons, in order -/
def aps (m : Int) (p : PyData) : Bool := match p with
  | .tuple ps => ps.all (fun q => wi q 0 m) && (match intL ps with
    | some ns => rz ns
    | none => false)
  | _ => false
theorem aps_ints {m : Int} {p : PyData} (h : aps m p = true) : ∃ ns : List Int, p = .tuple (ns.map .int) ∧ (∀ n ∈ ns, 0 ≤ n ∧ n ≤ m) ∧ ns.Pairwise (· < ·) := by
  cases p with
  | tuple ps =>
    simp only [aps, Bool.and_eq_true] at h
    obtain ⟨ns, rfl, h1⟩ := all_wi h.1
    have h2 := h.2
    rw [intL_ints] at h2
    exact ⟨ns, rfl, h1, rz_iff.mp h2⟩
  | _ => cases h
theorem aps_of {m : Int} {ns : List Int} : aps m (.tuple (ns.map .int)) = (ns.all (fun n => decide (0 ≤ n) && decide (n ≤ m)) && rz ns) := by
  simp only [aps, wi_ints, intL_ints]
theorem aps_no {m : Int} {ps : List PyData} (h : ps.all (fun q => wi q 0 m) = false) : aps m (.tuple ps) = false := by
  simp only [aps, h, Bool.false_and]
/-! ### parts of rows -/
theorem cut_1 {α : Type} (xs : List α) : cutP xs (some 1) none = xs.drop 1 := by
  cases xs with
  | nil => rfl
  | cons x r =>
    have e1 : HT.sIx (x :: r).length 0 (some 1) = 1 := by
      unfold HT.sIx
      simp only [List.length_cons]
      rw [if_neg (by decide)]
      have : ((1 : Int)).toNat = 1 := rfl
      omega
    have e2 : HT.sIx (x :: r).length (x :: r).length none = (x :: r).length := rfl
    unfold cutP
    rw [e1, e2]
    exact List.take_of_length_le (by simp)
theorem zipD_ints : ∀ (ns ms : List Int), zipD ((ns.map PyData.int).map D.py) ((ms.map PyData.int).map D.py) = (ns.zip ms).map fun x => D.py (pr x)
  | [], _ => rfl
  | _ :: _, [] => rfl
  | n :: ns, m :: ms => by
    have ih := zipD_ints ns ms
    show mkTup [.i n, .i m] :: zipD _ _ = D.py (pr (n, m)) :: _
    rw [ih]
    rfl
/-! ### equal rows of numbers -/
theorem eqvAll_ints : ∀ a b : List Int, PyData.eqvAll (a.map .int) (b.map .int) = decide (a = b)
  | [], [] => rfl
  | [], _ :: _ => rfl
  | _ :: _, [] => rfl
  | x :: a, y :: b => by
    rw [List.map_cons, List.map_cons, PyData.eqvAll, eqvAll_ints a b, eqv_int]
    by_cases h1 : x = y <;> by_cases h2 : a = b <;> simp [h1, h2]
theorem canLay_ints (ns : List Int) : PyData.canLayAll0 (ns.map .int) = true := canLayAll_of fun p hp => by
  obtain ⟨n, _, rfl⟩ := List.mem_map.mp hp
  rfl
theorem depth_ints (ns : List Int) : PyData.depthAll (ns.map .int) = 0 := by
  induction ns with
  | nil => rfl
  | cons n r ih => simp [PyData.depthAll, PyData.depth, ih]
theorem shp_listI (ns : List Int) : shp (.list (ns.map .int)) = true := by
  unfold Zm.shp SeqAt.shaped
  rw [PyData.canLay0, canLay_ints, PyData.depth, depth_ints]
  rfl
theorem shp_tupI (ns : List Int) : shp (.tuple (ns.map .int)) = true := by
  unfold Zm.shp SeqAt.shaped
  rw [PyData.canLay0, canLay_ints, PyData.depth, depth_ints]
  rfl
theorem ne_listI (h : AH) (a b : List Int) : cmpD h .NotEq (.py (.list (a.map .int))) (.py (.list (b.map .int))) = some (!decide (a = b)) := by
  rw [cmpD_py (fun z => by cases z)]
  simp only [cmpP, shp_listI, Bool.and_self, if_true, PyData.eqv, eqvAll_ints]
theorem eq_listI (h : AH) (a b : List Int) : cmpD h .Eq (.py (.list (a.map .int))) (.py (.list (b.map .int))) = some (decide (a = b)) := by
  rw [cmpD_py (fun z => by cases z)]
  simp only [cmpP, shp_listI, Bool.and_self, if_true, PyData.eqv, eqvAll_ints]
theorem ne_tupI (h : AH) (a b : List Int) : cmpD h .NotEq (.py (.tuple (a.map .int))) (.py (.tuple (b.map .int))) = some (!decide (a = b)) := by
  rw [cmpD_py (fun z => by cases z)]
  simp only [cmpP, shp_tupI, Bool.and_self, if_true, PyData.eqv, eqvAll_ints]
theorem eq_tupI (h : AH) (a b : List Int) : cmpD h .Eq (.py (.tuple (a.map .int))) (.py (.tuple (b.map .int))) = some (decide (a = b)) := by
  rw [cmpD_py (fun z => by cases z)]
  simp only [cmpP, shp_tupI, Bool.and_self, if_true, PyData.eqv, eqvAll_ints]
theorem any_ints (n : Int) (ns : List Int) : ((ns.map PyData.int).any fun z => PyData.eqv z (.int n)) = decide (n ∈ ns) := by
  induction ns with
  | nil => simp
  | cons m r ih =>
    rw [List.map_cons, List.any_cons, ih, eqv_int]
    by_cases h1 : m = n
    · simp [h1]
    · have h1' : ¬ n = m := fun e => h1 e.symm
      simp [h1, h1', List.mem_cons]
theorem all_shp_ints (ns : List Int) : (ns.map PyData.int).all shp = true := by
  rw [List.all_eq_true]
  intro p hp
  obtain ⟨n, _, rfl⟩ := List.mem_map.mp hp
  exact shp_int n
theorem in_tupI (h : AH) (n : Int) (ns : List Int) : cmpD h .In (.i n) (.py (.tuple (ns.map .int))) = some (decide (n ∈ ns)) := by
  rw [cmpD_py (fun z => by cases z)]
  simp only [cmpP, shp_int, all_shp_ints, Bool.and_self, if_true, any_ints]
theorem nin_tupI (h : AH) (n : Int) (ns : List Int) : cmpD h .NotIn (.i n) (.py (.tuple (ns.map .int))) = some (!decide (n ∈ ns)) := by
  rw [cmpD_py (fun z => by cases z)]
  simp only [cmpP, shp_int, all_shp_ints, Bool.and_self, if_true, any_ints]
theorem in_listI (h : AH) (n : Int) (ns : List Int) : cmpD h .In (.i n) (.py (.list (ns.map .int))) = some (decide (n ∈ ns)) := by
  rw [cmpD_py (fun z => by cases z)]
  simp only [cmpP, shp_int, all_shp_ints, Bool.and_self, if_true, any_ints]
theorem nin_listI (h : AH) (n : Int) (ns : List Int) : cmpD h .NotIn (.i n) (.py (.list (ns.map .int))) = some (!decide (n ∈ ns)) := by
  rw [cmpD_py (fun z => by cases z)]
  simp only [cmpP, shp_int, all_shp_ints, Bool.and_self, if_true, any_ints]
/-- a rising row is its own set in order -/
theorem sset_self {ns : List Int} : decide (ns = ssetI ns) = rz ns := by
  by_cases h : rz ns = true
  · have h2 := rz_iff.mp h
    have h3 : ns = ssetI ns := lt_unique h2 (ssetI_lt ns) fun k => (mem_ssetI k ns).symm
    rw [h, decide_eq_true h3]
  · have h3 : ¬ ns = ssetI ns := fun e => h (rz_iff.mpr (by rw [e]; exact ssetI_lt ns))
    rw [decide_eq_false h3]
    simpa using h
/-! ### sorted rows of numbers -/
theorem sortOk_ints (ns : List Int) : sortOk (ns.map .int) = true := by
  unfold sortOk
  simp only [List.all_map, Bool.and_eq_true, Bool.or_eq_true]
  refine ⟨⟨?_, .inr (.inl ?_)⟩, ?_⟩
  · rw [List.all_eq_true]
    intro a _
    rw [Function.comp_apply, List.all_eq_true]
    intro b _
    simp [alike]
  · rw [List.all_eq_true]
    intro a _
    rfl
  · rw [List.all_eq_true]
    intro a _
    rfl
theorem sortP_ints (ns : List Int) : sortP (ns.map .int) = (ns.mergeSort fun x y => decide (x ≤ y)).map .int := by
  unfold sortP
  refine (List.map_mergeSort fun a _ b _ => ?_).symm
  exact (congrFun (congrFun (dataLe_int (fun n : Int => n)) a) b).symm
theorem bi_sortedT (ns : List Int) : biP .sorted [.tuple (ns.map .int)] = some (.list ((ns.mergeSort fun x y => decide (x ≤ y)).map .int)) := by
  simp only [biP, seqP]
  rw [if_pos (sortOk_ints ns), sortP_ints]
theorem bi_sortedL (ns : List Int) : biP .sorted [.list (ns.map .int)] = some (.list ((ns.mergeSort fun x y => decide (x ≤ y)).map .int)) := by
  simp only [biP, seqP]
  rw [if_pos (sortOk_ints ns), sortP_ints]
theorem sort_self {ns : List Int} : ns = (ns.mergeSort fun x y => decide (x ≤ y)) ↔ ns.Pairwise (· ≤ ·) := by
  constructor
  · intro e
    have := List.pairwise_mergeSort (le := fun x y : Int => decide (x ≤ y)) (fun a b c h1 h2 => by simp only [decide_eq_true_eq] at *; omega) (fun a b => by simp only [Bool.or_eq_true, decide_eq_true_eq]; omega) ns
    rw [← e] at this
    exact this.imp fun h => by simpa using h
  · intro h
    exact (List.mergeSort_of_pairwise (h.imp fun h => by simpa using h)).symm
/-! ### places -/
theorem atI_2 {α : Type} (x y z : α) (r : List α) : L2.atI (x :: y :: z :: r) 2 = some z := Zm.atI_nat (x :: y :: z :: r) 2
theorem atI_3 {α : Type} (x y z u : α) (r : List α) : L2.atI (x :: y :: z :: u :: r) 3 = some u := Zm.atI_nat (x :: y :: z :: u :: r) 3
theorem atI_4 {α : Type} (x y z u v : α) (r : List α) : L2.atI (x :: y :: z :: u :: v :: r) 4 = some v := Zm.atI_nat (x :: y :: z :: u :: v :: r) 4
theorem idx_T0 (h : AH) (x : PyData) (r : List PyData) : idxD h (.py (.tuple (x :: r))) (.py (.int 0)) = some (.py x) := idx_tup (atI_0 x r)
theorem idx_T1 (h : AH) (x y : PyData) (r : List PyData) : idxD h (.py (.tuple (x :: y :: r))) (.py (.int 1)) = some (.py y) := idx_tup (atI_1 x y r)
theorem idx_T2 (h : AH) (x y z : PyData) (r : List PyData) : idxD h (.py (.tuple (x :: y :: z :: r))) (.py (.int 2)) = some (.py z) := idx_tup (atI_2 x y z r)
theorem idx_T3 (h : AH) (x y z u : PyData) (r : List PyData) : idxD h (.py (.tuple (x :: y :: z :: u :: r))) (.py (.int 3)) = some (.py u) := idx_tup (atI_3 x y z u r)
theorem bi_allP {α : Type} (f : α → Bool) (os : List α) : biP .all [.list (os.map fun p => .bool (f p))] = some (.bool (os.all f)) := by
  rw [bi_all, bools_map]
  simp [List.all_map]
theorem bi_lenTI (ns : List Int) : biP .len [.tuple (ns.map .int)] = some (.int ns.length) := by rw [bi_lenT, List.length_map]
/-- rows are not longer than this -/
def Short (p : PyData) : Prop := ∀ ps, p = .tuple ps → ps.length ≤ 50
/-- .. nor are the rows in it -/
def Short2 (p : PyData) : Prop := Short p ∧ ∀ ps, p = .tuple ps → ∀ q ∈ ps, Short q
theorem four {α : Type} {ps : List α} (h : ps.length = 4) : ∃ a b c d, ps = [a, b, c, d] := by
  match ps, h with
  | [a, b, c, d], _ => exact ⟨a, b, c, d, rfl⟩
theorem three {α : Type} {ps : List α} (h : ps.length = 3) : ∃ a b c, ps = [a, b, c] := by
  match ps, h with
  | [a, b, c], _ => exact ⟨a, b, c, rfl⟩
theorem two_of {α : Type} {ps : List α} (h : ps.length = 2) : ∃ a b, ps = [a, b] := by
  match ps, h with
  | [a, b], _ => exact ⟨a, b, rfl⟩
/-- three bells -/
def bls (m : Int) (p : PyData) : Bool := match p with
  | .tuple ps => decide (ps.length = 3) && (ps.all (fun q => wi q 0 m) && (match intL ps with
    | some [x, y, z] => decide (x ≤ y) && decide (y ≤ z)
    | _ => false))
  | _ => false
/-- a market -/
def mkt (p : PyData) : Bool := match p with
  | .tuple [a, b, c, d] => bls 12 a && (aps 5 b && (wi c 1 3 && wi d 0 100))
  | _ => false
theorem mkt_len {ps : List PyData} (h : ps.length ≠ 4) : mkt (.tuple ps) = false := by
  match ps, h with
  | [], _ => rfl
  | [_], _ => rfl
  | [_, _], _ => rfl
  | [_, _, _], _ => rfl
  | [_, _, _, _], h => exact absurd rfl h
  | _ :: _ :: _ :: _ :: _ :: _, _ => rfl
/-! ### small data of any kind -/
/-- rows of at most eight, k deep; small leaves -/
def Tt : Nat → PyData → Prop
  | _, .none => True
  | _, .bool _ => True
  | _, .int n => n.natAbs < 2 ^ 120
  | _, .str x => x.length ≤ 12 ∧ x.cps.toList.all (fun c => decide (c < 128)) = true
  | k + 1, .tuple ps => ps.length ≤ 8 ∧ ∀ p ∈ ps, Tt k p
  | k + 1, .list ps => ps.length ≤ 8 ∧ ∀ p ∈ ps, Tt k p
  | 0, .tuple _ => False
  | 0, .list _ => False
  | _, .dict _ => False
theorem Tt.non {k : Nat} : Tt k .none := by cases k <;> trivial
theorem Tt.bl {k : Nat} {b : Bool} : Tt k (.bool b) := by cases k <;> trivial
theorem Tt.int {k : Nat} {n : Int} (h : n.natAbs < 2 ^ 120) : Tt k (.int n) := by cases k <;> exact h
theorem Tt.intS {k : Nat} {n : Int} (h1 : -1000000 < n) (h2 : n < 1000000) : Tt k (.int n) := Tt.int (by
  have : n.natAbs < 1000000 := by omega
  exact Nat.lt_trans this (by decide))
theorem Tt.tup {k : Nat} {ps : List PyData} (h1 : ps.length ≤ 8) (h2 : ∀ p ∈ ps, Tt k p) : Tt (k + 1) (.tuple ps) := ⟨h1, h2⟩
theorem Tt.lst {k : Nat} {ps : List PyData} (h1 : ps.length ≤ 8) (h2 : ∀ p ∈ ps, Tt k p) : Tt (k + 1) (.list ps) := ⟨h1, h2⟩
theorem Tt.short {k : Nat} {p : PyData} (h : Tt k p) : Short p := fun ps e => by
  subst e
  cases k with
  | zero => exact h.elim
  | succ k => exact Nat.le_trans h.1 (by decide)
theorem Tt.short2 {k : Nat} {p : PyData} (h : Tt k p) : Short2 p := ⟨h.short, fun ps e q hq => by
  subst e
  cases k with
  | zero => exact h.elim
  | succ k => exact Tt.short (h.2 q hq)⟩
def Bd : Nat → Nat
  | 0 => 125
  | k + 1 => (Bd k + 2) * 8 + 3
theorem Bd_ge : ∀ k, 125 ≤ Bd k
  | 0 => Nat.le_refl _
  | k + 1 => by
    have := Bd_ge k
    rw [Bd]
    omega
theorem Tt.leaf {k : Nat} {p : PyData} (h : Rp p 0 125) : Rp p k (Bd k) := h.mono (Nat.zero_le _) (Bd_ge k)
theorem Rp.int120 {n : Int} (h : n.natAbs < 2 ^ 120) : Rp (.int n) 0 125 := by
  have h4 : n.natAbs.log2 ≤ 119 := by
    by_cases h0 : n.natAbs = 0
    · rw [h0]; decide
    · have := (Nat.log2_lt h0).mpr h
      omega
  refine ⟨rfl, ?_, Nat.le_refl _, ?_⟩
  · simp only [PyData.showable, decide_eq_true_eq]
    omega
  · simp only [Zm.wt]
    omega
theorem Rp.str12 {x : Str} (h1 : x.length ≤ 12) (h2 : x.cps.toList.all (fun c => decide (c < 128)) = true) : Rp (.str x) 0 125 := by
  have h3 : ∀ c ∈ x.cps.toList, c < 128 := fun c hc => of_decide_eq_true (List.all_eq_true.mp h2 c hc)
  refine ⟨?_, rfl, Nat.le_refl _, ?_⟩
  · rw [noText, strOk_iff]
    intro c hc
    have := h3 c hc
    omega
  · simp only [Zm.wt]
    rw [if_pos (List.all_eq_true.mpr fun c hc => by
      have := h3 c hc
      rw [decide_eq_true_eq]
      exact Nat.lt_trans this (by decide))]
    omega
theorem Rp.non : Rp .none 0 125 := ⟨rfl, rfl, Nat.le_refl _, by simp [Zm.wt]⟩
theorem Rp.bl (b : Bool) : Rp (.bool b) 0 125 := ⟨rfl, rfl, Nat.le_refl _, by simp [Zm.wt]⟩
theorem Tt.rp : ∀ {k : Nat} {p : PyData}, Tt k p → Rp p k (Bd k)
  | k, .none, _ => Tt.leaf Rp.non
  | k, .bool b, _ => Tt.leaf (Rp.bl b)
  | k, .int n, h => Tt.leaf (Rp.int120 (by cases k <;> exact h))
  | k, .str x, h => Tt.leaf (Rp.str12 (by cases k <;> exact h.1) (by cases k <;> exact h.2))
  | 0, .tuple _, h => h.elim
  | 0, .list _, h => h.elim
  | k + 1, .tuple ps, h => Rp.tuple (fun p hp => Tt.rp (h.2 p hp)) (by
      have := Nat.mul_le_mul_left (Bd k + 2) h.1
      rw [Bd]
      omega)
  | k + 1, .list ps, h => Rp.list (fun p hp => Tt.rp (h.2 p hp)) (by
      have := Nat.mul_le_mul_left (Bd k + 2) h.1
      rw [Bd]
      omega)
  | 0, .dict _, h => h.elim
  | _ + 1, .dict _, h => h.elim
theorem Tt.repr {k : Nat} {p : PyData} (h : Tt k p) (hk : k ≤ 4) : biP .repr [p] = some (.str p.shown) := by
  refine h.rp.repr (by omega) ?_
  match k, hk with
  | 0, _ => decide
  | 1, _ => decide
  | 2, _ => decide
  | 3, _ => decide
  | 4, _ => decide
theorem Tt.same {k : Nat} {p : PyData} (h : Tt k p) (hp : AH) : cmpD hp .NotEq (.py (.str p.shown)) (.py (.str p.shown)) = some false := h.rp.same hp
/-- a thing of any kind: small data, or one of two dicts -/
def Th (p : PyData) : Prop := Tt 4 p ∨ p = .dict [] ∨ p = .dict [(.int 0, .int 1)]
theorem repr_d0 : biP .repr [PyData.dict []] = some (.str (PyData.dict []).shown) := by
  have h : ((PyData.dict []).showable && (!(PyData.dict []).hasDict || isP .dict (PyData.dict [])) && decide ((PyData.dict []).depth ≤ 64) && decide ((PyData.dict []).shown.length ≤ lim)) = true := by decide +kernel
  simp only [biP]
  rw [if_pos h]
theorem repr_d1 : biP .repr [PyData.dict [(PyData.int 0, PyData.int 1)]] = some (.str (PyData.dict [(PyData.int 0, PyData.int 1)]).shown) := by
  have h : ((PyData.dict [(PyData.int 0, PyData.int 1)]).showable && (!(PyData.dict [(PyData.int 0, PyData.int 1)]).hasDict || isP .dict (PyData.dict [(PyData.int 0, PyData.int 1)])) && decide ((PyData.dict [(PyData.int 0, PyData.int 1)]).depth ≤ 64) && decide ((PyData.dict [(PyData.int 0, PyData.int 1)]).shown.length ≤ lim)) = true := by decide +kernel
  simp only [biP]
  rw [if_pos h]
theorem shp_d0 : shp (.str (PyData.dict []).shown) = true := by decide +kernel
theorem shp_d1 : shp (.str (PyData.dict [(.int 0, .int 1)]).shown) = true := by decide +kernel
theorem Th.repr {p : PyData} (h : Th p) : biP .repr [p] = some (.str p.shown) := by
  rcases h with h | rfl | rfl
  · exact h.repr (Nat.le_refl _)
  · exact repr_d0
  · exact repr_d1
theorem Th.same {p : PyData} (h : Th p) (hp : AH) : cmpD hp .NotEq (.py (.str p.shown)) (.py (.str p.shown)) = some false := by
  rcases h with h | rfl | rfl
  · exact h.same hp
  · rw [cmpD_py (fun z => by cases z)]
    simp [cmpP, shp_d0, str_same]
  · rw [cmpD_py (fun z => by cases z)]
    simp [cmpP, shp_d1, str_same]
theorem Th.short2 {p : PyData} (h : Th p) : Short2 p := by
  rcases h with h | rfl | rfl
  · exact h.short2
  · exact ⟨fun _ e => (by cases e), fun _ e => (by cases e)⟩
  · exact ⟨fun _ e => (by cases e), fun _ e => (by cases e)⟩
theorem repr_b (b : Bool) : biP .repr [.bool b] = some (.str (PyData.bool b).shown) := (Tt.bl (k := 0) (b := b)).repr (by decide)
theorem same_b (b : Bool) (hp : AH) : cmpD hp .NotEq (.py (.str (PyData.bool b).shown)) (.py (.str (PyData.bool b).shown)) = some false := (Tt.bl (k := 0) (b := b)).same hp
/-! ### picked by draws -/
theorem compL_pick {asg : D → Sg → AH → R Sg} {cond elt : Sg → AH → R D} {σ : Sg} {ok : AH → Bool} (Hp : Int → AH) (hok : ∀ x, ok (Hp x) = true) (s : Int → Sg) (ha : ∀ i x, asg (.i i) σ (Hp x) = .ok (s i) (Hp x)) (hc : ∀ i x, ∃ b y, cond (s i) (Hp x) = .ok (.b b) (Hp y)) (he : ∀ i x, elt (s i) (Hp x) = .ok (.i i) (Hp x)) :
    ∀ (n : Nat) (lo x : Int), ∃ (y : Int) (ms : List Int), compL asg cond elt σ ok (rangeL lo n) (Hp x) = .ok (ms.map D.i) (Hp y) ∧ ms.Pairwise (· < ·) ∧ ∀ m ∈ ms, lo ≤ m ∧ m < lo + n
  | 0, lo, x => ⟨x, [], by simp [rangeL, compL, hok], .nil, fun _ h => absurd h List.not_mem_nil⟩
  | n + 1, lo, x => by
    obtain ⟨b, y, e⟩ := hc lo x
    obtain ⟨z, ms, e2, h1, h2⟩ := compL_pick Hp hok s ha hc he n (lo + 1) y
    cases b with
    | true =>
      refine ⟨z, lo :: ms, ?_, List.pairwise_cons.mpr ⟨fun m hm => ?_, h1⟩, fun m hm => ?_⟩
      · rw [rangeL, compL, hok]
        simp only [ha, e, R.bind_ok, he, e2, List.map_cons]
      · have := h2 m hm
        omega
      · rcases List.mem_cons.mp hm with q | q
        · omega
        · have := h2 m q
          omega
    | false =>
      refine ⟨z, ms, ?_, h1, fun m hm => ?_⟩
      · rw [rangeL, compL, hok]
        simp only [ha, e, R.bind_ok, e2]
      · have := h2 m hm
        omega
theorem addT (h : AH) {a b : List PyData} (ha : a.length ≤ 1000) (hb : b.length ≤ 1000) : binD h .Add (.py (.tuple a)) (.py (.tuple b)) = some (.py (.tuple (a ++ b))) := by
  simp only [binD, toPy, binP]
  rw [if_pos (by unfold lim; omega)]
theorem addLs (h : AH) {a b : List PyData} (ha : a.length ≤ 1000) (hb : b.length ≤ 1000) : binD h .Add (.py (.list a)) (.py (.list b)) = some (.py (.list (a ++ b))) := by
  simp only [binD, toPy, binP]
  rw [if_pos (by unfold lim; omega)]
/-- a live row and a row -/
theorem addO {h : AH} {l : Nat} {a b : List PyData} (hl : h[l]? = some (.lst (a.map D.py))) (ha : a.length ≤ 1000) (hb : b.length ≤ 1000) : binD h .Add (.obj l) (.py (.list b)) = some (.py (.list (a ++ b))) := by
  simp only [binD, toPy, hl, pysM, binP]
  rw [if_pos (by unfold lim; omega)]
theorem cut_sub {α : Type} {xs : List α} {u v : Option Int} {x : α} (h : x ∈ cutP xs u v) : x ∈ xs := by
  unfold cutP at h
  exact List.mem_of_mem_drop (List.mem_of_mem_take h)
theorem Tt.add {k : Nat} {a b : List PyData} (ha : ∀ p ∈ a, Tt k p) (hb : ∀ p ∈ b, Tt k p) : ∀ p ∈ a ++ b, Tt k p := fun p hp => by
  rcases List.mem_append.mp hp with e | e
  · exact ha p e
  · exact hb p e
theorem Tt.cut {k : Nat} {a : List PyData} {u v : Option Int} (ha : ∀ p ∈ a, Tt k p) : ∀ p ∈ cutP a u v, Tt k p := fun p hp => ha p (cut_sub hp)
theorem Tt.nil {k : Nat} : ∀ p ∈ ([] : List PyData), Tt k p := fun _ h => absurd h List.not_mem_nil
theorem Tt.cons {k : Nat} {q : PyData} {a : List PyData} (hq : Tt k q) (ha : ∀ p ∈ a, Tt k p) : ∀ p ∈ q :: a, Tt k p := fun p hp => by
  rcases List.mem_cons.mp hp with e | e
  · rw [e]; exact hq
  · exact ha p e
theorem Tt.rev {k : Nat} {a : List PyData} (ha : ∀ p ∈ a, Tt k p) : ∀ p ∈ a.reverse, Tt k p := fun p hp => ha p (List.mem_reverse.mp hp)
theorem Tt.ints {k : Nat} {ns : List Int} (h : ∀ n ∈ ns, -1000000 < n ∧ n < 1000000) : ∀ p ∈ ns.map PyData.int, Tt k p := fun p hp => by
  obtain ⟨n, hn, rfl⟩ := List.mem_map.mp hp
  exact Tt.intS (h n hn).1 (h n hn).2
theorem Tt.up : ∀ {k : Nat} {p : PyData}, Tt k p → Tt (k + 1) p
  | k, .none, _ => Tt.non
  | k, .bool b, _ => Tt.bl
  | k, .int n, h => Tt.int (by cases k <;> exact h)
  | k, .str x, h => by cases k <;> exact h
  | 0, .tuple _, h => h.elim
  | 0, .list _, h => h.elim
  | k + 1, .tuple ps, h => ⟨h.1, fun p hp => Tt.up (h.2 p hp)⟩
  | k + 1, .list ps, h => ⟨h.1, fun p hp => Tt.up (h.2 p hp)⟩
  | 0, .dict _, h => h.elim
  | _ + 1, .dict _, h => h.elim
theorem cut_last {α : Type} (xs : List α) : (cutP xs (some (-1)) none).length ≤ 1 := by
  have e1 : HT.sIx xs.length 0 (some (-1)) = xs.length - 1 := by
    unfold HT.sIx
    simp only
    rw [if_pos (by decide)]
    omega
  unfold cutP
  rw [List.length_take, List.length_drop, e1]
  omega
theorem rangeL_at {lo : Int} {n j : Nat} {z : D} (e : (rangeL lo n)[j]? = some z) : z = .i (lo + (j : Nat)) ∧ j < n := by
  rw [rangeL_map, List.getElem?_map] at e
  by_cases h : j < n
  · rw [List.getElem?_range h] at e
    simp only [Option.map_some, Option.some.injEq] at e
    exact ⟨e.symm, h⟩
  · rw [List.getElem?_eq_none (by rw [List.length_range]; omega)] at e
    cases e
end Zm
namespace Zl
open PySem PySem.Spec PyProof.Rows L2 Zm
def top (i : Nat) : Stmt := PySem.Challenge.pw_showbells_k55_whole_nothing_clears_more.main.body.getD i (.Pass ⟨0, 0, 0, 0⟩)
def fns0 : List Str := [(Str.ofString "is_within"), (Str.ofString "is_offer"), (Str.ofString "are_offers"), (Str.ofString "need_offers"), (Str.ofString "need_price"), (Str.ofString "supply_at"), (Str.ofString "demand_at"), (Str.ofString "supply"), (Str.ofString "demand"), (Str.ofString "best_price"), (Str.ofString "filled"), (Str.ofString "settled"), (Str.ofString "are_moved"), (Str.ofString "clears"), (Str.ofString "is_bar"), (Str.ofString "bar_holds"), (Str.ofString "bar_of"), (Str.ofString "_law_cell"), (Str.ofString "_law_pen"), (Str.ofString "_law_draw"), (Str.ofString "_law_offers"), (Str.ofString "_law_drawn"), (Str.ofString "_law_right"), (Str.ofString "law")]
def fns : List Str := fns0
def gl : List (Str × PyData) := [((Str.ofString "MOST_WEIGHT"), .int 99), ((Str.ofString "MOST_PRICE"), .int 999), ((Str.ofString "MOST_OFFERS"), .int 6)]
def g_MOST_WEIGHT : Nat := 0
def g_MOST_PRICE : Nat := 1
def g_MOST_OFFERS : Nat := 2
def i_is_within : Nat := 0
def i_is_offer : Nat := 1
def i_are_offers : Nat := 2
def i_need_offers : Nat := 3
def i_need_price : Nat := 4
def i_supply_at : Nat := 5
def i_demand_at : Nat := 6
def i_supply : Nat := 7
def i_demand : Nat := 8
def i_best_price : Nat := 9
def i_filled : Nat := 10
def i_settled : Nat := 11
def i_are_moved : Nat := 12
def i_clears : Nat := 13
def i_is_bar : Nat := 14
def i_bar_holds : Nat := 15
def i_bar_of : Nat := 16
def i_law_cell : Nat := 17
def i_law_pen : Nat := 18
def i_law_draw : Nat := 19
def i_law_offers : Nat := 20
def i_law_drawn : Nat := 21
def i_law_right : Nat := 22
def i_law : Nat := 23
def N_is_within : List Str := [(Str.ofString "thing"), (Str.ofString "least"), (Str.ofString "most")]
def b_is_within : S := .cons (.ret (.conj (.isi (.var 0) .int) (.conj (.inv (.isi (.var 0) .bool)) (.cmp2 .LtE .LtE (.var 1) (.var 0) (.var 2))))) (.nil)
def f_is_within : Fn := ⟨3, 3, b_is_within, .pure⟩
def N_is_offer : List Str := [(Str.ofString "thing")]
def b_is_offer : S := .cons (.sif (.disj (.inv (.isi (.var 0) .tuple)) (.cmp .NotEq (.bi .len (.cons (.var 0) (.nil))) (.lit (.int 2)))) (.cons (.ret (.lit (.bool false))) (.nil)) (.nil)) (.cons (.ret (.conj (.call i_is_within (.cons (.idx (.var 0) (.lit (.int 0))) (.cons (.lit (.int 1)) (.cons (.glb g_MOST_WEIGHT (.int 99)) (.nil))))) (.call i_is_within (.cons (.idx (.var 0) (.lit (.int 1))) (.cons (.lit (.int 0)) (.cons (.glb g_MOST_PRICE (.int 999)) (.nil))))))) (.nil))
def f_is_offer : Fn := ⟨1, 1, b_is_offer, .pure⟩
def N_are_offers : List Str := [(Str.ofString "thing"), (Str.ofString "one")]
def b_are_offers_0 : E := .call i_is_offer (.cons (.var 1) (.nil))
def b_are_offers_1 : E := .comp [1] (b_are_offers_0) (.var 1) (.cons (.var 0) .nil) (.lit (.bool true))
def b_are_offers : S := .cons (.ret (.conj (.isi (.var 0) .tuple) (.conj (.cmp .LtE (.bi .len (.cons (.var 0) (.nil))) (.glb g_MOST_OFFERS (.int 6))) (.bi .all (.cons (b_are_offers_1) (.nil)))))) (.nil)
def f_are_offers : Fn := ⟨1, 2, b_are_offers, .pure⟩
def N_need_offers : List Str := [(Str.ofString "thing")]
def b_need_offers : S := .cons (.sif (.inv (.call i_are_offers (.cons (.var 0) (.nil)))) (.cons (.raise) (.nil)) (.nil)) (.nil)
def f_need_offers : Fn := ⟨1, 1, b_need_offers, .pure⟩
def N_need_price : List Str := [(Str.ofString "thing")]
def b_need_price : S := .cons (.sif (.inv (.call i_is_within (.cons (.var 0) (.cons (.lit (.int 0)) (.cons (.glb g_MOST_PRICE (.int 999)) (.nil)))))) (.cons (.raise) (.nil)) (.nil)) (.nil)
def f_need_price : Fn := ⟨1, 1, b_need_price, .pure⟩
def N_supply_at : List Str := [(Str.ofString "asks"), (Str.ofString "price"), (Str.ofString "weight"), (Str.ofString "own")]
def b_supply_at_0 : E := .var 2
def b_supply_at_1 : E := .cmp .LtE (.var 3) (.var 1)
def b_supply_at_2 : E := .comp [2, 3] (b_supply_at_0) (.tup (.cons (.var 2) (.cons (.var 3) (.nil)))) (.cons (.var 0) .nil) (b_supply_at_1)
def b_supply_at : S := .cons (.ret (.bi .sum (.cons (b_supply_at_2) (.nil)))) (.nil)
def f_supply_at : Fn := ⟨2, 4, b_supply_at, .pure⟩
def N_demand_at : List Str := [(Str.ofString "bids"), (Str.ofString "price"), (Str.ofString "weight"), (Str.ofString "own")]
def b_demand_at_0 : E := .var 2
def b_demand_at_1 : E := .cmp .GtE (.var 3) (.var 1)
def b_demand_at_2 : E := .comp [2, 3] (b_demand_at_0) (.tup (.cons (.var 2) (.cons (.var 3) (.nil)))) (.cons (.var 0) .nil) (b_demand_at_1)
def b_demand_at : S := .cons (.ret (.bi .sum (.cons (b_demand_at_2) (.nil)))) (.nil)
def f_demand_at : Fn := ⟨2, 4, b_demand_at, .pure⟩
def N_supply : List Str := [(Str.ofString "asks"), (Str.ofString "price")]
def b_supply : S := .cons (.expr (.call i_need_offers (.cons (.var 0) (.nil)))) (.cons (.expr (.call i_need_price (.cons (.var 1) (.nil)))) (.cons (.ret (.call i_supply_at (.cons (.var 0) (.cons (.var 1) (.nil))))) (.nil)))
def f_supply : Fn := ⟨2, 2, b_supply, .pure⟩
def N_demand : List Str := [(Str.ofString "bids"), (Str.ofString "price")]
def b_demand : S := .cons (.expr (.call i_need_offers (.cons (.var 0) (.nil)))) (.cons (.expr (.call i_need_price (.cons (.var 1) (.nil)))) (.cons (.ret (.call i_demand_at (.cons (.var 0) (.cons (.var 1) (.nil))))) (.nil)))
def f_demand : Fn := ⟨2, 2, b_demand, .pure⟩
def N_best_price : List Str := [(Str.ofString "asks"), (Str.ofString "bids"), (Str.ofString "best"), (Str.ofString "price"), (Str.ofString "here")]
def b_best_price_0 : S := .cons (.asg (.var 4) (.bi .min (.cons (.call i_supply_at (.cons (.var 0) (.cons (.var 3) (.nil)))) (.cons (.call i_demand_at (.cons (.var 1) (.cons (.var 3) (.nil)))) (.nil))))) (.cons (.sif (.cmp .Gt (.var 4) (.idx (.var 2) (.lit (.int 0)))) (.cons (.asg (.var 2) (.tup (.cons (.var 4) (.cons (.var 3) (.nil))))) (.nil)) (.nil)) (.nil))
def b_best_price_1 : S := .sfor (.var 3) (.rng1 (.bin .Add (.glb g_MOST_PRICE (.int 999)) (.lit (.int 1)))) (b_best_price_0)
def b_best_price : S := .cons (.asg (.var 2) (.tup (.cons (.neg 1) (.cons (.lit (.int 0)) (.nil))))) (.cons (b_best_price_1) (.cons (.ret (.tup (.cons (.idx (.var 2) (.lit (.int 1))) (.cons (.idx (.var 2) (.lit (.int 0))) (.nil))))) (.nil)))
def f_best_price : Fn := ⟨2, 5, b_best_price, .pure⟩
def N_filled : List Str := [(Str.ofString "some"), (Str.ofString "order"), (Str.ofString "weight"), (Str.ofString "moved"), (Str.ofString "at")]
def b_filled_0 : S := .cons (.asg (.idx (.var 3) (.var 4)) (.bi .min (.cons (.idx (.idx (.var 0) (.var 4)) (.lit (.int 0))) (.cons (.var 2) (.nil))))) (.cons (.asg (.var 2) (.bin .Sub (.var 2) (.idx (.var 3) (.var 4)))) (.nil))
def b_filled_1 : S := .sfor (.var 4) (.cons (.var 1) .nil) (b_filled_0)
def b_filled : S := .cons (.asg (.var 3) (.rep (.lst false (.cons (.lit (.int 0)) (.nil))) (.bi .len (.cons (.var 0) (.nil))))) (.cons (b_filled_1) (.cons (.ret (.bi .tuple (.cons (.var 3) (.nil)))) (.nil)))
def f_filled : Fn := ⟨3, 5, b_filled, .pure⟩
def N_settled : List Str := [(Str.ofString "asks"), (Str.ofString "bids"), (Str.ofString "sellers"), (Str.ofString "buyers"), (Str.ofString "sold"), (Str.ofString "price"), (Str.ofString "weight"), (Str.ofString "at"), (Str.ofString "own"), (Str.ofString "size")]
def b_settled_0 : E := .var 7
def b_settled_1 : E := .comp [7, 8] (b_settled_0) (.tup (.cons (.var 8) (.cons (.var 7) (.nil)))) (.cons (.var 3) .nil) (.lit (.bool true))
def b_settled_2 : E := .var 7
def b_settled_3 : E := .comp [7, 8] (b_settled_2) (.tup (.cons (.var 8) (.cons (.var 7) (.nil)))) (.cons (.var 2) .nil) (.lit (.bool true))
def b_settled_4 : E := .tup (.cons (.bin .Sub (.lit (.int 0)) (.var 8)) (.cons (.var 7) (.nil)))
def b_settled_5 : E := .cmp .GtE (.var 8) (.var 5)
def b_settled_6 : E := .comp [7, 8, 9] (b_settled_4) (.tup (.cons (.var 7) (.cons (.tup (.cons (.var 9) (.cons (.var 8) (.nil)))) (.nil)))) (.enum (.var 1)) (b_settled_5)
def b_settled_7 : E := .tup (.cons (.var 8) (.cons (.var 7) (.nil)))
def b_settled_8 : E := .cmp .LtE (.var 8) (.var 5)
def b_settled_9 : E := .comp [7, 8, 9] (b_settled_7) (.tup (.cons (.var 7) (.cons (.tup (.cons (.var 9) (.cons (.var 8) (.nil)))) (.nil)))) (.enum (.var 0)) (b_settled_8)
def b_settled : S := .cons (.expr (.call i_need_offers (.cons (.var 0) (.nil)))) (.cons (.expr (.call i_need_offers (.cons (.var 1) (.nil)))) (.cons (.asg (.tup (.cons (.var 5) (.cons (.var 6) (.nil)))) (.call i_best_price (.cons (.var 0) (.cons (.var 1) (.nil))))) (.cons (.asg (.var 2) (.bi .sorted (.cons (b_settled_9) (.nil)))) (.cons (.asg (.var 3) (.bi .sorted (.cons (b_settled_6) (.nil)))) (.cons (.asg (.var 4) (.call i_filled (.cons (.var 0) (.cons (b_settled_3) (.cons (.var 6) (.nil)))))) (.cons (.ret (.tup (.cons (.var 5) (.cons (.var 6) (.cons (.var 4) (.cons (.call i_filled (.cons (.var 1) (.cons (b_settled_1) (.cons (.var 6) (.nil))))) (.nil))))))) (.nil)))))))
def f_settled : Fn := ⟨2, 10, b_settled, .pure⟩
def N_are_moved : List Str := [(Str.ofString "some"), (Str.ofString "thing"), (Str.ofString "one"), (Str.ofString "offer")]
def b_are_moved_0 : E := .call i_is_within (.cons (.var 2) (.cons (.lit (.int 0)) (.cons (.idx (.var 3) (.lit (.int 0))) (.nil))))
def b_are_moved_1 : E := .comp [2, 3] (b_are_moved_0) (.tup (.cons (.var 2) (.cons (.var 3) (.nil)))) (.zip (.var 1) (.var 0)) (.lit (.bool true))
def b_are_moved : S := .cons (.sif (.disj (.inv (.isi (.var 1) .tuple)) (.cmp .NotEq (.bi .len (.cons (.var 1) (.nil))) (.bi .len (.cons (.var 0) (.nil))))) (.cons (.ret (.lit (.bool false))) (.nil)) (.nil)) (.cons (.ret (.bi .all (.cons (b_are_moved_1) (.nil)))) (.nil))
def f_are_moved : Fn := ⟨2, 4, b_are_moved, .pure⟩
def N_clears : List Str := [(Str.ofString "asks"), (Str.ofString "bids"), (Str.ofString "thing"), (Str.ofString "dear"), (Str.ofString "cheap"), (Str.ofString "price"), (Str.ofString "sold"), (Str.ofString "bought"), (Str.ofString "one"), (Str.ofString "ask"), (Str.ofString "bid")]
def b_clears_0 : E := .var 8
def b_clears_1 : E := .cmp .Lt (.idx (.var 10) (.lit (.int 1))) (.var 5)
def b_clears_2 : E := .comp [8, 10] (b_clears_0) (.tup (.cons (.var 8) (.cons (.var 10) (.nil)))) (.zip (.var 7) (.var 1)) (b_clears_1)
def b_clears_3 : E := .var 8
def b_clears_4 : E := .cmp .Gt (.idx (.var 9) (.lit (.int 1))) (.var 5)
def b_clears_5 : E := .comp [8, 9] (b_clears_3) (.tup (.cons (.var 8) (.cons (.var 9) (.nil)))) (.zip (.var 6) (.var 0)) (b_clears_4)
def b_clears : S := .cons (.expr (.call i_need_offers (.cons (.var 0) (.nil)))) (.cons (.expr (.call i_need_offers (.cons (.var 1) (.nil)))) (.cons (.sif (.disj (.inv (.isi (.var 2) .tuple)) (.disj (.cmp .NotEq (.bi .len (.cons (.var 2) (.nil))) (.lit (.int 3))) (.inv (.call i_is_within (.cons (.idx (.var 2) (.lit (.int 0))) (.cons (.lit (.int 0)) (.cons (.glb g_MOST_PRICE (.int 999)) (.nil)))))))) (.cons (.ret (.lit (.bool false))) (.nil)) (.nil)) (.cons (.asg (.tup (.cons (.var 5) (.cons (.var 6) (.cons (.var 7) (.nil))))) (.var 2)) (.cons (.sif (.disj (.inv (.call i_are_moved (.cons (.var 0) (.cons (.var 6) (.nil))))) (.disj (.inv (.call i_are_moved (.cons (.var 1) (.cons (.var 7) (.nil))))) (.cmp .NotEq (.bi .sum (.cons (.var 6) (.nil))) (.bi .sum (.cons (.var 7) (.nil)))))) (.cons (.ret (.lit (.bool false))) (.nil)) (.nil)) (.cons (.asg (.var 3) (b_clears_5)) (.cons (.asg (.var 4) (b_clears_2)) (.cons (.ret (.cmp .Eq (.bin .Add (.bi .sum (.cons (.var 3) (.nil))) (.bi .sum (.cons (.var 4) (.nil)))) (.lit (.int 0)))) (.nil))))))))
def f_clears : Fn := ⟨3, 11, b_clears, .pure⟩
def N_is_bar : List Str := [(Str.ofString "asks"), (Str.ofString "bids"), (Str.ofString "weight"), (Str.ofString "q"), (Str.ofString "low"), (Str.ofString "high")]
def b_is_bar : S := .cons (.asg (.var 4) (.ite (.cmp .Lt (.var 3) (.lit (.int 0))) (.lit (.int 0)) (.call i_supply_at (.cons (.var 0) (.cons (.var 3) (.nil)))))) (.cons (.asg (.var 5) (.ite (.cmp .GtE (.var 3) (.glb g_MOST_PRICE (.int 999))) (.lit (.int 0)) (.call i_demand_at (.cons (.var 1) (.cons (.bin .Add (.var 3) (.lit (.int 1))) (.nil)))))) (.cons (.ret (.conj (.cmp .LtE (.var 4) (.var 2)) (.cmp .LtE (.var 5) (.var 2)))) (.nil)))
def f_is_bar : Fn := ⟨4, 6, b_is_bar, .pure⟩
def N_bar_holds : List Str := [(Str.ofString "asks"), (Str.ofString "bids"), (Str.ofString "weight"), (Str.ofString "thing")]
def b_bar_holds : S := .cons (.expr (.call i_need_offers (.cons (.var 0) (.nil)))) (.cons (.expr (.call i_need_offers (.cons (.var 1) (.nil)))) (.cons (.sif (.inv (.call i_is_within (.cons (.var 2) (.cons (.lit (.int 0)) (.cons (.lit (.int 999)) (.nil)))))) (.cons (.raise) (.nil)) (.nil)) (.cons (.ret (.conj (.call i_is_within (.cons (.var 3) (.cons (.neg 1) (.cons (.glb g_MOST_PRICE (.int 999)) (.nil))))) (.call i_is_bar (.cons (.var 0) (.cons (.var 1) (.cons (.var 2) (.cons (.var 3) (.nil)))))))) (.nil))))
def f_bar_holds : Fn := ⟨4, 4, b_bar_holds, .pure⟩
def N_bar_of : List Str := [(Str.ofString "asks"), (Str.ofString "bids"), (Str.ofString "weight"), (Str.ofString "q")]
def b_bar_of_0 : E := .var 3
def b_bar_of_1 : E := .call i_is_bar (.cons (.var 0) (.cons (.var 1) (.cons (.var 2) (.cons (.var 3) (.nil)))))
def b_bar_of_2 : E := .comp [3] (b_bar_of_0) (.var 3) (.rng2 (.neg 1) (.bin .Add (.glb g_MOST_PRICE (.int 999)) (.lit (.int 1)))) (b_bar_of_1)
def b_bar_of : S := .cons (.expr (.call i_need_offers (.cons (.var 0) (.nil)))) (.cons (.expr (.call i_need_offers (.cons (.var 1) (.nil)))) (.cons (.asg (.var 2) (.idx (.call i_best_price (.cons (.var 0) (.cons (.var 1) (.nil)))) (.lit (.int 1)))) (.cons (.ret (.idx (b_bar_of_2) (.lit (.int 0)))) (.nil))))
def f_bar_of : Fn := ⟨2, 4, b_bar_of, .pure⟩
def N_law_cell : List Str := [(Str.ofString "_law_script"), (Str.ofString "_law_k")]
def b_law_cell : S := .cons (.sif (.cmp .Lt (.var 1) (.bi .len (.cons (.var 0) (.nil)))) (.cons (.ret (.idx (.var 0) (.var 1))) (.nil)) (.nil)) (.cons (.ret (.lit (.int 0))) (.nil))
def f_law_cell : Fn := ⟨2, 2, b_law_cell, .pure⟩
def N_law_pen : List Str := [(Str.ofString "_law_cell_here"), (Str.ofString "_law_left")]
def b_law_pen : S := .cons (.asg (.var 1) (.bi .max (.cons (.var 0) (.cons (.bin .Sub (.lit (.int 0)) (.var 0)) (.nil))))) (.cons (.ret (.lst true (.cons (.var 1) (.cons (.bi .int (.cons (.cmp .GtE (.var 1) (.bin .Pow (.lit (.int 10)) (.lit (.int 18)))) (.nil))) (.nil))))) (.nil))
def f_law_pen : Fn := ⟨1, 2, b_law_pen, .fresh⟩
def N_law_draw : List Str := [(Str.ofString "_law_pen_here"), (Str.ofString "_law_many"), (Str.ofString "_law_stir"), (Str.ofString "_law_left"), (Str.ofString "_law_got")]
def b_law_draw : S := .cons (.sif (.cmp .Eq (.idx (.var 0) (.lit (.int 1))) (.lit (.int 1))) (.cons (.asg (.tup (.cons (.var 3) (.cons (.var 4) (.nil)))) (.bi .divmod (.cons (.idx (.var 0) (.lit (.int 0))) (.cons (.var 1) (.nil))))) (.cons (.asg (.idx (.var 0) (.lit (.int 0))) (.var 3)) (.cons (.ret (.var 4)) (.nil)))) (.nil)) (.cons (.asg (.var 2) (.bin .Mod (.bin .Mult (.bin .Add (.bin .Mod (.idx (.var 0) (.lit (.int 0))) (.lit (.int 2147483647))) (.lit (.int 40503))) (.lit (.int 69621))) (.lit (.int 2147483629)))) (.cons (.asg (.var 2) (.bin .Mod (.bin .Add (.bin .Mult (.var 2) (.var 2)) (.lit (.int 7817))) (.lit (.int 2147483587)))) (.cons (.asg (.idx (.var 0) (.lit (.int 0))) (.bin .Mod (.bin .Add (.bin .Mult (.var 2) (.lit (.int 48271))) (.lit (.int 11))) (.lit (.int 2147483629)))) (.cons (.ret (.bin .Mod (.bin .FloorDiv (.idx (.var 0) (.lit (.int 0))) (.lit (.int 32))) (.var 1))) (.nil)))))
def f_law_draw : Fn := ⟨2, 5, b_law_draw, .pure⟩
def N_law_offers : List Str := [(Str.ofString "_law_pen_here"), (Str.ofString "_law_near"), (Str.ofString "_law_got"), (Str.ofString "_law_turn"), (Str.ofString "_law_base"), (Str.ofString "_law_wide"), (Str.ofString "_law_price")]
def b_law_offers_0 : E := .met .append (.var 2) (.cons (.tup (.cons (.idx (.lst false (.cons (.lit (.int 1)) (.cons (.lit (.int 99)) (.cons (.bin .Add (.lit (.int 1)) (.call i_law_draw (.cons (.var 0) (.cons (.lit (.int 99)) (.nil))))) (.cons (.bin .Add (.lit (.int 1)) (.call i_law_draw (.cons (.var 0) (.cons (.lit (.int 9)) (.nil))))) (.nil)))))) (.call i_law_draw (.cons (.var 0) (.cons (.lit (.int 4)) (.nil))))) (.cons (.var 6) (.nil)))) (.nil))
def b_law_offers_1 : S := .cons (.asg (.var 6) (.bi .min (.cons (.lit (.int 999)) (.cons (.bin .Add (.var 4) (.call i_law_draw (.cons (.var 0) (.cons (.var 5) (.nil))))) (.nil))))) (.cons (.sif (.conj (.cmp .NotEq (.var 1) (.tup (.nil))) (.cmp .Eq (.call i_law_draw (.cons (.var 0) (.cons (.lit (.int 3)) (.nil)))) (.lit (.int 0)))) (.cons (.asg (.var 6) (.bi .max (.cons (.lit (.int 0)) (.cons (.bi .min (.cons (.lit (.int 999)) (.cons (.bin .Sub (.bin .Add (.idx (.idx (.var 1) (.call i_law_draw (.cons (.var 0) (.cons (.bi .len (.cons (.var 1) (.nil))) (.nil))))) (.lit (.int 1))) (.call i_law_draw (.cons (.var 0) (.cons (.lit (.int 3)) (.nil))))) (.lit (.int 1))) (.nil)))) (.nil))))) (.nil)) (.nil)) (.cons (.expr (b_law_offers_0)) (.nil)))
def b_law_offers_2 : S := .sfor (.var 3) (.rng1 (.call i_law_draw (.cons (.var 0) (.cons (.lit (.int 7)) (.nil))))) (b_law_offers_1)
def b_law_offers : S := .cons (.asg (.tup (.cons (.var 4) (.cons (.var 5) (.nil)))) (.tup (.cons (.idx (.lst false (.cons (.lit (.int 0)) (.cons (.lit (.int 500)) (.cons (.lit (.int 990)) (.cons (.call i_law_draw (.cons (.var 0) (.cons (.lit (.int 900)) (.nil)))) (.nil)))))) (.call i_law_draw (.cons (.var 0) (.cons (.lit (.int 4)) (.nil))))) (.cons (.idx (.lst false (.cons (.lit (.int 1)) (.cons (.lit (.int 4)) (.cons (.lit (.int 30)) (.cons (.lit (.int 1000)) (.nil)))))) (.call i_law_draw (.cons (.var 0) (.cons (.lit (.int 4)) (.nil))))) (.nil))))) (.cons (.asg (.var 2) (.lst true (.nil))) (.cons (b_law_offers_2) (.cons (.ret (.bi .tuple (.cons (.var 2) (.nil)))) (.nil))))
def f_law_offers : Fn := ⟨2, 7, b_law_offers, .pure⟩
def N_law_drawn : List Str := [(Str.ofString "_law_pen_here"), (Str.ofString "_law_some"), (Str.ofString "_law_price"), (Str.ofString "_law_sign"), (Str.ofString "_law_weight"), (Str.ofString "_law_got"), (Str.ofString "_law_size"), (Str.ofString "_law_own"), (Str.ofString "_law_here")]
def b_law_drawn_0 : E := .met .append (.var 5) (.cons (.var 8) (.nil))
def b_law_drawn_1 : S := .cons (.asg (.var 8) (.ite (.cmp .LtE (.bin .Mult (.var 3) (.bin .Sub (.var 7) (.var 2))) (.lit (.int 0))) (.bi .min (.cons (.var 4) (.cons (.call i_law_draw (.cons (.var 0) (.cons (.bin .Add (.var 6) (.lit (.int 1))) (.nil)))) (.nil)))) (.lit (.int 0)))) (.cons (.expr (b_law_drawn_0)) (.cons (.asg (.var 4) (.bin .Sub (.var 4) (.var 8))) (.nil)))
def b_law_drawn_2 : S := .sfor (.tup (.cons (.var 6) (.cons (.var 7) (.nil)))) (.cons (.var 1) .nil) (b_law_drawn_1)
def b_law_drawn : S := .cons (.asg (.var 5) (.lst true (.nil))) (.cons (b_law_drawn_2) (.cons (.ret (.bi .tuple (.cons (.var 5) (.nil)))) (.nil)))
def f_law_drawn : Fn := ⟨5, 9, b_law_drawn, .pure⟩
def N_law_right : List Str := [(Str.ofString "_law_pen_here"), (Str.ofString "_law_asks"), (Str.ofString "_law_bids"), (Str.ofString "_law_q"), (Str.ofString "_law_own"), (Str.ofString "_law_turn"), (Str.ofString "_law_price"), (Str.ofString "_law_weight"), (Str.ofString "_law_sold"), (Str.ofString "_law_bought"), (Str.ofString "_law_one"), (Str.ofString "_law_other")]
def b_law_right_0 : S := .cons (.asg (.var 4) (.idx (.lst false (.cons (.var 6) (.cons (.call i_law_draw (.cons (.var 0) (.cons (.lit (.int 1000)) (.nil)))) (.nil)))) (.call i_law_draw (.cons (.var 0) (.cons (.lit (.int 2)) (.nil)))))) (.cons (.asg (.var 10) (.call i_law_drawn (.cons (.var 0) (.cons (.var 1) (.cons (.var 4) (.cons (.lit (.int 1)) (.cons (.lit (.int 600)) (.nil)))))))) (.cons (.asg (.var 11) (.call i_law_drawn (.cons (.var 0) (.cons (.var 2) (.cons (.var 4) (.cons (.neg 1) (.cons (.bi .sum (.cons (.var 10) (.nil))) (.nil)))))))) (.cons (.sif (.disj (.cmp .NotEq (.call i_clears (.cons (.var 1) (.cons (.var 2) (.cons (.tup (.cons (.var 4) (.cons (.var 10) (.cons (.var 11) (.nil))))) (.nil))))) (.cmp .Eq (.bi .sum (.cons (.var 10) (.nil))) (.bi .sum (.cons (.var 11) (.nil))))) (.cmp .Gt (.bi .sum (.cons (.var 11) (.nil))) (.var 7))) (.cons (.ret (.lit (.bool false))) (.nil)) (.nil)) (.nil))))
def b_law_right_1 : S := .sfor (.var 5) (.rng1 (.lit (.int 5))) (b_law_right_0)
def b_law_right_2 : S := .cons (.sif (.cmp .GtE (.bi .min (.cons (.call i_supply (.cons (.var 1) (.cons (.var 4) (.nil)))) (.cons (.call i_demand (.cons (.var 2) (.cons (.var 4) (.nil)))) (.nil)))) (.var 7)) (.cons (.ret (.lit (.bool false))) (.nil)) (.nil)) (.nil)
def b_law_right_3 : S := .sfor (.var 4) (.rng3 (.lit (.int 0)) (.var 6) (.bin .Add (.lit (.int 1)) (.bin .FloorDiv (.var 6) (.lit (.int 9))))) (b_law_right_2)
def b_law_right : S := .cons (.asg (.tup (.cons (.var 6) (.cons (.var 7) (.cons (.var 8) (.cons (.var 9) (.nil)))))) (.call i_settled (.cons (.var 1) (.cons (.var 2) (.nil))))) (.cons (.sif (.disj (.cmp .IsNot (.call i_clears (.cons (.var 1) (.cons (.var 2) (.cons (.tup (.cons (.var 6) (.cons (.var 8) (.cons (.var 9) (.nil))))) (.nil))))) (.lit (.bool true))) (.cmp .NotEq (.lst false (.cons (.bi .sum (.cons (.var 8) (.nil))) (.cons (.bi .sum (.cons (.var 9) (.nil))) (.nil)))) (.bin .Mult (.lst false (.cons (.var 7) (.nil))) (.lit (.int 2))))) (.cons (.ret (.lit (.bool false))) (.nil)) (.nil)) (.cons (.sif (.cmp .NotEq (.bi .min (.cons (.call i_supply (.cons (.var 1) (.cons (.var 6) (.nil)))) (.cons (.call i_demand (.cons (.var 2) (.cons (.var 6) (.nil)))) (.nil)))) (.var 7)) (.cons (.ret (.lit (.bool false))) (.nil)) (.nil)) (.cons (.asg (.var 3) (.call i_bar_of (.cons (.var 1) (.cons (.var 2) (.nil))))) (.cons (.sif (.disj (.cmp .IsNot (.call i_bar_holds (.cons (.var 1) (.cons (.var 2) (.cons (.var 7) (.cons (.var 3) (.nil)))))) (.lit (.bool true))) (.conj (.cmp .Gt (.var 7) (.lit (.int 0))) (.cmp .Is (.call i_bar_holds (.cons (.var 1) (.cons (.var 2) (.cons (.bin .Sub (.var 7) (.lit (.int 1))) (.cons (.var 3) (.nil)))))) (.lit (.bool true))))) (.cons (.ret (.lit (.bool false))) (.nil)) (.nil)) (.cons (b_law_right_3) (.cons (b_law_right_1) (.cons (.ret (.cmp .Eq (.sli (.call i_settled (.cons (.rev (.var 1)) (.cons (.rev (.var 2)) (.nil)))) (.none_) (.cons (.lit (.int 2)) .nil)) (.tup (.cons (.var 6) (.cons (.var 7) (.nil)))))) (.nil))))))))
def f_law_right : Fn := ⟨3, 12, b_law_right, .pure⟩
def N_law : List Str := [(Str.ofString "_law_script"), (Str.ofString "_law_cell_here"), (Str.ofString "_law_pen_here"), (Str.ofString "_law_turn"), (Str.ofString "_law_asks")]
def b_law_0 : S := .cons (.asg (.var 4) (.call i_law_offers (.cons (.var 2) (.cons (.tup (.nil)) (.nil))))) (.cons (.sif (.inv (.call i_law_right (.cons (.var 2) (.cons (.var 4) (.cons (.call i_law_offers (.cons (.var 2) (.cons (.var 4) (.nil)))) (.nil)))))) (.cons (.ret (.lit (.bool false))) (.nil)) (.nil)) (.nil))
def b_law_1 : S := .sfor (.var 3) (.rng1 (.lit (.int 2))) (b_law_0)
def b_law_2 : S := .cons (.asg (.var 2) (.call i_law_pen (.cons (.var 1) (.nil)))) (.cons (b_law_1) (.nil))
def b_law_3 : S := .sfor (.var 1) (.cons (.bin .Add (.lst false (.cons (.call i_law_cell (.cons (.var 0) (.cons (.lit (.int 0)) (.nil)))) (.nil))) (.sli (.var 0) (.cons (.lit (.int 1)) .nil) (.cons (.lit (.int 3)) .nil))) .nil) (b_law_2)
def b_law : S := .cons (b_law_3) (.cons (.ret (.lit (.bool true))) (.nil))
def f_law : Fn := ⟨1, 5, b_law, .pure⟩
def F0 : List Fn := [f_is_within, f_is_offer, f_are_offers, f_need_offers, f_need_price, f_supply_at, f_demand_at, f_supply, f_demand, f_best_price, f_filled, f_settled, f_are_moved, f_clears, f_is_bar, f_bar_holds, f_bar_of, f_law_cell, f_law_pen, f_law_draw, f_law_offers, f_law_drawn, f_law_right, f_law]
def F : List Fn := F0
end Zl
namespace Zl
open PySem PySem.Spec PyProof.Rows L2 Zm
theorem s_is_within : SSs ⟨defScope (top 8), N_is_within, fns, gl, N_is_within⟩ b_is_within (defBody (top 8)) :=
  sss_cons (ss_ret (se_and (se_isiInt (se_var (n := 0) (by rfl) (by kernel_rfl) (by kernel_rfl) (by kernel_rfl)) (by kernel_rfl) (by kernel_rfl) (fun _ => rfl)) (se_and (se_not (se_isiBool (se_var (n := 0) (by rfl) (by kernel_rfl) (by kernel_rfl) (by kernel_rfl)) (by kernel_rfl) (by kernel_rfl) (fun _ => rfl))) (se_one (se_cmp2 (se_var (n := 1) (by rfl) (by kernel_rfl) (by kernel_rfl) (by kernel_rfl)) (se_var (n := 0) (by rfl) (by kernel_rfl) (by kernel_rfl) (by kernel_rfl)) (se_var (n := 2) (by rfl) (by kernel_rfl) (by kernel_rfl) (by kernel_rfl)) (by with_unfolding_all rfl)))))) (sss_nil)
theorem s_is_offer : SSs ⟨defScope (top 11), N_is_offer, fns, gl, N_is_offer⟩ b_is_offer (defBody (top 11)) :=
  sss_cons (ss_if (st_bool (sw_or (st_not (st_val (se_isiTuple (se_var (n := 0) (by rfl) (by kernel_rfl) (by kernel_rfl) (by kernel_rfl)) (by kernel_rfl) (by kernel_rfl) (fun _ => rfl)) (fun _ _ => rfl))) (sw_or1 (st_cmp (se_len (sa_cons (se_var (n := 0) (by rfl) (by kernel_rfl) (by kernel_rfl) (by kernel_rfl)) (sa_nil) (star_ok (by rfl))) (by kernel_rfl) (star_ok (by rfl)) (stars_ok (by rfl))) (se_int) (by rfl))))) (sss_cons (ss_ret (se_bl)) (sss_nil)) (sss_nil)) (sss_cons (ss_ret (se_and (se_call (f := 0) (by rfl) (sa_cons (se_idx (se_var (n := 0) (by rfl) (by kernel_rfl) (by kernel_rfl) (by kernel_rfl)) (se_int) (fun _ _ => rfl)) (sa_cons (se_int) (sa_cons (se_glb (n := 0) (by rfl) (by kernel_rfl) (by kernel_rfl)) (sa_nil) (star_ok (by rfl))) (star_ok (by rfl))) (star_ok (by rfl))) (by kernel_rfl) (by kernel_rfl) (star_ok (by rfl)) (stars_ok (by rfl))) (se_one (se_call (f := 0) (by rfl) (sa_cons (se_idx (se_var (n := 0) (by rfl) (by kernel_rfl) (by kernel_rfl) (by kernel_rfl)) (se_int) (fun _ _ => rfl)) (sa_cons (se_int) (sa_cons (se_glb (n := 1) (by rfl) (by kernel_rfl) (by kernel_rfl)) (sa_nil) (star_ok (by rfl))) (star_ok (by rfl))) (star_ok (by rfl))) (by kernel_rfl) (by kernel_rfl) (star_ok (by rfl)) (stars_ok (by rfl)))))) (sss_nil))
theorem s_are_offers : SSs ⟨defScope (top 12), N_are_offers, fns, gl, N_are_offers⟩ b_are_offers (defBody (top 12)) :=
  sss_cons (ss_ret (se_and (se_isiTuple (se_var (n := 0) (by rfl) (by kernel_rfl) (by kernel_rfl) (by kernel_rfl)) (by kernel_rfl) (by kernel_rfl) (fun _ => rfl)) (se_and (se_cmp (se_len (sa_cons (se_var (n := 0) (by rfl) (by kernel_rfl) (by kernel_rfl) (by kernel_rfl)) (sa_nil) (star_ok (by rfl))) (by kernel_rfl) (star_ok (by rfl)) (stars_ok (by rfl))) (se_glb (n := 2) (by rfl) (by kernel_rfl) (by kernel_rfl)) (by rfl)) (se_one (se_all (sa_cons (se_comp (ownS := [((Str.ofString "one"), 1)]) (si_val (se_var (n := 0) (by rfl) (by kernel_rfl) (by kernel_rfl) (by kernel_rfl))) (by kernel_rfl) (by kernel_rfl) (sg_var (n := 1) (by rfl) (by kernel_rfl)) (by rfl) (sts_nil) (se_call (f := 1) (by rfl) (sa_cons (se_var (n := 1) (by rfl) (by kernel_rfl) (by kernel_rfl) (by kernel_rfl)) (sa_nil) (star_ok (by rfl))) (by kernel_rfl) (by kernel_rfl) (star_ok (by rfl)) (stars_ok (by rfl))) (fun _ _ => rfl)) (sa_nil) (star_ok (by rfl))) (by kernel_rfl) (star_ok (by rfl)) (stars_ok (by rfl))))))) (sss_nil)
theorem s_need_offers : SSs ⟨defScope (top 13), N_need_offers, fns, gl, N_need_offers⟩ b_need_offers (defBody (top 13)) :=
  sss_cons (ss_if (st_not (st_val (se_call (f := 2) (by rfl) (sa_cons (se_var (n := 0) (by rfl) (by kernel_rfl) (by kernel_rfl) (by kernel_rfl)) (sa_nil) (star_ok (by rfl))) (by kernel_rfl) (by kernel_rfl) (star_ok (by rfl)) (stars_ok (by rfl))) (fun _ _ => rfl))) (sss_cons (ss_raise) (sss_nil)) (sss_nil)) (sss_nil)
theorem s_need_price : SSs ⟨defScope (top 14), N_need_price, fns, gl, N_need_price⟩ b_need_price (defBody (top 14)) :=
  sss_cons (ss_if (st_not (st_val (se_call (f := 0) (by rfl) (sa_cons (se_var (n := 0) (by rfl) (by kernel_rfl) (by kernel_rfl) (by kernel_rfl)) (sa_cons (se_int) (sa_cons (se_glb (n := 1) (by rfl) (by kernel_rfl) (by kernel_rfl)) (sa_nil) (star_ok (by rfl))) (star_ok (by rfl))) (star_ok (by rfl))) (by kernel_rfl) (by kernel_rfl) (star_ok (by rfl)) (stars_ok (by rfl))) (fun _ _ => rfl))) (sss_cons (ss_raise) (sss_nil)) (sss_nil)) (sss_nil)
theorem s_supply_at : SSs ⟨defScope (top 15), N_supply_at, fns, gl, N_supply_at⟩ b_supply_at (defBody (top 15)) :=
  sss_cons (ss_ret (se_sum (sa_cons (se_comp (ownS := [((Str.ofString "weight"), 2), ((Str.ofString "own"), 3)]) (si_val (se_var (n := 0) (by rfl) (by kernel_rfl) (by kernel_rfl) (by kernel_rfl))) (by kernel_rfl) (by kernel_rfl) (sg_tup (sgs_cons (sg_var (n := 2) (by rfl) (by kernel_rfl)) (sgs_cons (sg_var (n := 3) (by rfl) (by kernel_rfl)) (sgs_nil) (fun _ => rfl)) (fun _ => rfl)) (fun _ => rfl) (fun _ => rfl)) (by rfl) (sts_one (st_cmp (se_var (n := 3) (by rfl) (by kernel_rfl) (by kernel_rfl) (by kernel_rfl)) (se_var (n := 1) (by rfl) (by kernel_rfl) (by kernel_rfl) (by kernel_rfl)) (by rfl))) (se_var (n := 2) (by rfl) (by kernel_rfl) (by kernel_rfl) (by kernel_rfl)) (fun _ _ => rfl)) (sa_nil) (star_ok (by rfl))) (by kernel_rfl) (star_ok (by rfl)) (stars_ok (by rfl)))) (sss_nil)
theorem s_demand_at : SSs ⟨defScope (top 16), N_demand_at, fns, gl, N_demand_at⟩ b_demand_at (defBody (top 16)) :=
  sss_cons (ss_ret (se_sum (sa_cons (se_comp (ownS := [((Str.ofString "weight"), 2), ((Str.ofString "own"), 3)]) (si_val (se_var (n := 0) (by rfl) (by kernel_rfl) (by kernel_rfl) (by kernel_rfl))) (by kernel_rfl) (by kernel_rfl) (sg_tup (sgs_cons (sg_var (n := 2) (by rfl) (by kernel_rfl)) (sgs_cons (sg_var (n := 3) (by rfl) (by kernel_rfl)) (sgs_nil) (fun _ => rfl)) (fun _ => rfl)) (fun _ => rfl) (fun _ => rfl)) (by rfl) (sts_one (st_cmp (se_var (n := 3) (by rfl) (by kernel_rfl) (by kernel_rfl) (by kernel_rfl)) (se_var (n := 1) (by rfl) (by kernel_rfl) (by kernel_rfl) (by kernel_rfl)) (by rfl))) (se_var (n := 2) (by rfl) (by kernel_rfl) (by kernel_rfl) (by kernel_rfl)) (fun _ _ => rfl)) (sa_nil) (star_ok (by rfl))) (by kernel_rfl) (star_ok (by rfl)) (stars_ok (by rfl)))) (sss_nil)
theorem s_supply : SSs ⟨defScope (top 17), N_supply, fns, gl, N_supply⟩ b_supply (defBody (top 17)) :=
  sss_cons (ss_expr (se_call (f := 3) (by rfl) (sa_cons (se_var (n := 0) (by rfl) (by kernel_rfl) (by kernel_rfl) (by kernel_rfl)) (sa_nil) (star_ok (by rfl))) (by kernel_rfl) (by kernel_rfl) (star_ok (by rfl)) (stars_ok (by rfl))) (fun _ => rfl)) (sss_cons (ss_expr (se_call (f := 4) (by rfl) (sa_cons (se_var (n := 1) (by rfl) (by kernel_rfl) (by kernel_rfl) (by kernel_rfl)) (sa_nil) (star_ok (by rfl))) (by kernel_rfl) (by kernel_rfl) (star_ok (by rfl)) (stars_ok (by rfl))) (fun _ => rfl)) (sss_cons (ss_ret (se_call (f := 5) (by rfl) (sa_cons (se_var (n := 0) (by rfl) (by kernel_rfl) (by kernel_rfl) (by kernel_rfl)) (sa_cons (se_var (n := 1) (by rfl) (by kernel_rfl) (by kernel_rfl) (by kernel_rfl)) (sa_nil) (star_ok (by rfl))) (star_ok (by rfl))) (by kernel_rfl) (by kernel_rfl) (star_ok (by rfl)) (stars_ok (by rfl)))) (sss_nil)))
theorem s_demand : SSs ⟨defScope (top 18), N_demand, fns, gl, N_demand⟩ b_demand (defBody (top 18)) :=
  sss_cons (ss_expr (se_call (f := 3) (by rfl) (sa_cons (se_var (n := 0) (by rfl) (by kernel_rfl) (by kernel_rfl) (by kernel_rfl)) (sa_nil) (star_ok (by rfl))) (by kernel_rfl) (by kernel_rfl) (star_ok (by rfl)) (stars_ok (by rfl))) (fun _ => rfl)) (sss_cons (ss_expr (se_call (f := 4) (by rfl) (sa_cons (se_var (n := 1) (by rfl) (by kernel_rfl) (by kernel_rfl) (by kernel_rfl)) (sa_nil) (star_ok (by rfl))) (by kernel_rfl) (by kernel_rfl) (star_ok (by rfl)) (stars_ok (by rfl))) (fun _ => rfl)) (sss_cons (ss_ret (se_call (f := 6) (by rfl) (sa_cons (se_var (n := 0) (by rfl) (by kernel_rfl) (by kernel_rfl) (by kernel_rfl)) (sa_cons (se_var (n := 1) (by rfl) (by kernel_rfl) (by kernel_rfl) (by kernel_rfl)) (sa_nil) (star_ok (by rfl))) (star_ok (by rfl))) (by kernel_rfl) (by kernel_rfl) (star_ok (by rfl)) (stars_ok (by rfl)))) (sss_nil)))
theorem s_best_price : SSs ⟨defScope (top 19), N_best_price, fns, gl, N_best_price⟩ b_best_price (defBody (top 19)) :=
  sss_cons (ss_asg (se_tup (sa_cons (se_neg) (sa_cons (se_int) (sa_nil) (star_ok (by rfl))) (star_ok (by rfl))) (by decide)) (sg_var (n := 2) (by rfl) (by kernel_rfl)) (fun _ _ => rfl) (fun _ _ => rfl) (fun _ => rfl)) (sss_cons (ss_for (si_rng1 (sa_cons (se_bin (se_glb (n := 1) (by rfl) (by kernel_rfl) (by kernel_rfl)) (se_int)) (sa_nil) (star_ok (by rfl))) (by kernel_rfl) (fun _ => rfl)) (sg_var (n := 3) (by rfl) (by kernel_rfl)) (sss_cons (ss_asg (se_min (sa_cons (se_call (f := 5) (by rfl) (sa_cons (se_var (n := 0) (by rfl) (by kernel_rfl) (by kernel_rfl) (by kernel_rfl)) (sa_cons (se_var (n := 3) (by rfl) (by kernel_rfl) (by kernel_rfl) (by kernel_rfl)) (sa_nil) (star_ok (by rfl))) (star_ok (by rfl))) (by kernel_rfl) (by kernel_rfl) (star_ok (by rfl)) (stars_ok (by rfl))) (sa_cons (se_call (f := 6) (by rfl) (sa_cons (se_var (n := 1) (by rfl) (by kernel_rfl) (by kernel_rfl) (by kernel_rfl)) (sa_cons (se_var (n := 3) (by rfl) (by kernel_rfl) (by kernel_rfl) (by kernel_rfl)) (sa_nil) (star_ok (by rfl))) (star_ok (by rfl))) (by kernel_rfl) (by kernel_rfl) (star_ok (by rfl)) (stars_ok (by rfl))) (sa_nil) (star_ok (by rfl))) (star_ok (by rfl))) (by kernel_rfl) (star_ok (by rfl)) (stars_ok (by rfl))) (sg_var (n := 4) (by rfl) (by kernel_rfl)) (fun _ _ => rfl) (fun _ _ => rfl) (fun _ => rfl)) (sss_cons (ss_if (st_cmp (se_var (n := 4) (by rfl) (by kernel_rfl) (by kernel_rfl) (by kernel_rfl)) (se_idx (se_var (n := 2) (by rfl) (by kernel_rfl) (by kernel_rfl) (by kernel_rfl)) (se_int) (fun _ _ => rfl)) (by rfl)) (sss_cons (ss_asg (se_tup (sa_cons (se_var (n := 4) (by rfl) (by kernel_rfl) (by kernel_rfl) (by kernel_rfl)) (sa_cons (se_var (n := 3) (by rfl) (by kernel_rfl) (by kernel_rfl) (by kernel_rfl)) (sa_nil) (star_ok (by rfl))) (star_ok (by rfl))) (by decide)) (sg_var (n := 2) (by rfl) (by kernel_rfl)) (fun _ _ => rfl) (fun _ _ => rfl) (fun _ => rfl)) (sss_nil)) (sss_nil)) (sss_nil))) (fun _ _ => rfl)) (sss_cons (ss_ret (se_tup (sa_cons (se_idx (se_var (n := 2) (by rfl) (by kernel_rfl) (by kernel_rfl) (by kernel_rfl)) (se_int) (fun _ _ => rfl)) (sa_cons (se_idx (se_var (n := 2) (by rfl) (by kernel_rfl) (by kernel_rfl) (by kernel_rfl)) (se_int) (fun _ _ => rfl)) (sa_nil) (star_ok (by rfl))) (star_ok (by rfl))) (by decide))) (sss_nil)))
theorem s_filled : SSs ⟨defScope (top 20), N_filled, fns, gl, N_filled⟩ b_filled (defBody (top 20)) :=
  sss_cons (ss_asg (se_rep (se_lst (sa_cons (se_int) (sa_nil) (star_ok (by rfl))) (by decide)) (se_len (sa_cons (se_var (n := 0) (by rfl) (by kernel_rfl) (by kernel_rfl) (by kernel_rfl)) (sa_nil) (star_ok (by rfl))) (by kernel_rfl) (star_ok (by rfl)) (stars_ok (by rfl)))) (sg_var (n := 3) (by rfl) (by kernel_rfl)) (fun _ _ => rfl) (fun _ _ => rfl) (fun _ => rfl)) (sss_cons (ss_for (si_val (se_var (n := 1) (by rfl) (by kernel_rfl) (by kernel_rfl) (by kernel_rfl))) (sg_var (n := 4) (by rfl) (by kernel_rfl)) (sss_cons (ss_asg (se_min (sa_cons (se_idx (se_idx (se_var (n := 0) (by rfl) (by kernel_rfl) (by kernel_rfl) (by kernel_rfl)) (se_var (n := 4) (by rfl) (by kernel_rfl) (by kernel_rfl) (by kernel_rfl)) (fun _ _ => rfl)) (se_int) (fun _ _ => rfl)) (sa_cons (se_var (n := 2) (by rfl) (by kernel_rfl) (by kernel_rfl) (by kernel_rfl)) (sa_nil) (star_ok (by rfl))) (star_ok (by rfl))) (by kernel_rfl) (star_ok (by rfl)) (stars_ok (by rfl))) (sg_idx (se_var (n := 3) (by rfl) (by kernel_rfl) (by kernel_rfl) (by kernel_rfl)) (se_var (n := 4) (by rfl) (by kernel_rfl) (by kernel_rfl) (by kernel_rfl)) (fun _ _ => rfl)) (fun _ _ => rfl) (fun _ _ => rfl) (fun _ => rfl)) (sss_cons (ss_asg (se_bin (se_var (n := 2) (by rfl) (by kernel_rfl) (by kernel_rfl) (by kernel_rfl)) (se_idx (se_var (n := 3) (by rfl) (by kernel_rfl) (by kernel_rfl) (by kernel_rfl)) (se_var (n := 4) (by rfl) (by kernel_rfl) (by kernel_rfl) (by kernel_rfl)) (fun _ _ => rfl))) (sg_var (n := 2) (by rfl) (by kernel_rfl)) (fun _ _ => rfl) (fun _ _ => rfl) (fun _ => rfl)) (sss_nil))) (fun _ _ => rfl)) (sss_cons (ss_ret (se_tuple (sa_cons (se_var (n := 3) (by rfl) (by kernel_rfl) (by kernel_rfl) (by kernel_rfl)) (sa_nil) (star_ok (by rfl))) (by kernel_rfl) (star_ok (by rfl)) (stars_ok (by rfl)))) (sss_nil)))
theorem s_settled : SSs ⟨defScope (top 21), N_settled, fns, gl, N_settled⟩ b_settled (defBody (top 21)) :=
  sss_cons (ss_expr (se_call (f := 3) (by rfl) (sa_cons (se_var (n := 0) (by rfl) (by kernel_rfl) (by kernel_rfl) (by kernel_rfl)) (sa_nil) (star_ok (by rfl))) (by kernel_rfl) (by kernel_rfl) (star_ok (by rfl)) (stars_ok (by rfl))) (fun _ => rfl)) (sss_cons (ss_expr (se_call (f := 3) (by rfl) (sa_cons (se_var (n := 1) (by rfl) (by kernel_rfl) (by kernel_rfl) (by kernel_rfl)) (sa_nil) (star_ok (by rfl))) (by kernel_rfl) (by kernel_rfl) (star_ok (by rfl)) (stars_ok (by rfl))) (fun _ => rfl)) (sss_cons (ss_asg (se_call (f := 9) (by rfl) (sa_cons (se_var (n := 0) (by rfl) (by kernel_rfl) (by kernel_rfl) (by kernel_rfl)) (sa_cons (se_var (n := 1) (by rfl) (by kernel_rfl) (by kernel_rfl) (by kernel_rfl)) (sa_nil) (star_ok (by rfl))) (star_ok (by rfl))) (by kernel_rfl) (by kernel_rfl) (star_ok (by rfl)) (stars_ok (by rfl))) (sg_tup (sgs_cons (sg_var (n := 5) (by rfl) (by kernel_rfl)) (sgs_cons (sg_var (n := 6) (by rfl) (by kernel_rfl)) (sgs_nil) (fun _ => rfl)) (fun _ => rfl)) (fun _ => rfl) (fun _ => rfl)) (fun _ _ => rfl) (fun _ _ => rfl) (fun _ => rfl)) (sss_cons (ss_asg (se_sorted (sa_cons (se_comp (ownS := [((Str.ofString "at"), 7), ((Str.ofString "own"), 8), ((Str.ofString "size"), 9)]) (si_enum (sa_cons (se_var (n := 0) (by rfl) (by kernel_rfl) (by kernel_rfl) (by kernel_rfl)) (sa_nil) (star_ok (by rfl))) (by kernel_rfl) (fun _ => rfl)) (by kernel_rfl) (by kernel_rfl) (sg_tup (sgs_cons (sg_var (n := 7) (by rfl) (by kernel_rfl)) (sgs_cons (sg_tup (sgs_cons (sg_var (n := 9) (by rfl) (by kernel_rfl)) (sgs_cons (sg_var (n := 8) (by rfl) (by kernel_rfl)) (sgs_nil) (fun _ => rfl)) (fun _ => rfl)) (fun _ => rfl) (fun _ => rfl)) (sgs_nil) (fun _ => rfl)) (fun _ => rfl)) (fun _ => rfl) (fun _ => rfl)) (by rfl) (sts_one (st_cmp (se_var (n := 8) (by rfl) (by kernel_rfl) (by kernel_rfl) (by kernel_rfl)) (se_var (n := 5) (by rfl) (by kernel_rfl) (by kernel_rfl) (by kernel_rfl)) (by rfl))) (se_tup (sa_cons (se_var (n := 8) (by rfl) (by kernel_rfl) (by kernel_rfl) (by kernel_rfl)) (sa_cons (se_var (n := 7) (by rfl) (by kernel_rfl) (by kernel_rfl) (by kernel_rfl)) (sa_nil) (star_ok (by rfl))) (star_ok (by rfl))) (by decide)) (fun _ _ => rfl)) (sa_nil) (star_ok (by rfl))) (by kernel_rfl) (star_ok (by rfl)) (stars_ok (by rfl))) (sg_var (n := 2) (by rfl) (by kernel_rfl)) (fun _ _ => rfl) (fun _ _ => rfl) (fun _ => rfl)) (sss_cons (ss_asg (se_sorted (sa_cons (se_comp (ownS := [((Str.ofString "at"), 7), ((Str.ofString "own"), 8), ((Str.ofString "size"), 9)]) (si_enum (sa_cons (se_var (n := 1) (by rfl) (by kernel_rfl) (by kernel_rfl) (by kernel_rfl)) (sa_nil) (star_ok (by rfl))) (by kernel_rfl) (fun _ => rfl)) (by kernel_rfl) (by kernel_rfl) (sg_tup (sgs_cons (sg_var (n := 7) (by rfl) (by kernel_rfl)) (sgs_cons (sg_tup (sgs_cons (sg_var (n := 9) (by rfl) (by kernel_rfl)) (sgs_cons (sg_var (n := 8) (by rfl) (by kernel_rfl)) (sgs_nil) (fun _ => rfl)) (fun _ => rfl)) (fun _ => rfl) (fun _ => rfl)) (sgs_nil) (fun _ => rfl)) (fun _ => rfl)) (fun _ => rfl) (fun _ => rfl)) (by rfl) (sts_one (st_cmp (se_var (n := 8) (by rfl) (by kernel_rfl) (by kernel_rfl) (by kernel_rfl)) (se_var (n := 5) (by rfl) (by kernel_rfl) (by kernel_rfl) (by kernel_rfl)) (by rfl))) (se_tup (sa_cons (se_bin (se_int) (se_var (n := 8) (by rfl) (by kernel_rfl) (by kernel_rfl) (by kernel_rfl))) (sa_cons (se_var (n := 7) (by rfl) (by kernel_rfl) (by kernel_rfl) (by kernel_rfl)) (sa_nil) (star_ok (by rfl))) (star_ok (by rfl))) (by decide)) (fun _ _ => rfl)) (sa_nil) (star_ok (by rfl))) (by kernel_rfl) (star_ok (by rfl)) (stars_ok (by rfl))) (sg_var (n := 3) (by rfl) (by kernel_rfl)) (fun _ _ => rfl) (fun _ _ => rfl) (fun _ => rfl)) (sss_cons (ss_asg (se_call (f := 10) (by rfl) (sa_cons (se_var (n := 0) (by rfl) (by kernel_rfl) (by kernel_rfl) (by kernel_rfl)) (sa_cons (se_comp (ownS := [((Str.ofString "at"), 7), ((Str.ofString "own"), 8)]) (si_val (se_var (n := 2) (by rfl) (by kernel_rfl) (by kernel_rfl) (by kernel_rfl))) (by kernel_rfl) (by kernel_rfl) (sg_tup (sgs_cons (sg_var (n := 8) (by rfl) (by kernel_rfl)) (sgs_cons (sg_var (n := 7) (by rfl) (by kernel_rfl)) (sgs_nil) (fun _ => rfl)) (fun _ => rfl)) (fun _ => rfl) (fun _ => rfl)) (by rfl) (sts_nil) (se_var (n := 7) (by rfl) (by kernel_rfl) (by kernel_rfl) (by kernel_rfl)) (fun _ _ => rfl)) (sa_cons (se_var (n := 6) (by rfl) (by kernel_rfl) (by kernel_rfl) (by kernel_rfl)) (sa_nil) (star_ok (by rfl))) (star_ok (by rfl))) (star_ok (by rfl))) (by kernel_rfl) (by kernel_rfl) (star_ok (by rfl)) (stars_ok (by rfl))) (sg_var (n := 4) (by rfl) (by kernel_rfl)) (fun _ _ => rfl) (fun _ _ => rfl) (fun _ => rfl)) (sss_cons (ss_ret (se_tup (sa_cons (se_var (n := 5) (by rfl) (by kernel_rfl) (by kernel_rfl) (by kernel_rfl)) (sa_cons (se_var (n := 6) (by rfl) (by kernel_rfl) (by kernel_rfl) (by kernel_rfl)) (sa_cons (se_var (n := 4) (by rfl) (by kernel_rfl) (by kernel_rfl) (by kernel_rfl)) (sa_cons (se_call (f := 10) (by rfl) (sa_cons (se_var (n := 1) (by rfl) (by kernel_rfl) (by kernel_rfl) (by kernel_rfl)) (sa_cons (se_comp (ownS := [((Str.ofString "at"), 7), ((Str.ofString "own"), 8)]) (si_val (se_var (n := 3) (by rfl) (by kernel_rfl) (by kernel_rfl) (by kernel_rfl))) (by kernel_rfl) (by kernel_rfl) (sg_tup (sgs_cons (sg_var (n := 8) (by rfl) (by kernel_rfl)) (sgs_cons (sg_var (n := 7) (by rfl) (by kernel_rfl)) (sgs_nil) (fun _ => rfl)) (fun _ => rfl)) (fun _ => rfl) (fun _ => rfl)) (by rfl) (sts_nil) (se_var (n := 7) (by rfl) (by kernel_rfl) (by kernel_rfl) (by kernel_rfl)) (fun _ _ => rfl)) (sa_cons (se_var (n := 6) (by rfl) (by kernel_rfl) (by kernel_rfl) (by kernel_rfl)) (sa_nil) (star_ok (by rfl))) (star_ok (by rfl))) (star_ok (by rfl))) (by kernel_rfl) (by kernel_rfl) (star_ok (by rfl)) (stars_ok (by rfl))) (sa_nil) (star_ok (by rfl))) (star_ok (by rfl))) (star_ok (by rfl))) (star_ok (by rfl))) (by decide))) (sss_nil)))))))
theorem s_are_moved : SSs ⟨defScope (top 22), N_are_moved, fns, gl, N_are_moved⟩ b_are_moved (defBody (top 22)) :=
  sss_cons (ss_if (st_bool (sw_or (st_not (st_val (se_isiTuple (se_var (n := 1) (by rfl) (by kernel_rfl) (by kernel_rfl) (by kernel_rfl)) (by kernel_rfl) (by kernel_rfl) (fun _ => rfl)) (fun _ _ => rfl))) (sw_or1 (st_cmp (se_len (sa_cons (se_var (n := 1) (by rfl) (by kernel_rfl) (by kernel_rfl) (by kernel_rfl)) (sa_nil) (star_ok (by rfl))) (by kernel_rfl) (star_ok (by rfl)) (stars_ok (by rfl))) (se_len (sa_cons (se_var (n := 0) (by rfl) (by kernel_rfl) (by kernel_rfl) (by kernel_rfl)) (sa_nil) (star_ok (by rfl))) (by kernel_rfl) (star_ok (by rfl)) (stars_ok (by rfl))) (by rfl))))) (sss_cons (ss_ret (se_bl)) (sss_nil)) (sss_nil)) (sss_cons (ss_ret (se_all (sa_cons (se_comp (ownS := [((Str.ofString "one"), 2), ((Str.ofString "offer"), 3)]) (si_zip (sa_cons (se_var (n := 1) (by rfl) (by kernel_rfl) (by kernel_rfl) (by kernel_rfl)) (sa_cons (se_var (n := 0) (by rfl) (by kernel_rfl) (by kernel_rfl) (by kernel_rfl)) (sa_nil) (star_ok (by rfl))) (star_ok (by rfl))) (by kernel_rfl) (fun _ => rfl) (fun _ => rfl)) (by kernel_rfl) (by kernel_rfl) (sg_tup (sgs_cons (sg_var (n := 2) (by rfl) (by kernel_rfl)) (sgs_cons (sg_var (n := 3) (by rfl) (by kernel_rfl)) (sgs_nil) (fun _ => rfl)) (fun _ => rfl)) (fun _ => rfl) (fun _ => rfl)) (by rfl) (sts_nil) (se_call (f := 0) (by rfl) (sa_cons (se_var (n := 2) (by rfl) (by kernel_rfl) (by kernel_rfl) (by kernel_rfl)) (sa_cons (se_int) (sa_cons (se_idx (se_var (n := 3) (by rfl) (by kernel_rfl) (by kernel_rfl) (by kernel_rfl)) (se_int) (fun _ _ => rfl)) (sa_nil) (star_ok (by rfl))) (star_ok (by rfl))) (star_ok (by rfl))) (by kernel_rfl) (by kernel_rfl) (star_ok (by rfl)) (stars_ok (by rfl))) (fun _ _ => rfl)) (sa_nil) (star_ok (by rfl))) (by kernel_rfl) (star_ok (by rfl)) (stars_ok (by rfl)))) (sss_nil))
theorem s_clears : SSs ⟨defScope (top 23), N_clears, fns, gl, N_clears⟩ b_clears (defBody (top 23)) :=
  sss_cons (ss_expr (se_call (f := 3) (by rfl) (sa_cons (se_var (n := 0) (by rfl) (by kernel_rfl) (by kernel_rfl) (by kernel_rfl)) (sa_nil) (star_ok (by rfl))) (by kernel_rfl) (by kernel_rfl) (star_ok (by rfl)) (stars_ok (by rfl))) (fun _ => rfl)) (sss_cons (ss_expr (se_call (f := 3) (by rfl) (sa_cons (se_var (n := 1) (by rfl) (by kernel_rfl) (by kernel_rfl) (by kernel_rfl)) (sa_nil) (star_ok (by rfl))) (by kernel_rfl) (by kernel_rfl) (star_ok (by rfl)) (stars_ok (by rfl))) (fun _ => rfl)) (sss_cons (ss_if (st_bool (sw_or (st_not (st_val (se_isiTuple (se_var (n := 2) (by rfl) (by kernel_rfl) (by kernel_rfl) (by kernel_rfl)) (by kernel_rfl) (by kernel_rfl) (fun _ => rfl)) (fun _ _ => rfl))) (sw_or (st_cmp (se_len (sa_cons (se_var (n := 2) (by rfl) (by kernel_rfl) (by kernel_rfl) (by kernel_rfl)) (sa_nil) (star_ok (by rfl))) (by kernel_rfl) (star_ok (by rfl)) (stars_ok (by rfl))) (se_int) (by rfl)) (sw_or1 (st_not (st_val (se_call (f := 0) (by rfl) (sa_cons (se_idx (se_var (n := 2) (by rfl) (by kernel_rfl) (by kernel_rfl) (by kernel_rfl)) (se_int) (fun _ _ => rfl)) (sa_cons (se_int) (sa_cons (se_glb (n := 1) (by rfl) (by kernel_rfl) (by kernel_rfl)) (sa_nil) (star_ok (by rfl))) (star_ok (by rfl))) (star_ok (by rfl))) (by kernel_rfl) (by kernel_rfl) (star_ok (by rfl)) (stars_ok (by rfl))) (fun _ _ => rfl))))))) (sss_cons (ss_ret (se_bl)) (sss_nil)) (sss_nil)) (sss_cons (ss_asg (se_var (n := 2) (by rfl) (by kernel_rfl) (by kernel_rfl) (by kernel_rfl)) (sg_tup (sgs_cons (sg_var (n := 5) (by rfl) (by kernel_rfl)) (sgs_cons (sg_var (n := 6) (by rfl) (by kernel_rfl)) (sgs_cons (sg_var (n := 7) (by rfl) (by kernel_rfl)) (sgs_nil) (fun _ => rfl)) (fun _ => rfl)) (fun _ => rfl)) (fun _ => rfl) (fun _ => rfl)) (fun _ _ => rfl) (fun _ _ => rfl) (fun _ => rfl)) (sss_cons (ss_if (st_bool (sw_or (st_not (st_val (se_call (f := 12) (by rfl) (sa_cons (se_var (n := 0) (by rfl) (by kernel_rfl) (by kernel_rfl) (by kernel_rfl)) (sa_cons (se_var (n := 6) (by rfl) (by kernel_rfl) (by kernel_rfl) (by kernel_rfl)) (sa_nil) (star_ok (by rfl))) (star_ok (by rfl))) (by kernel_rfl) (by kernel_rfl) (star_ok (by rfl)) (stars_ok (by rfl))) (fun _ _ => rfl))) (sw_or (st_not (st_val (se_call (f := 12) (by rfl) (sa_cons (se_var (n := 1) (by rfl) (by kernel_rfl) (by kernel_rfl) (by kernel_rfl)) (sa_cons (se_var (n := 7) (by rfl) (by kernel_rfl) (by kernel_rfl) (by kernel_rfl)) (sa_nil) (star_ok (by rfl))) (star_ok (by rfl))) (by kernel_rfl) (by kernel_rfl) (star_ok (by rfl)) (stars_ok (by rfl))) (fun _ _ => rfl))) (sw_or1 (st_cmp (se_sum (sa_cons (se_var (n := 6) (by rfl) (by kernel_rfl) (by kernel_rfl) (by kernel_rfl)) (sa_nil) (star_ok (by rfl))) (by kernel_rfl) (star_ok (by rfl)) (stars_ok (by rfl))) (se_sum (sa_cons (se_var (n := 7) (by rfl) (by kernel_rfl) (by kernel_rfl) (by kernel_rfl)) (sa_nil) (star_ok (by rfl))) (by kernel_rfl) (star_ok (by rfl)) (stars_ok (by rfl))) (by rfl)))))) (sss_cons (ss_ret (se_bl)) (sss_nil)) (sss_nil)) (sss_cons (ss_setLc (n := 3) (ownS := [((Str.ofString "one"), 8), ((Str.ofString "ask"), 9)]) (by rfl) (by kernel_rfl) (by kernel_rfl) (by kernel_rfl) (by kernel_rfl) (si_zip (sa_cons (se_var (n := 6) (by rfl) (by kernel_rfl) (by kernel_rfl) (by kernel_rfl)) (sa_cons (se_var (n := 0) (by rfl) (by kernel_rfl) (by kernel_rfl) (by kernel_rfl)) (sa_nil) (star_ok (by rfl))) (star_ok (by rfl))) (by kernel_rfl) (fun _ => rfl) (fun _ => rfl)) (by kernel_rfl) (by kernel_rfl) (sg_tup (sgs_cons (sg_var (n := 8) (by rfl) (by kernel_rfl)) (sgs_cons (sg_var (n := 9) (by rfl) (by kernel_rfl)) (sgs_nil) (fun _ => rfl)) (fun _ => rfl)) (fun _ => rfl) (fun _ => rfl)) (by rfl) (sts_one (st_cmp (se_idx (se_var (n := 9) (by rfl) (by kernel_rfl) (by kernel_rfl) (by kernel_rfl)) (se_int) (fun _ _ => rfl)) (se_var (n := 5) (by rfl) (by kernel_rfl) (by kernel_rfl) (by kernel_rfl)) (by rfl))) (se_var (n := 8) (by rfl) (by kernel_rfl) (by kernel_rfl) (by kernel_rfl)) (fun _ _ => rfl)) (sss_cons (ss_setLc (n := 4) (ownS := [((Str.ofString "one"), 8), ((Str.ofString "bid"), 10)]) (by rfl) (by kernel_rfl) (by kernel_rfl) (by kernel_rfl) (by kernel_rfl) (si_zip (sa_cons (se_var (n := 7) (by rfl) (by kernel_rfl) (by kernel_rfl) (by kernel_rfl)) (sa_cons (se_var (n := 1) (by rfl) (by kernel_rfl) (by kernel_rfl) (by kernel_rfl)) (sa_nil) (star_ok (by rfl))) (star_ok (by rfl))) (by kernel_rfl) (fun _ => rfl) (fun _ => rfl)) (by kernel_rfl) (by kernel_rfl) (sg_tup (sgs_cons (sg_var (n := 8) (by rfl) (by kernel_rfl)) (sgs_cons (sg_var (n := 10) (by rfl) (by kernel_rfl)) (sgs_nil) (fun _ => rfl)) (fun _ => rfl)) (fun _ => rfl) (fun _ => rfl)) (by rfl) (sts_one (st_cmp (se_idx (se_var (n := 10) (by rfl) (by kernel_rfl) (by kernel_rfl) (by kernel_rfl)) (se_int) (fun _ _ => rfl)) (se_var (n := 5) (by rfl) (by kernel_rfl) (by kernel_rfl) (by kernel_rfl)) (by rfl))) (se_var (n := 8) (by rfl) (by kernel_rfl) (by kernel_rfl) (by kernel_rfl)) (fun _ _ => rfl)) (sss_cons (ss_ret (se_cmp (se_bin (se_sum (sa_cons (se_var (n := 3) (by rfl) (by kernel_rfl) (by kernel_rfl) (by kernel_rfl)) (sa_nil) (star_ok (by rfl))) (by kernel_rfl) (star_ok (by rfl)) (stars_ok (by rfl))) (se_sum (sa_cons (se_var (n := 4) (by rfl) (by kernel_rfl) (by kernel_rfl) (by kernel_rfl)) (sa_nil) (star_ok (by rfl))) (by kernel_rfl) (star_ok (by rfl)) (stars_ok (by rfl)))) (se_int) (by rfl))) (sss_nil))))))))
theorem s_is_bar : SSs ⟨defScope (top 24), N_is_bar, fns, gl, N_is_bar⟩ b_is_bar (defBody (top 24)) :=
  sss_cons (ss_asg (se_ite (st_cmp (se_var (n := 3) (by rfl) (by kernel_rfl) (by kernel_rfl) (by kernel_rfl)) (se_int) (by rfl)) (se_int) (se_call (f := 5) (by rfl) (sa_cons (se_var (n := 0) (by rfl) (by kernel_rfl) (by kernel_rfl) (by kernel_rfl)) (sa_cons (se_var (n := 3) (by rfl) (by kernel_rfl) (by kernel_rfl) (by kernel_rfl)) (sa_nil) (star_ok (by rfl))) (star_ok (by rfl))) (by kernel_rfl) (by kernel_rfl) (star_ok (by rfl)) (stars_ok (by rfl)))) (sg_var (n := 4) (by rfl) (by kernel_rfl)) (fun _ _ => rfl) (fun _ _ => rfl) (fun _ => rfl)) (sss_cons (ss_asg (se_ite (st_cmp (se_var (n := 3) (by rfl) (by kernel_rfl) (by kernel_rfl) (by kernel_rfl)) (se_glb (n := 1) (by rfl) (by kernel_rfl) (by kernel_rfl)) (by rfl)) (se_int) (se_call (f := 6) (by rfl) (sa_cons (se_var (n := 1) (by rfl) (by kernel_rfl) (by kernel_rfl) (by kernel_rfl)) (sa_cons (se_bin (se_var (n := 3) (by rfl) (by kernel_rfl) (by kernel_rfl) (by kernel_rfl)) (se_int)) (sa_nil) (star_ok (by rfl))) (star_ok (by rfl))) (by kernel_rfl) (by kernel_rfl) (star_ok (by rfl)) (stars_ok (by rfl)))) (sg_var (n := 5) (by rfl) (by kernel_rfl)) (fun _ _ => rfl) (fun _ _ => rfl) (fun _ => rfl)) (sss_cons (ss_ret (se_and (se_cmp (se_var (n := 4) (by rfl) (by kernel_rfl) (by kernel_rfl) (by kernel_rfl)) (se_var (n := 2) (by rfl) (by kernel_rfl) (by kernel_rfl) (by kernel_rfl)) (by rfl)) (se_one (se_cmp (se_var (n := 5) (by rfl) (by kernel_rfl) (by kernel_rfl) (by kernel_rfl)) (se_var (n := 2) (by rfl) (by kernel_rfl) (by kernel_rfl) (by kernel_rfl)) (by rfl))))) (sss_nil)))
theorem s_bar_holds : SSs ⟨defScope (top 25), N_bar_holds, fns, gl, N_bar_holds⟩ b_bar_holds (defBody (top 25)) :=
  sss_cons (ss_expr (se_call (f := 3) (by rfl) (sa_cons (se_var (n := 0) (by rfl) (by kernel_rfl) (by kernel_rfl) (by kernel_rfl)) (sa_nil) (star_ok (by rfl))) (by kernel_rfl) (by kernel_rfl) (star_ok (by rfl)) (stars_ok (by rfl))) (fun _ => rfl)) (sss_cons (ss_expr (se_call (f := 3) (by rfl) (sa_cons (se_var (n := 1) (by rfl) (by kernel_rfl) (by kernel_rfl) (by kernel_rfl)) (sa_nil) (star_ok (by rfl))) (by kernel_rfl) (by kernel_rfl) (star_ok (by rfl)) (stars_ok (by rfl))) (fun _ => rfl)) (sss_cons (ss_if (st_not (st_val (se_call (f := 0) (by rfl) (sa_cons (se_var (n := 2) (by rfl) (by kernel_rfl) (by kernel_rfl) (by kernel_rfl)) (sa_cons (se_int) (sa_cons (se_int) (sa_nil) (star_ok (by rfl))) (star_ok (by rfl))) (star_ok (by rfl))) (by kernel_rfl) (by kernel_rfl) (star_ok (by rfl)) (stars_ok (by rfl))) (fun _ _ => rfl))) (sss_cons (ss_raise) (sss_nil)) (sss_nil)) (sss_cons (ss_ret (se_and (se_call (f := 0) (by rfl) (sa_cons (se_var (n := 3) (by rfl) (by kernel_rfl) (by kernel_rfl) (by kernel_rfl)) (sa_cons (se_neg) (sa_cons (se_glb (n := 1) (by rfl) (by kernel_rfl) (by kernel_rfl)) (sa_nil) (star_ok (by rfl))) (star_ok (by rfl))) (star_ok (by rfl))) (by kernel_rfl) (by kernel_rfl) (star_ok (by rfl)) (stars_ok (by rfl))) (se_one (se_call (f := 14) (by rfl) (sa_cons (se_var (n := 0) (by rfl) (by kernel_rfl) (by kernel_rfl) (by kernel_rfl)) (sa_cons (se_var (n := 1) (by rfl) (by kernel_rfl) (by kernel_rfl) (by kernel_rfl)) (sa_cons (se_var (n := 2) (by rfl) (by kernel_rfl) (by kernel_rfl) (by kernel_rfl)) (sa_cons (se_var (n := 3) (by rfl) (by kernel_rfl) (by kernel_rfl) (by kernel_rfl)) (sa_nil) (star_ok (by rfl))) (star_ok (by rfl))) (star_ok (by rfl))) (star_ok (by rfl))) (by kernel_rfl) (by kernel_rfl) (star_ok (by rfl)) (stars_ok (by rfl)))))) (sss_nil))))
theorem s_bar_of : SSs ⟨defScope (top 26), N_bar_of, fns, gl, N_bar_of⟩ b_bar_of (defBody (top 26)) :=
  sss_cons (ss_expr (se_call (f := 3) (by rfl) (sa_cons (se_var (n := 0) (by rfl) (by kernel_rfl) (by kernel_rfl) (by kernel_rfl)) (sa_nil) (star_ok (by rfl))) (by kernel_rfl) (by kernel_rfl) (star_ok (by rfl)) (stars_ok (by rfl))) (fun _ => rfl)) (sss_cons (ss_expr (se_call (f := 3) (by rfl) (sa_cons (se_var (n := 1) (by rfl) (by kernel_rfl) (by kernel_rfl) (by kernel_rfl)) (sa_nil) (star_ok (by rfl))) (by kernel_rfl) (by kernel_rfl) (star_ok (by rfl)) (stars_ok (by rfl))) (fun _ => rfl)) (sss_cons (ss_asg (se_idx (se_call (f := 9) (by rfl) (sa_cons (se_var (n := 0) (by rfl) (by kernel_rfl) (by kernel_rfl) (by kernel_rfl)) (sa_cons (se_var (n := 1) (by rfl) (by kernel_rfl) (by kernel_rfl) (by kernel_rfl)) (sa_nil) (star_ok (by rfl))) (star_ok (by rfl))) (by kernel_rfl) (by kernel_rfl) (star_ok (by rfl)) (stars_ok (by rfl))) (se_int) (fun _ _ => rfl)) (sg_var (n := 2) (by rfl) (by kernel_rfl)) (fun _ _ => rfl) (fun _ _ => rfl) (fun _ => rfl)) (sss_cons (ss_ret (se_idx (se_comp (ownS := [((Str.ofString "q"), 3)]) (si_rng2 (sa_cons (se_neg) (sa_cons (se_bin (se_glb (n := 1) (by rfl) (by kernel_rfl) (by kernel_rfl)) (se_int)) (sa_nil) (star_ok (by rfl))) (star_ok (by rfl))) (by kernel_rfl) (fun _ => rfl) (fun _ => rfl)) (by kernel_rfl) (by kernel_rfl) (sg_var (n := 3) (by rfl) (by kernel_rfl)) (by rfl) (sts_one (st_val (se_call (f := 14) (by rfl) (sa_cons (se_var (n := 0) (by rfl) (by kernel_rfl) (by kernel_rfl) (by kernel_rfl)) (sa_cons (se_var (n := 1) (by rfl) (by kernel_rfl) (by kernel_rfl) (by kernel_rfl)) (sa_cons (se_var (n := 2) (by rfl) (by kernel_rfl) (by kernel_rfl) (by kernel_rfl)) (sa_cons (se_var (n := 3) (by rfl) (by kernel_rfl) (by kernel_rfl) (by kernel_rfl)) (sa_nil) (star_ok (by rfl))) (star_ok (by rfl))) (star_ok (by rfl))) (star_ok (by rfl))) (by kernel_rfl) (by kernel_rfl) (star_ok (by rfl)) (stars_ok (by rfl))) (fun _ _ => rfl))) (se_var (n := 3) (by rfl) (by kernel_rfl) (by kernel_rfl) (by kernel_rfl)) (fun _ _ => rfl)) (se_int) (fun _ _ => rfl))) (sss_nil))))
theorem s_law_cell : SSs ⟨defScope (top 28), N_law_cell, fns, gl, N_law_cell⟩ b_law_cell (defBody (top 28)) :=
  sss_cons (ss_if (st_cmp (se_var (n := 1) (by rfl) (by kernel_rfl) (by kernel_rfl) (by kernel_rfl)) (se_len (sa_cons (se_var (n := 0) (by rfl) (by kernel_rfl) (by kernel_rfl) (by kernel_rfl)) (sa_nil) (star_ok (by rfl))) (by kernel_rfl) (star_ok (by rfl)) (stars_ok (by rfl))) (by rfl)) (sss_cons (ss_ret (se_idx (se_var (n := 0) (by rfl) (by kernel_rfl) (by kernel_rfl) (by kernel_rfl)) (se_var (n := 1) (by rfl) (by kernel_rfl) (by kernel_rfl) (by kernel_rfl)) (fun _ _ => rfl))) (sss_nil)) (sss_nil)) (sss_cons (ss_ret (se_int)) (sss_nil))
theorem s_law_pen : SSs ⟨defScope (top 29), N_law_pen, fns, gl, N_law_pen⟩ b_law_pen (defBody (top 29)) :=
  sss_cons (ss_asg (se_max (sa_cons (se_var (n := 0) (by rfl) (by kernel_rfl) (by kernel_rfl) (by kernel_rfl)) (sa_cons (se_bin (se_int) (se_var (n := 0) (by rfl) (by kernel_rfl) (by kernel_rfl) (by kernel_rfl))) (sa_nil) (star_ok (by rfl))) (star_ok (by rfl))) (by kernel_rfl) (star_ok (by rfl)) (stars_ok (by rfl))) (sg_var (n := 1) (by rfl) (by kernel_rfl)) (fun _ _ => rfl) (fun _ _ => rfl) (fun _ => rfl)) (sss_cons (ss_ret (se_lstL (sa_cons (se_var (n := 1) (by rfl) (by kernel_rfl) (by kernel_rfl) (by kernel_rfl)) (sa_cons (se_intF (sa_cons (se_cmp (se_var (n := 1) (by rfl) (by kernel_rfl) (by kernel_rfl) (by kernel_rfl)) (se_bin (se_int) (se_int)) (by rfl)) (sa_nil) (star_ok (by rfl))) (by kernel_rfl) (star_ok (by rfl)) (stars_ok (by rfl))) (sa_nil) (star_ok (by rfl))) (star_ok (by rfl))) (by decide))) (sss_nil))
theorem s_law_draw : SSs ⟨defScope (top 30), N_law_draw, fns, gl, N_law_draw⟩ b_law_draw (defBody (top 30)) :=
  sss_cons (ss_if (st_cmp (se_idx (se_var (n := 0) (by rfl) (by kernel_rfl) (by kernel_rfl) (by kernel_rfl)) (se_int) (fun _ _ => rfl)) (se_int) (by rfl)) (sss_cons (ss_asg (se_divmod (sa_cons (se_idx (se_var (n := 0) (by rfl) (by kernel_rfl) (by kernel_rfl) (by kernel_rfl)) (se_int) (fun _ _ => rfl)) (sa_cons (se_var (n := 1) (by rfl) (by kernel_rfl) (by kernel_rfl) (by kernel_rfl)) (sa_nil) (star_ok (by rfl))) (star_ok (by rfl))) (by kernel_rfl) (star_ok (by rfl)) (stars_ok (by rfl))) (sg_tup (sgs_cons (sg_var (n := 3) (by rfl) (by kernel_rfl)) (sgs_cons (sg_var (n := 4) (by rfl) (by kernel_rfl)) (sgs_nil) (fun _ => rfl)) (fun _ => rfl)) (fun _ => rfl) (fun _ => rfl)) (fun _ _ => rfl) (fun _ _ => rfl) (fun _ => rfl)) (sss_cons (ss_asg (se_var (n := 3) (by rfl) (by kernel_rfl) (by kernel_rfl) (by kernel_rfl)) (sg_idx (se_var (n := 0) (by rfl) (by kernel_rfl) (by kernel_rfl) (by kernel_rfl)) (se_int) (fun _ _ => rfl)) (fun _ _ => rfl) (fun _ _ => rfl) (fun _ => rfl)) (sss_cons (ss_ret (se_var (n := 4) (by rfl) (by kernel_rfl) (by kernel_rfl) (by kernel_rfl))) (sss_nil)))) (sss_nil)) (sss_cons (ss_asg (se_bin (se_bin (se_bin (se_bin (se_idx (se_var (n := 0) (by rfl) (by kernel_rfl) (by kernel_rfl) (by kernel_rfl)) (se_int) (fun _ _ => rfl)) (se_int)) (se_int)) (se_int)) (se_int)) (sg_var (n := 2) (by rfl) (by kernel_rfl)) (fun _ _ => rfl) (fun _ _ => rfl) (fun _ => rfl)) (sss_cons (ss_asg (se_bin (se_bin (se_bin (se_var (n := 2) (by rfl) (by kernel_rfl) (by kernel_rfl) (by kernel_rfl)) (se_var (n := 2) (by rfl) (by kernel_rfl) (by kernel_rfl) (by kernel_rfl))) (se_int)) (se_int)) (sg_var (n := 2) (by rfl) (by kernel_rfl)) (fun _ _ => rfl) (fun _ _ => rfl) (fun _ => rfl)) (sss_cons (ss_asg (se_bin (se_bin (se_bin (se_var (n := 2) (by rfl) (by kernel_rfl) (by kernel_rfl) (by kernel_rfl)) (se_int)) (se_int)) (se_int)) (sg_idx (se_var (n := 0) (by rfl) (by kernel_rfl) (by kernel_rfl) (by kernel_rfl)) (se_int) (fun _ _ => rfl)) (fun _ _ => rfl) (fun _ _ => rfl) (fun _ => rfl)) (sss_cons (ss_ret (se_bin (se_bin (se_idx (se_var (n := 0) (by rfl) (by kernel_rfl) (by kernel_rfl) (by kernel_rfl)) (se_int) (fun _ _ => rfl)) (se_int)) (se_var (n := 1) (by rfl) (by kernel_rfl) (by kernel_rfl) (by kernel_rfl)))) (sss_nil)))))
theorem s_law_offers : SSs ⟨defScope (top 31), N_law_offers, fns, gl, N_law_offers⟩ b_law_offers (defBody (top 31)) :=
  sss_cons (ss_par (n := 4) (m := 5) (by rfl) (by rfl) (by decide) (by kernel_rfl) (by kernel_rfl) (sa_cons (se_idx (se_lst (sa_cons (se_int) (sa_cons (se_int) (sa_cons (se_int) (sa_cons (se_call (f := 19) (by rfl) (sa_cons (se_var (n := 0) (by rfl) (by kernel_rfl) (by kernel_rfl) (by kernel_rfl)) (sa_cons (se_int) (sa_nil) (star_ok (by rfl))) (star_ok (by rfl))) (by kernel_rfl) (by kernel_rfl) (star_ok (by rfl)) (stars_ok (by rfl))) (sa_nil) (star_ok (by rfl))) (star_ok (by rfl))) (star_ok (by rfl))) (star_ok (by rfl))) (by decide)) (se_call (f := 19) (by rfl) (sa_cons (se_var (n := 0) (by rfl) (by kernel_rfl) (by kernel_rfl) (by kernel_rfl)) (sa_cons (se_int) (sa_nil) (star_ok (by rfl))) (star_ok (by rfl))) (by kernel_rfl) (by kernel_rfl) (star_ok (by rfl)) (stars_ok (by rfl))) (fun _ _ => rfl)) (sa_cons (se_idx (se_lst (sa_cons (se_int) (sa_cons (se_int) (sa_cons (se_int) (sa_cons (se_int) (sa_nil) (star_ok (by rfl))) (star_ok (by rfl))) (star_ok (by rfl))) (star_ok (by rfl))) (by decide)) (se_call (f := 19) (by rfl) (sa_cons (se_var (n := 0) (by rfl) (by kernel_rfl) (by kernel_rfl) (by kernel_rfl)) (sa_cons (se_int) (sa_nil) (star_ok (by rfl))) (star_ok (by rfl))) (by kernel_rfl) (by kernel_rfl) (star_ok (by rfl)) (stars_ok (by rfl))) (fun _ _ => rfl)) (sa_nil) (star_ok (by rfl))) (star_ok (by rfl))) (by kernel_rfl)) (sss_cons (ss_asg (se_lstL (sa_nil) (by decide)) (sg_var (n := 2) (by rfl) (by kernel_rfl)) (fun _ _ => rfl) (fun _ _ => rfl) (fun _ => rfl)) (sss_cons (ss_for (si_rng1 (sa_cons (se_call (f := 19) (by rfl) (sa_cons (se_var (n := 0) (by rfl) (by kernel_rfl) (by kernel_rfl) (by kernel_rfl)) (sa_cons (se_int) (sa_nil) (star_ok (by rfl))) (star_ok (by rfl))) (by kernel_rfl) (by kernel_rfl) (star_ok (by rfl)) (stars_ok (by rfl))) (sa_nil) (star_ok (by rfl))) (by kernel_rfl) (fun _ => rfl)) (sg_var (n := 3) (by rfl) (by kernel_rfl)) (sss_cons (ss_asg (se_min (sa_cons (se_int) (sa_cons (se_bin (se_var (n := 4) (by rfl) (by kernel_rfl) (by kernel_rfl) (by kernel_rfl)) (se_call (f := 19) (by rfl) (sa_cons (se_var (n := 0) (by rfl) (by kernel_rfl) (by kernel_rfl) (by kernel_rfl)) (sa_cons (se_var (n := 5) (by rfl) (by kernel_rfl) (by kernel_rfl) (by kernel_rfl)) (sa_nil) (star_ok (by rfl))) (star_ok (by rfl))) (by kernel_rfl) (by kernel_rfl) (star_ok (by rfl)) (stars_ok (by rfl)))) (sa_nil) (star_ok (by rfl))) (star_ok (by rfl))) (by kernel_rfl) (star_ok (by rfl)) (stars_ok (by rfl))) (sg_var (n := 6) (by rfl) (by kernel_rfl)) (fun _ _ => rfl) (fun _ _ => rfl) (fun _ => rfl)) (sss_cons (ss_if (st_bool (sw_and (st_cmp (se_var (n := 1) (by rfl) (by kernel_rfl) (by kernel_rfl) (by kernel_rfl)) (se_tup (sa_nil) (by decide)) (by rfl)) (sw_and1 (st_cmp (se_call (f := 19) (by rfl) (sa_cons (se_var (n := 0) (by rfl) (by kernel_rfl) (by kernel_rfl) (by kernel_rfl)) (sa_cons (se_int) (sa_nil) (star_ok (by rfl))) (star_ok (by rfl))) (by kernel_rfl) (by kernel_rfl) (star_ok (by rfl)) (stars_ok (by rfl))) (se_int) (by rfl))))) (sss_cons (ss_asg (se_max (sa_cons (se_int) (sa_cons (se_min (sa_cons (se_int) (sa_cons (se_bin (se_bin (se_idx (se_idx (se_var (n := 1) (by rfl) (by kernel_rfl) (by kernel_rfl) (by kernel_rfl)) (se_call (f := 19) (by rfl) (sa_cons (se_var (n := 0) (by rfl) (by kernel_rfl) (by kernel_rfl) (by kernel_rfl)) (sa_cons (se_len (sa_cons (se_var (n := 1) (by rfl) (by kernel_rfl) (by kernel_rfl) (by kernel_rfl)) (sa_nil) (star_ok (by rfl))) (by kernel_rfl) (star_ok (by rfl)) (stars_ok (by rfl))) (sa_nil) (star_ok (by rfl))) (star_ok (by rfl))) (by kernel_rfl) (by kernel_rfl) (star_ok (by rfl)) (stars_ok (by rfl))) (fun _ _ => rfl)) (se_int) (fun _ _ => rfl)) (se_call (f := 19) (by rfl) (sa_cons (se_var (n := 0) (by rfl) (by kernel_rfl) (by kernel_rfl) (by kernel_rfl)) (sa_cons (se_int) (sa_nil) (star_ok (by rfl))) (star_ok (by rfl))) (by kernel_rfl) (by kernel_rfl) (star_ok (by rfl)) (stars_ok (by rfl)))) (se_int)) (sa_nil) (star_ok (by rfl))) (star_ok (by rfl))) (by kernel_rfl) (star_ok (by rfl)) (stars_ok (by rfl))) (sa_nil) (star_ok (by rfl))) (star_ok (by rfl))) (by kernel_rfl) (star_ok (by rfl)) (stars_ok (by rfl))) (sg_var (n := 6) (by rfl) (by kernel_rfl)) (fun _ _ => rfl) (fun _ _ => rfl) (fun _ => rfl)) (sss_nil)) (sss_nil)) (sss_cons (ss_expr (se_append (se_var (n := 2) (by rfl) (by kernel_rfl) (by kernel_rfl) (by kernel_rfl)) (sa_cons (se_tup (sa_cons (se_idx (se_lst (sa_cons (se_int) (sa_cons (se_int) (sa_cons (se_bin (se_int) (se_call (f := 19) (by rfl) (sa_cons (se_var (n := 0) (by rfl) (by kernel_rfl) (by kernel_rfl) (by kernel_rfl)) (sa_cons (se_int) (sa_nil) (star_ok (by rfl))) (star_ok (by rfl))) (by kernel_rfl) (by kernel_rfl) (star_ok (by rfl)) (stars_ok (by rfl)))) (sa_cons (se_bin (se_int) (se_call (f := 19) (by rfl) (sa_cons (se_var (n := 0) (by rfl) (by kernel_rfl) (by kernel_rfl) (by kernel_rfl)) (sa_cons (se_int) (sa_nil) (star_ok (by rfl))) (star_ok (by rfl))) (by kernel_rfl) (by kernel_rfl) (star_ok (by rfl)) (stars_ok (by rfl)))) (sa_nil) (star_ok (by rfl))) (star_ok (by rfl))) (star_ok (by rfl))) (star_ok (by rfl))) (by decide)) (se_call (f := 19) (by rfl) (sa_cons (se_var (n := 0) (by rfl) (by kernel_rfl) (by kernel_rfl) (by kernel_rfl)) (sa_cons (se_int) (sa_nil) (star_ok (by rfl))) (star_ok (by rfl))) (by kernel_rfl) (by kernel_rfl) (star_ok (by rfl)) (stars_ok (by rfl))) (fun _ _ => rfl)) (sa_cons (se_var (n := 6) (by rfl) (by kernel_rfl) (by kernel_rfl) (by kernel_rfl)) (sa_nil) (star_ok (by rfl))) (star_ok (by rfl))) (by decide)) (sa_nil) (star_ok (by rfl))) (fun _ => rfl) (fun _ => rfl) (by rfl) (fun _ => rfl) (fun _ => rfl)) (fun _ => rfl)) (sss_nil)))) (fun _ _ => rfl)) (sss_cons (ss_ret (se_tuple (sa_cons (se_var (n := 2) (by rfl) (by kernel_rfl) (by kernel_rfl) (by kernel_rfl)) (sa_nil) (star_ok (by rfl))) (by kernel_rfl) (star_ok (by rfl)) (stars_ok (by rfl)))) (sss_nil))))
theorem s_law_drawn : SSs ⟨defScope (top 32), N_law_drawn, fns, gl, N_law_drawn⟩ b_law_drawn (defBody (top 32)) :=
  sss_cons (ss_asg (se_lstL (sa_nil) (by decide)) (sg_var (n := 5) (by rfl) (by kernel_rfl)) (fun _ _ => rfl) (fun _ _ => rfl) (fun _ => rfl)) (sss_cons (ss_for (si_val (se_var (n := 1) (by rfl) (by kernel_rfl) (by kernel_rfl) (by kernel_rfl))) (sg_tup (sgs_cons (sg_var (n := 6) (by rfl) (by kernel_rfl)) (sgs_cons (sg_var (n := 7) (by rfl) (by kernel_rfl)) (sgs_nil) (fun _ => rfl)) (fun _ => rfl)) (fun _ => rfl) (fun _ => rfl)) (sss_cons (ss_asg (se_ite (st_cmp (se_bin (se_var (n := 3) (by rfl) (by kernel_rfl) (by kernel_rfl) (by kernel_rfl)) (se_bin (se_var (n := 7) (by rfl) (by kernel_rfl) (by kernel_rfl) (by kernel_rfl)) (se_var (n := 2) (by rfl) (by kernel_rfl) (by kernel_rfl) (by kernel_rfl)))) (se_int) (by rfl)) (se_min (sa_cons (se_var (n := 4) (by rfl) (by kernel_rfl) (by kernel_rfl) (by kernel_rfl)) (sa_cons (se_call (f := 19) (by rfl) (sa_cons (se_var (n := 0) (by rfl) (by kernel_rfl) (by kernel_rfl) (by kernel_rfl)) (sa_cons (se_bin (se_var (n := 6) (by rfl) (by kernel_rfl) (by kernel_rfl) (by kernel_rfl)) (se_int)) (sa_nil) (star_ok (by rfl))) (star_ok (by rfl))) (by kernel_rfl) (by kernel_rfl) (star_ok (by rfl)) (stars_ok (by rfl))) (sa_nil) (star_ok (by rfl))) (star_ok (by rfl))) (by kernel_rfl) (star_ok (by rfl)) (stars_ok (by rfl))) (se_int)) (sg_var (n := 8) (by rfl) (by kernel_rfl)) (fun _ _ => rfl) (fun _ _ => rfl) (fun _ => rfl)) (sss_cons (ss_expr (se_append (se_var (n := 5) (by rfl) (by kernel_rfl) (by kernel_rfl) (by kernel_rfl)) (sa_cons (se_var (n := 8) (by rfl) (by kernel_rfl) (by kernel_rfl) (by kernel_rfl)) (sa_nil) (star_ok (by rfl))) (fun _ => rfl) (fun _ => rfl) (by rfl) (fun _ => rfl) (fun _ => rfl)) (fun _ => rfl)) (sss_cons (ss_asg (se_bin (se_var (n := 4) (by rfl) (by kernel_rfl) (by kernel_rfl) (by kernel_rfl)) (se_var (n := 8) (by rfl) (by kernel_rfl) (by kernel_rfl) (by kernel_rfl))) (sg_var (n := 4) (by rfl) (by kernel_rfl)) (fun _ _ => rfl) (fun _ _ => rfl) (fun _ => rfl)) (sss_nil)))) (fun _ _ => rfl)) (sss_cons (ss_ret (se_tuple (sa_cons (se_var (n := 5) (by rfl) (by kernel_rfl) (by kernel_rfl) (by kernel_rfl)) (sa_nil) (star_ok (by rfl))) (by kernel_rfl) (star_ok (by rfl)) (stars_ok (by rfl)))) (sss_nil)))
theorem s_law_right : SSs ⟨defScope (top 33), N_law_right, fns, gl, N_law_right⟩ b_law_right (defBody (top 33)) :=
  sss_cons (ss_asg (se_call (f := 11) (by rfl) (sa_cons (se_var (n := 1) (by rfl) (by kernel_rfl) (by kernel_rfl) (by kernel_rfl)) (sa_cons (se_var (n := 2) (by rfl) (by kernel_rfl) (by kernel_rfl) (by kernel_rfl)) (sa_nil) (star_ok (by rfl))) (star_ok (by rfl))) (by kernel_rfl) (by kernel_rfl) (star_ok (by rfl)) (stars_ok (by rfl))) (sg_tup (sgs_cons (sg_var (n := 6) (by rfl) (by kernel_rfl)) (sgs_cons (sg_var (n := 7) (by rfl) (by kernel_rfl)) (sgs_cons (sg_var (n := 8) (by rfl) (by kernel_rfl)) (sgs_cons (sg_var (n := 9) (by rfl) (by kernel_rfl)) (sgs_nil) (fun _ => rfl)) (fun _ => rfl)) (fun _ => rfl)) (fun _ => rfl)) (fun _ => rfl) (fun _ => rfl)) (fun _ _ => rfl) (fun _ _ => rfl) (fun _ => rfl)) (sss_cons (ss_if (st_bool (sw_or (st_cmp (se_call (f := 13) (by rfl) (sa_cons (se_var (n := 1) (by rfl) (by kernel_rfl) (by kernel_rfl) (by kernel_rfl)) (sa_cons (se_var (n := 2) (by rfl) (by kernel_rfl) (by kernel_rfl) (by kernel_rfl)) (sa_cons (se_tup (sa_cons (se_var (n := 6) (by rfl) (by kernel_rfl) (by kernel_rfl) (by kernel_rfl)) (sa_cons (se_var (n := 8) (by rfl) (by kernel_rfl) (by kernel_rfl) (by kernel_rfl)) (sa_cons (se_var (n := 9) (by rfl) (by kernel_rfl) (by kernel_rfl) (by kernel_rfl)) (sa_nil) (star_ok (by rfl))) (star_ok (by rfl))) (star_ok (by rfl))) (by decide)) (sa_nil) (star_ok (by rfl))) (star_ok (by rfl))) (star_ok (by rfl))) (by kernel_rfl) (by kernel_rfl) (star_ok (by rfl)) (stars_ok (by rfl))) (se_bl) (by rfl)) (sw_or1 (st_cmp (se_lst (sa_cons (se_sum (sa_cons (se_var (n := 8) (by rfl) (by kernel_rfl) (by kernel_rfl) (by kernel_rfl)) (sa_nil) (star_ok (by rfl))) (by kernel_rfl) (star_ok (by rfl)) (stars_ok (by rfl))) (sa_cons (se_sum (sa_cons (se_var (n := 9) (by rfl) (by kernel_rfl) (by kernel_rfl) (by kernel_rfl)) (sa_nil) (star_ok (by rfl))) (by kernel_rfl) (star_ok (by rfl)) (stars_ok (by rfl))) (sa_nil) (star_ok (by rfl))) (star_ok (by rfl))) (by decide)) (se_bin (se_lst (sa_cons (se_var (n := 7) (by rfl) (by kernel_rfl) (by kernel_rfl) (by kernel_rfl)) (sa_nil) (star_ok (by rfl))) (by decide)) (se_int)) (by rfl))))) (sss_cons (ss_ret (se_bl)) (sss_nil)) (sss_nil)) (sss_cons (ss_if (st_cmp (se_min (sa_cons (se_call (f := 7) (by rfl) (sa_cons (se_var (n := 1) (by rfl) (by kernel_rfl) (by kernel_rfl) (by kernel_rfl)) (sa_cons (se_var (n := 6) (by rfl) (by kernel_rfl) (by kernel_rfl) (by kernel_rfl)) (sa_nil) (star_ok (by rfl))) (star_ok (by rfl))) (by kernel_rfl) (by kernel_rfl) (star_ok (by rfl)) (stars_ok (by rfl))) (sa_cons (se_call (f := 8) (by rfl) (sa_cons (se_var (n := 2) (by rfl) (by kernel_rfl) (by kernel_rfl) (by kernel_rfl)) (sa_cons (se_var (n := 6) (by rfl) (by kernel_rfl) (by kernel_rfl) (by kernel_rfl)) (sa_nil) (star_ok (by rfl))) (star_ok (by rfl))) (by kernel_rfl) (by kernel_rfl) (star_ok (by rfl)) (stars_ok (by rfl))) (sa_nil) (star_ok (by rfl))) (star_ok (by rfl))) (by kernel_rfl) (star_ok (by rfl)) (stars_ok (by rfl))) (se_var (n := 7) (by rfl) (by kernel_rfl) (by kernel_rfl) (by kernel_rfl)) (by rfl)) (sss_cons (ss_ret (se_bl)) (sss_nil)) (sss_nil)) (sss_cons (ss_asg (se_call (f := 16) (by rfl) (sa_cons (se_var (n := 1) (by rfl) (by kernel_rfl) (by kernel_rfl) (by kernel_rfl)) (sa_cons (se_var (n := 2) (by rfl) (by kernel_rfl) (by kernel_rfl) (by kernel_rfl)) (sa_nil) (star_ok (by rfl))) (star_ok (by rfl))) (by kernel_rfl) (by kernel_rfl) (star_ok (by rfl)) (stars_ok (by rfl))) (sg_var (n := 3) (by rfl) (by kernel_rfl)) (fun _ _ => rfl) (fun _ _ => rfl) (fun _ => rfl)) (sss_cons (ss_if (st_bool (sw_or (st_cmp (se_call (f := 15) (by rfl) (sa_cons (se_var (n := 1) (by rfl) (by kernel_rfl) (by kernel_rfl) (by kernel_rfl)) (sa_cons (se_var (n := 2) (by rfl) (by kernel_rfl) (by kernel_rfl) (by kernel_rfl)) (sa_cons (se_var (n := 7) (by rfl) (by kernel_rfl) (by kernel_rfl) (by kernel_rfl)) (sa_cons (se_var (n := 3) (by rfl) (by kernel_rfl) (by kernel_rfl) (by kernel_rfl)) (sa_nil) (star_ok (by rfl))) (star_ok (by rfl))) (star_ok (by rfl))) (star_ok (by rfl))) (by kernel_rfl) (by kernel_rfl) (star_ok (by rfl)) (stars_ok (by rfl))) (se_bl) (by rfl)) (sw_or1 (st_bool (sw_and (st_cmp (se_var (n := 7) (by rfl) (by kernel_rfl) (by kernel_rfl) (by kernel_rfl)) (se_int) (by rfl)) (sw_and1 (st_cmp (se_call (f := 15) (by rfl) (sa_cons (se_var (n := 1) (by rfl) (by kernel_rfl) (by kernel_rfl) (by kernel_rfl)) (sa_cons (se_var (n := 2) (by rfl) (by kernel_rfl) (by kernel_rfl) (by kernel_rfl)) (sa_cons (se_bin (se_var (n := 7) (by rfl) (by kernel_rfl) (by kernel_rfl) (by kernel_rfl)) (se_int)) (sa_cons (se_var (n := 3) (by rfl) (by kernel_rfl) (by kernel_rfl) (by kernel_rfl)) (sa_nil) (star_ok (by rfl))) (star_ok (by rfl))) (star_ok (by rfl))) (star_ok (by rfl))) (by kernel_rfl) (by kernel_rfl) (star_ok (by rfl)) (stars_ok (by rfl))) (se_bl) (by rfl)))))))) (sss_cons (ss_ret (se_bl)) (sss_nil)) (sss_nil)) (sss_cons (ss_for (si_rng3 (sa_cons (se_int) (sa_cons (se_var (n := 6) (by rfl) (by kernel_rfl) (by kernel_rfl) (by kernel_rfl)) (sa_cons (se_bin (se_int) (se_bin (se_var (n := 6) (by rfl) (by kernel_rfl) (by kernel_rfl) (by kernel_rfl)) (se_int))) (sa_nil) (star_ok (by rfl))) (star_ok (by rfl))) (star_ok (by rfl))) (by kernel_rfl) (fun _ => rfl) (fun _ => rfl)) (sg_var (n := 4) (by rfl) (by kernel_rfl)) (sss_cons (ss_if (st_cmp (se_min (sa_cons (se_call (f := 7) (by rfl) (sa_cons (se_var (n := 1) (by rfl) (by kernel_rfl) (by kernel_rfl) (by kernel_rfl)) (sa_cons (se_var (n := 4) (by rfl) (by kernel_rfl) (by kernel_rfl) (by kernel_rfl)) (sa_nil) (star_ok (by rfl))) (star_ok (by rfl))) (by kernel_rfl) (by kernel_rfl) (star_ok (by rfl)) (stars_ok (by rfl))) (sa_cons (se_call (f := 8) (by rfl) (sa_cons (se_var (n := 2) (by rfl) (by kernel_rfl) (by kernel_rfl) (by kernel_rfl)) (sa_cons (se_var (n := 4) (by rfl) (by kernel_rfl) (by kernel_rfl) (by kernel_rfl)) (sa_nil) (star_ok (by rfl))) (star_ok (by rfl))) (by kernel_rfl) (by kernel_rfl) (star_ok (by rfl)) (stars_ok (by rfl))) (sa_nil) (star_ok (by rfl))) (star_ok (by rfl))) (by kernel_rfl) (star_ok (by rfl)) (stars_ok (by rfl))) (se_var (n := 7) (by rfl) (by kernel_rfl) (by kernel_rfl) (by kernel_rfl)) (by rfl)) (sss_cons (ss_ret (se_bl)) (sss_nil)) (sss_nil)) (sss_nil)) (fun _ _ => rfl)) (sss_cons (ss_for (si_rng1 (sa_cons (se_int) (sa_nil) (star_ok (by rfl))) (by kernel_rfl) (fun _ => rfl)) (sg_var (n := 5) (by rfl) (by kernel_rfl)) (sss_cons (ss_asg (se_idx (se_lst (sa_cons (se_var (n := 6) (by rfl) (by kernel_rfl) (by kernel_rfl) (by kernel_rfl)) (sa_cons (se_call (f := 19) (by rfl) (sa_cons (se_var (n := 0) (by rfl) (by kernel_rfl) (by kernel_rfl) (by kernel_rfl)) (sa_cons (se_int) (sa_nil) (star_ok (by rfl))) (star_ok (by rfl))) (by kernel_rfl) (by kernel_rfl) (star_ok (by rfl)) (stars_ok (by rfl))) (sa_nil) (star_ok (by rfl))) (star_ok (by rfl))) (by decide)) (se_call (f := 19) (by rfl) (sa_cons (se_var (n := 0) (by rfl) (by kernel_rfl) (by kernel_rfl) (by kernel_rfl)) (sa_cons (se_int) (sa_nil) (star_ok (by rfl))) (star_ok (by rfl))) (by kernel_rfl) (by kernel_rfl) (star_ok (by rfl)) (stars_ok (by rfl))) (fun _ _ => rfl)) (sg_var (n := 4) (by rfl) (by kernel_rfl)) (fun _ _ => rfl) (fun _ _ => rfl) (fun _ => rfl)) (sss_cons (ss_asg (se_call (f := 21) (by rfl) (sa_cons (se_var (n := 0) (by rfl) (by kernel_rfl) (by kernel_rfl) (by kernel_rfl)) (sa_cons (se_var (n := 1) (by rfl) (by kernel_rfl) (by kernel_rfl) (by kernel_rfl)) (sa_cons (se_var (n := 4) (by rfl) (by kernel_rfl) (by kernel_rfl) (by kernel_rfl)) (sa_cons (se_int) (sa_cons (se_int) (sa_nil) (star_ok (by rfl))) (star_ok (by rfl))) (star_ok (by rfl))) (star_ok (by rfl))) (star_ok (by rfl))) (by kernel_rfl) (by kernel_rfl) (star_ok (by rfl)) (stars_ok (by rfl))) (sg_var (n := 10) (by rfl) (by kernel_rfl)) (fun _ _ => rfl) (fun _ _ => rfl) (fun _ => rfl)) (sss_cons (ss_asg (se_call (f := 21) (by rfl) (sa_cons (se_var (n := 0) (by rfl) (by kernel_rfl) (by kernel_rfl) (by kernel_rfl)) (sa_cons (se_var (n := 2) (by rfl) (by kernel_rfl) (by kernel_rfl) (by kernel_rfl)) (sa_cons (se_var (n := 4) (by rfl) (by kernel_rfl) (by kernel_rfl) (by kernel_rfl)) (sa_cons (se_neg) (sa_cons (se_sum (sa_cons (se_var (n := 10) (by rfl) (by kernel_rfl) (by kernel_rfl) (by kernel_rfl)) (sa_nil) (star_ok (by rfl))) (by kernel_rfl) (star_ok (by rfl)) (stars_ok (by rfl))) (sa_nil) (star_ok (by rfl))) (star_ok (by rfl))) (star_ok (by rfl))) (star_ok (by rfl))) (star_ok (by rfl))) (by kernel_rfl) (by kernel_rfl) (star_ok (by rfl)) (stars_ok (by rfl))) (sg_var (n := 11) (by rfl) (by kernel_rfl)) (fun _ _ => rfl) (fun _ _ => rfl) (fun _ => rfl)) (sss_cons (ss_if (st_bool (sw_or (st_cmp (se_call (f := 13) (by rfl) (sa_cons (se_var (n := 1) (by rfl) (by kernel_rfl) (by kernel_rfl) (by kernel_rfl)) (sa_cons (se_var (n := 2) (by rfl) (by kernel_rfl) (by kernel_rfl) (by kernel_rfl)) (sa_cons (se_tup (sa_cons (se_var (n := 4) (by rfl) (by kernel_rfl) (by kernel_rfl) (by kernel_rfl)) (sa_cons (se_var (n := 10) (by rfl) (by kernel_rfl) (by kernel_rfl) (by kernel_rfl)) (sa_cons (se_var (n := 11) (by rfl) (by kernel_rfl) (by kernel_rfl) (by kernel_rfl)) (sa_nil) (star_ok (by rfl))) (star_ok (by rfl))) (star_ok (by rfl))) (by decide)) (sa_nil) (star_ok (by rfl))) (star_ok (by rfl))) (star_ok (by rfl))) (by kernel_rfl) (by kernel_rfl) (star_ok (by rfl)) (stars_ok (by rfl))) (se_cmp (se_sum (sa_cons (se_var (n := 10) (by rfl) (by kernel_rfl) (by kernel_rfl) (by kernel_rfl)) (sa_nil) (star_ok (by rfl))) (by kernel_rfl) (star_ok (by rfl)) (stars_ok (by rfl))) (se_sum (sa_cons (se_var (n := 11) (by rfl) (by kernel_rfl) (by kernel_rfl) (by kernel_rfl)) (sa_nil) (star_ok (by rfl))) (by kernel_rfl) (star_ok (by rfl)) (stars_ok (by rfl))) (by rfl)) (by rfl)) (sw_or1 (st_cmp (se_sum (sa_cons (se_var (n := 11) (by rfl) (by kernel_rfl) (by kernel_rfl) (by kernel_rfl)) (sa_nil) (star_ok (by rfl))) (by kernel_rfl) (star_ok (by rfl)) (stars_ok (by rfl))) (se_var (n := 7) (by rfl) (by kernel_rfl) (by kernel_rfl) (by kernel_rfl)) (by rfl))))) (sss_cons (ss_ret (se_bl)) (sss_nil)) (sss_nil)) (sss_nil))))) (fun _ _ => rfl)) (sss_cons (ss_ret (se_cmp (se_sli (se_call (f := 11) (by rfl) (sa_cons (se_rev (se_var (n := 1) (by rfl) (by kernel_rfl) (by kernel_rfl) (by kernel_rfl))) (sa_cons (se_rev (se_var (n := 2) (by rfl) (by kernel_rfl) (by kernel_rfl) (by kernel_rfl))) (sa_nil) (star_ok (by rfl))) (star_ok (by rfl))) (by kernel_rfl) (by kernel_rfl) (star_ok (by rfl)) (stars_ok (by rfl))) (so_none) (so_some (se_int))) (se_tup (sa_cons (se_var (n := 6) (by rfl) (by kernel_rfl) (by kernel_rfl) (by kernel_rfl)) (sa_cons (se_var (n := 7) (by rfl) (by kernel_rfl) (by kernel_rfl) (by kernel_rfl)) (sa_nil) (star_ok (by rfl))) (star_ok (by rfl))) (by decide)) (by rfl))) (sss_nil))))))))
theorem s_law : SSs ⟨defScope (top 34), N_law, fns, gl, N_law⟩ b_law (defBody (top 34)) :=
  sss_cons (ss_for (si_val (se_bin (se_lst (sa_cons (se_call (f := 17) (by rfl) (sa_cons (se_var (n := 0) (by rfl) (by kernel_rfl) (by kernel_rfl) (by kernel_rfl)) (sa_cons (se_int) (sa_nil) (star_ok (by rfl))) (star_ok (by rfl))) (by kernel_rfl) (by kernel_rfl) (star_ok (by rfl)) (stars_ok (by rfl))) (sa_nil) (star_ok (by rfl))) (by decide)) (se_sli (se_var (n := 0) (by rfl) (by kernel_rfl) (by kernel_rfl) (by kernel_rfl)) (so_some (se_int)) (so_some (se_int))))) (sg_var (n := 1) (by rfl) (by kernel_rfl)) (sss_cons (ss_asg (se_call (f := 18) (by rfl) (sa_cons (se_var (n := 1) (by rfl) (by kernel_rfl) (by kernel_rfl) (by kernel_rfl)) (sa_nil) (star_ok (by rfl))) (by kernel_rfl) (by kernel_rfl) (star_ok (by rfl)) (stars_ok (by rfl))) (sg_var (n := 2) (by rfl) (by kernel_rfl)) (fun _ _ => rfl) (fun _ _ => rfl) (fun _ => rfl)) (sss_cons (ss_for (si_rng1 (sa_cons (se_int) (sa_nil) (star_ok (by rfl))) (by kernel_rfl) (fun _ => rfl)) (sg_var (n := 3) (by rfl) (by kernel_rfl)) (sss_cons (ss_asg (se_call (f := 20) (by rfl) (sa_cons (se_var (n := 2) (by rfl) (by kernel_rfl) (by kernel_rfl) (by kernel_rfl)) (sa_cons (se_tup (sa_nil) (by decide)) (sa_nil) (star_ok (by rfl))) (star_ok (by rfl))) (by kernel_rfl) (by kernel_rfl) (star_ok (by rfl)) (stars_ok (by rfl))) (sg_var (n := 4) (by rfl) (by kernel_rfl)) (fun _ _ => rfl) (fun _ _ => rfl) (fun _ => rfl)) (sss_cons (ss_if (st_not (st_val (se_call (f := 22) (by rfl) (sa_cons (se_var (n := 2) (by rfl) (by kernel_rfl) (by kernel_rfl) (by kernel_rfl)) (sa_cons (se_var (n := 4) (by rfl) (by kernel_rfl) (by kernel_rfl) (by kernel_rfl)) (sa_cons (se_call (f := 20) (by rfl) (sa_cons (se_var (n := 2) (by rfl) (by kernel_rfl) (by kernel_rfl) (by kernel_rfl)) (sa_cons (se_var (n := 4) (by rfl) (by kernel_rfl) (by kernel_rfl) (by kernel_rfl)) (sa_nil) (star_ok (by rfl))) (star_ok (by rfl))) (by kernel_rfl) (by kernel_rfl) (star_ok (by rfl)) (stars_ok (by rfl))) (sa_nil) (star_ok (by rfl))) (star_ok (by rfl))) (star_ok (by rfl))) (by kernel_rfl) (by kernel_rfl) (star_ok (by rfl)) (stars_ok (by rfl))) (fun _ _ => rfl))) (sss_cons (ss_ret (se_bl)) (sss_nil)) (sss_nil)) (sss_nil))) (fun _ _ => rfl)) (sss_nil))) (fun _ _ => rfl)) (sss_cons (ss_ret (se_bl)) (sss_nil))
end Zl
namespace Zl
open PySem PySem.Spec PyProof.Rows L2 Zm
def hfn0 : List He.DefD := [⟨((Str.ofString "is_within"), none), (Str.ofString "is_within"), (Str.ofString "is_within"), defArgs (top 8), defBody (top 8), defScope (top 8), [], []⟩, ⟨((Str.ofString "is_offer"), none), (Str.ofString "is_offer"), (Str.ofString "is_offer"), defArgs (top 11), defBody (top 11), defScope (top 11), [], []⟩, ⟨((Str.ofString "are_offers"), none), (Str.ofString "are_offers"), (Str.ofString "are_offers"), defArgs (top 12), defBody (top 12), defScope (top 12), [], []⟩, ⟨((Str.ofString "need_offers"), none), (Str.ofString "need_offers"), (Str.ofString "need_offers"), defArgs (top 13), defBody (top 13), defScope (top 13), [], []⟩, ⟨((Str.ofString "need_price"), none), (Str.ofString "need_price"), (Str.ofString "need_price"), defArgs (top 14), defBody (top 14), defScope (top 14), [], []⟩, ⟨((Str.ofString "supply_at"), none), (Str.ofString "supply_at"), (Str.ofString "supply_at"), defArgs (top 15), defBody (top 15), defScope (top 15), [], []⟩, ⟨((Str.ofString "demand_at"), none), (Str.ofString "demand_at"), (Str.ofString "demand_at"), defArgs (top 16), defBody (top 16), defScope (top 16), [], []⟩, ⟨((Str.ofString "supply"), none), (Str.ofString "supply"), (Str.ofString "supply"), defArgs (top 17), defBody (top 17), defScope (top 17), [], []⟩, ⟨((Str.ofString "demand"), none), (Str.ofString "demand"), (Str.ofString "demand"), defArgs (top 18), defBody (top 18), defScope (top 18), [], []⟩, ⟨((Str.ofString "best_price"), none), (Str.ofString "best_price"), (Str.ofString "best_price"), defArgs (top 19), defBody (top 19), defScope (top 19), [], []⟩, ⟨((Str.ofString "filled"), none), (Str.ofString "filled"), (Str.ofString "filled"), defArgs (top 20), defBody (top 20), defScope (top 20), [], []⟩, ⟨((Str.ofString "settled"), none), (Str.ofString "settled"), (Str.ofString "settled"), defArgs (top 21), defBody (top 21), defScope (top 21), [], []⟩, ⟨((Str.ofString "are_moved"), none), (Str.ofString "are_moved"), (Str.ofString "are_moved"), defArgs (top 22), defBody (top 22), defScope (top 22), [], []⟩, ⟨((Str.ofString "clears"), none), (Str.ofString "clears"), (Str.ofString "clears"), defArgs (top 23), defBody (top 23), defScope (top 23), [], []⟩, ⟨((Str.ofString "is_bar"), none), (Str.ofString "is_bar"), (Str.ofString "is_bar"), defArgs (top 24), defBody (top 24), defScope (top 24), [], []⟩, ⟨((Str.ofString "bar_holds"), none), (Str.ofString "bar_holds"), (Str.ofString "bar_holds"), defArgs (top 25), defBody (top 25), defScope (top 25), [], []⟩, ⟨((Str.ofString "bar_of"), none), (Str.ofString "bar_of"), (Str.ofString "bar_of"), defArgs (top 26), defBody (top 26), defScope (top 26), [], []⟩, ⟨((Str.ofString "_law_cell"), none), (Str.ofString "_law_cell"), (Str.ofString "_law_cell"), defArgs (top 28), defBody (top 28), defScope (top 28), [], []⟩, ⟨((Str.ofString "_law_pen"), none), (Str.ofString "_law_pen"), (Str.ofString "_law_pen"), defArgs (top 29), defBody (top 29), defScope (top 29), [], []⟩, ⟨((Str.ofString "_law_draw"), none), (Str.ofString "_law_draw"), (Str.ofString "_law_draw"), defArgs (top 30), defBody (top 30), defScope (top 30), [], []⟩, ⟨((Str.ofString "_law_offers"), none), (Str.ofString "_law_offers"), (Str.ofString "_law_offers"), defArgs (top 31), defBody (top 31), defScope (top 31), [], []⟩, ⟨((Str.ofString "_law_drawn"), none), (Str.ofString "_law_drawn"), (Str.ofString "_law_drawn"), defArgs (top 32), defBody (top 32), defScope (top 32), [], []⟩, ⟨((Str.ofString "_law_right"), none), (Str.ofString "_law_right"), (Str.ofString "_law_right"), defArgs (top 33), defBody (top 33), defScope (top 33), [], []⟩, ⟨((Str.ofString "law"), none), (Str.ofString "law"), (Str.ofString "law"), defArgs (top 34), defBody (top 34), defScope (top 34), [], []⟩]
def hfn : List He.DefD := hfn0
def hnames0 : List Str := [(Str.ofString "__name__"), (Str.ofString "ShowError"), (Str.ofString "NoOffers"), (Str.ofString "NoPrice"), (Str.ofString "NoWeight"), (Str.ofString "MOST_WEIGHT"), (Str.ofString "MOST_PRICE"), (Str.ofString "is_within"), (Str.ofString "MOST_OFFERS"), (Str.ofString "is_offer"), (Str.ofString "are_offers"), (Str.ofString "need_offers"), (Str.ofString "need_price"), (Str.ofString "supply_at"), (Str.ofString "demand_at"), (Str.ofString "supply"), (Str.ofString "demand"), (Str.ofString "best_price"), (Str.ofString "filled"), (Str.ofString "settled"), (Str.ofString "are_moved"), (Str.ofString "clears"), (Str.ofString "is_bar"), (Str.ofString "bar_holds"), (Str.ofString "bar_of"), (Str.ofString "_law_cell"), (Str.ofString "_law_pen"), (Str.ofString "_law_draw"), (Str.ofString "_law_offers"), (Str.ofString "_law_drawn"), (Str.ofString "_law_right")]
def hnames : List Str := hnames0
abbrev hR : PySem.W.OpenRow := PySem.W.OpenLaw.row PySem.Challenge.rw_showbells_k55_whole_nothing_clears_more
abbrev hfa : List He.Fa := faOf fns gl
abbrev hHk : PySem.W.Hook := He.hookD 4 hfa hfn
def hOb (s : PySem.W.SharedT) : He.AlD := He.obsDG 4 hfa hfn (HandSHeadRun.getT s)
theorem hOb_eq (s : PySem.W.SharedT) : hOb s = hHk.obs s.abs := He.obsDG_eq (HandSHeadRun.getT_eq s)
theorem hRun (w : World) : HandSHeadRun.RunEq hR (PySem.W.view hR.prog [34]) hHk hOb 8000 hnames w := by
  intro os
  kernel_rfl
section
variable {P : Program} {w : World} {K : PySem.W.Frag} {mg : Str → Option Value} {base : Heap}
theorem d_is_within (M : Md mg K fns gl (adr K fns)) (c : He.SaysD hfa hfn K) : Dd P w K mg base fns gl (adr K fns) (adr K fns 0) f_is_within := by
  obtain ⟨fd, q⟩ := c.def_ 0 (by rfl)
  exact dd_of (own := N_is_within) (ps := [(Str.ofString "thing"), (Str.ofString "least"), (Str.ofString "most")]) M q (fun _ _ _ _ _ _ us hl => match us, hl with
    | [_, _, _], _ => rfl) (by kernel_rfl) rfl rfl s_is_within
theorem d_is_offer (M : Md mg K fns gl (adr K fns)) (c : He.SaysD hfa hfn K) : Dd P w K mg base fns gl (adr K fns) (adr K fns 1) f_is_offer := by
  obtain ⟨fd, q⟩ := c.def_ 1 (by rfl)
  exact dd_of (own := N_is_offer) (ps := [(Str.ofString "thing")]) M q (fun _ _ _ _ _ _ us hl => match us, hl with
    | [_], _ => rfl) (by kernel_rfl) rfl rfl s_is_offer
theorem d_are_offers (M : Md mg K fns gl (adr K fns)) (c : He.SaysD hfa hfn K) : Dd P w K mg base fns gl (adr K fns) (adr K fns 2) f_are_offers := by
  obtain ⟨fd, q⟩ := c.def_ 2 (by rfl)
  exact dd_of (own := N_are_offers) (ps := [(Str.ofString "thing")]) M q (fun _ _ _ _ _ _ us hl => match us, hl with
    | [_], _ => rfl) (by kernel_rfl) rfl rfl s_are_offers
theorem d_need_offers (M : Md mg K fns gl (adr K fns)) (c : He.SaysD hfa hfn K) : Dd P w K mg base fns gl (adr K fns) (adr K fns 3) f_need_offers := by
  obtain ⟨fd, q⟩ := c.def_ 3 (by rfl)
  exact dd_of (own := N_need_offers) (ps := [(Str.ofString "thing")]) M q (fun _ _ _ _ _ _ us hl => match us, hl with
    | [_], _ => rfl) (by kernel_rfl) rfl rfl s_need_offers
theorem d_need_price (M : Md mg K fns gl (adr K fns)) (c : He.SaysD hfa hfn K) : Dd P w K mg base fns gl (adr K fns) (adr K fns 4) f_need_price := by
  obtain ⟨fd, q⟩ := c.def_ 4 (by rfl)
  exact dd_of (own := N_need_price) (ps := [(Str.ofString "thing")]) M q (fun _ _ _ _ _ _ us hl => match us, hl with
    | [_], _ => rfl) (by kernel_rfl) rfl rfl s_need_price
theorem d_supply_at (M : Md mg K fns gl (adr K fns)) (c : He.SaysD hfa hfn K) : Dd P w K mg base fns gl (adr K fns) (adr K fns 5) f_supply_at := by
  obtain ⟨fd, q⟩ := c.def_ 5 (by rfl)
  exact dd_of (own := N_supply_at) (ps := [(Str.ofString "asks"), (Str.ofString "price")]) M q (fun _ _ _ _ _ _ us hl => match us, hl with
    | [_, _], _ => rfl) (by kernel_rfl) rfl rfl s_supply_at
theorem d_demand_at (M : Md mg K fns gl (adr K fns)) (c : He.SaysD hfa hfn K) : Dd P w K mg base fns gl (adr K fns) (adr K fns 6) f_demand_at := by
  obtain ⟨fd, q⟩ := c.def_ 6 (by rfl)
  exact dd_of (own := N_demand_at) (ps := [(Str.ofString "bids"), (Str.ofString "price")]) M q (fun _ _ _ _ _ _ us hl => match us, hl with
    | [_, _], _ => rfl) (by kernel_rfl) rfl rfl s_demand_at
theorem d_supply (M : Md mg K fns gl (adr K fns)) (c : He.SaysD hfa hfn K) : Dd P w K mg base fns gl (adr K fns) (adr K fns 7) f_supply := by
  obtain ⟨fd, q⟩ := c.def_ 7 (by rfl)
  exact dd_of (own := N_supply) (ps := [(Str.ofString "asks"), (Str.ofString "price")]) M q (fun _ _ _ _ _ _ us hl => match us, hl with
    | [_, _], _ => rfl) (by kernel_rfl) rfl rfl s_supply
theorem d_demand (M : Md mg K fns gl (adr K fns)) (c : He.SaysD hfa hfn K) : Dd P w K mg base fns gl (adr K fns) (adr K fns 8) f_demand := by
  obtain ⟨fd, q⟩ := c.def_ 8 (by rfl)
  exact dd_of (own := N_demand) (ps := [(Str.ofString "bids"), (Str.ofString "price")]) M q (fun _ _ _ _ _ _ us hl => match us, hl with
    | [_, _], _ => rfl) (by kernel_rfl) rfl rfl s_demand
theorem d_best_price (M : Md mg K fns gl (adr K fns)) (c : He.SaysD hfa hfn K) : Dd P w K mg base fns gl (adr K fns) (adr K fns 9) f_best_price := by
  obtain ⟨fd, q⟩ := c.def_ 9 (by rfl)
  exact dd_of (own := N_best_price) (ps := [(Str.ofString "asks"), (Str.ofString "bids")]) M q (fun _ _ _ _ _ _ us hl => match us, hl with
    | [_, _], _ => rfl) (by kernel_rfl) rfl rfl s_best_price
theorem d_filled (M : Md mg K fns gl (adr K fns)) (c : He.SaysD hfa hfn K) : Dd P w K mg base fns gl (adr K fns) (adr K fns 10) f_filled := by
  obtain ⟨fd, q⟩ := c.def_ 10 (by rfl)
  exact dd_of (own := N_filled) (ps := [(Str.ofString "some"), (Str.ofString "order"), (Str.ofString "weight")]) M q (fun _ _ _ _ _ _ us hl => match us, hl with
    | [_, _, _], _ => rfl) (by kernel_rfl) rfl rfl s_filled
theorem d_settled (M : Md mg K fns gl (adr K fns)) (c : He.SaysD hfa hfn K) : Dd P w K mg base fns gl (adr K fns) (adr K fns 11) f_settled := by
  obtain ⟨fd, q⟩ := c.def_ 11 (by rfl)
  exact dd_of (own := N_settled) (ps := [(Str.ofString "asks"), (Str.ofString "bids")]) M q (fun _ _ _ _ _ _ us hl => match us, hl with
    | [_, _], _ => rfl) (by kernel_rfl) rfl rfl s_settled
theorem d_are_moved (M : Md mg K fns gl (adr K fns)) (c : He.SaysD hfa hfn K) : Dd P w K mg base fns gl (adr K fns) (adr K fns 12) f_are_moved := by
  obtain ⟨fd, q⟩ := c.def_ 12 (by rfl)
  exact dd_of (own := N_are_moved) (ps := [(Str.ofString "some"), (Str.ofString "thing")]) M q (fun _ _ _ _ _ _ us hl => match us, hl with
    | [_, _], _ => rfl) (by kernel_rfl) rfl rfl s_are_moved
theorem d_clears (M : Md mg K fns gl (adr K fns)) (c : He.SaysD hfa hfn K) : Dd P w K mg base fns gl (adr K fns) (adr K fns 13) f_clears := by
  obtain ⟨fd, q⟩ := c.def_ 13 (by rfl)
  exact dd_of (own := N_clears) (ps := [(Str.ofString "asks"), (Str.ofString "bids"), (Str.ofString "thing")]) M q (fun _ _ _ _ _ _ us hl => match us, hl with
    | [_, _, _], _ => rfl) (by kernel_rfl) rfl rfl s_clears
theorem d_is_bar (M : Md mg K fns gl (adr K fns)) (c : He.SaysD hfa hfn K) : Dd P w K mg base fns gl (adr K fns) (adr K fns 14) f_is_bar := by
  obtain ⟨fd, q⟩ := c.def_ 14 (by rfl)
  exact dd_of (own := N_is_bar) (ps := [(Str.ofString "asks"), (Str.ofString "bids"), (Str.ofString "weight"), (Str.ofString "q")]) M q (fun _ _ _ _ _ _ us hl => match us, hl with
    | [_, _, _, _], _ => rfl) (by kernel_rfl) rfl rfl s_is_bar
theorem d_bar_holds (M : Md mg K fns gl (adr K fns)) (c : He.SaysD hfa hfn K) : Dd P w K mg base fns gl (adr K fns) (adr K fns 15) f_bar_holds := by
  obtain ⟨fd, q⟩ := c.def_ 15 (by rfl)
  exact dd_of (own := N_bar_holds) (ps := [(Str.ofString "asks"), (Str.ofString "bids"), (Str.ofString "weight"), (Str.ofString "thing")]) M q (fun _ _ _ _ _ _ us hl => match us, hl with
    | [_, _, _, _], _ => rfl) (by kernel_rfl) rfl rfl s_bar_holds
theorem d_bar_of (M : Md mg K fns gl (adr K fns)) (c : He.SaysD hfa hfn K) : Dd P w K mg base fns gl (adr K fns) (adr K fns 16) f_bar_of := by
  obtain ⟨fd, q⟩ := c.def_ 16 (by rfl)
  exact dd_of (own := N_bar_of) (ps := [(Str.ofString "asks"), (Str.ofString "bids")]) M q (fun _ _ _ _ _ _ us hl => match us, hl with
    | [_, _], _ => rfl) (by kernel_rfl) rfl rfl s_bar_of
theorem d_law_cell (M : Md mg K fns gl (adr K fns)) (c : He.SaysD hfa hfn K) : Dd P w K mg base fns gl (adr K fns) (adr K fns 17) f_law_cell := by
  obtain ⟨fd, q⟩ := c.def_ 17 (by rfl)
  exact dd_of (own := N_law_cell) (ps := [(Str.ofString "_law_script"), (Str.ofString "_law_k")]) M q (fun _ _ _ _ _ _ us hl => match us, hl with
    | [_, _], _ => rfl) (by kernel_rfl) rfl rfl s_law_cell
theorem d_law_pen (M : Md mg K fns gl (adr K fns)) (c : He.SaysD hfa hfn K) : Dd P w K mg base fns gl (adr K fns) (adr K fns 18) f_law_pen := by
  obtain ⟨fd, q⟩ := c.def_ 18 (by rfl)
  exact dd_of (own := N_law_pen) (ps := [(Str.ofString "_law_cell_here")]) M q (fun _ _ _ _ _ _ us hl => match us, hl with
    | [_], _ => rfl) (by kernel_rfl) rfl rfl s_law_pen
theorem d_law_draw (M : Md mg K fns gl (adr K fns)) (c : He.SaysD hfa hfn K) : Dd P w K mg base fns gl (adr K fns) (adr K fns 19) f_law_draw := by
  obtain ⟨fd, q⟩ := c.def_ 19 (by rfl)
  exact dd_of (own := N_law_draw) (ps := [(Str.ofString "_law_pen_here"), (Str.ofString "_law_many")]) M q (fun _ _ _ _ _ _ us hl => match us, hl with
    | [_, _], _ => rfl) (by kernel_rfl) rfl rfl s_law_draw
theorem d_law_offers (M : Md mg K fns gl (adr K fns)) (c : He.SaysD hfa hfn K) : Dd P w K mg base fns gl (adr K fns) (adr K fns 20) f_law_offers := by
  obtain ⟨fd, q⟩ := c.def_ 20 (by rfl)
  exact dd_of (own := N_law_offers) (ps := [(Str.ofString "_law_pen_here"), (Str.ofString "_law_near")]) M q (fun _ _ _ _ _ _ us hl => match us, hl with
    | [_, _], _ => rfl) (by kernel_rfl) rfl rfl s_law_offers
theorem d_law_drawn (M : Md mg K fns gl (adr K fns)) (c : He.SaysD hfa hfn K) : Dd P w K mg base fns gl (adr K fns) (adr K fns 21) f_law_drawn := by
  obtain ⟨fd, q⟩ := c.def_ 21 (by rfl)
  exact dd_of (own := N_law_drawn) (ps := [(Str.ofString "_law_pen_here"), (Str.ofString "_law_some"), (Str.ofString "_law_price"), (Str.ofString "_law_sign"), (Str.ofString "_law_weight")]) M q (fun _ _ _ _ _ _ us hl => match us, hl with
    | [_, _, _, _, _], _ => rfl) (by kernel_rfl) rfl rfl s_law_drawn
theorem d_law_right (M : Md mg K fns gl (adr K fns)) (c : He.SaysD hfa hfn K) : Dd P w K mg base fns gl (adr K fns) (adr K fns 22) f_law_right := by
  obtain ⟨fd, q⟩ := c.def_ 22 (by rfl)
  exact dd_of (own := N_law_right) (ps := [(Str.ofString "_law_pen_here"), (Str.ofString "_law_asks"), (Str.ofString "_law_bids")]) M q (fun _ _ _ _ _ _ us hl => match us, hl with
    | [_, _, _], _ => rfl) (by kernel_rfl) rfl rfl s_law_right
theorem d_law (M : Md mg K fns gl (adr K fns)) (c : He.SaysD hfa hfn K) : Dd P w K mg base fns gl (adr K fns) (adr K fns 23) f_law := by
  obtain ⟨fd, q⟩ := c.def_ 23 (by rfl)
  exact dd_of (own := N_law) (ps := [(Str.ofString "_law_script")]) M q (fun _ _ _ _ _ _ us hl => match us, hl with
    | [_], _ => rfl) (by kernel_rfl) rfl rfl s_law
theorem ds_ (M : Md mg K fns gl (adr K fns)) (c : He.SaysD hfa hfn K) : DdL P w K mg base fns gl (adr K fns) 0 F :=
  ⟨d_is_within M c, d_is_offer M c, d_are_offers M c, d_need_offers M c, d_need_price M c, d_supply_at M c, d_demand_at M c, d_supply M c, d_demand M c, d_best_price M c, d_filled M c, d_settled M c, d_are_moved M c, d_clears M c, d_is_bar M c, d_bar_holds M c, d_bar_of M c, d_law_cell M c, d_law_pen M c, d_law_draw M c, d_law_offers M c, d_law_drawn M c, d_law_right M c, d_law M c, trivial⟩
end
noncomputable abbrev hPhi : List D → AH → R D := callN F 12 23
end Zl
namespace Zl
def mn (a b : Int) : Int := if b < a then b else a
def sup (os : List (Int × Int)) (p : Int) : Int := ((os.filter fun o => decide (o.2 ≤ p)).map (·.1)).sum
def dem (os : List (Int × Int)) (p : Int) : Int := ((os.filter fun o => decide (p ≤ o.2)).map (·.1)).sum
def lesser (asks bids : List (Int × Int)) (p : Int) : Int := mn (sup asks p) (dem bids p)
/-- the first strict maximum of g along a row -/
def gstep (g : Int → Int) (b : Int × Int) (p : Int) : Int × Int := if b.1 < g p then (g p, p) else b
/-- what the fold tells, if a least value has been met -/
theorem fold_max (g : Int → Int) : ∀ (l : List Int) (b : Int × Int), g b.2 = b.1 → (∀ q ∈ l, b.2 < q) → l.Pairwise (· < ·) →
    ∃ w p, l.foldl (gstep g) b = (w, p) ∧ (p = b.2 ∨ p ∈ l) ∧ g p = w ∧ b.1 ≤ w ∧ (∀ q ∈ l, g q ≤ w) ∧ (∀ q ∈ l, q < p → g q < w) ∧ (b.2 < p → b.1 < w)
  | [], b, hb, _, _ => by
    refine ⟨b.1, b.2, rfl, .inl rfl, hb, Int.le_refl _, ?_, ?_, fun h => absurd h (Int.lt_irrefl _)⟩ <;> simp
  | x :: r, b, hb, hl, hp => by
    rw [List.foldl_cons]
    have hp2 := List.pairwise_cons.mp hp
    have hx := hl x List.mem_cons_self
    by_cases c : b.1 < g x
    · have e : gstep g b x = (g x, x) := by simp [gstep, c]
      rw [e]
      obtain ⟨w, p, h1, h2, h3, h4, h5, h6, h7⟩ := fold_max g r (g x, x) rfl hp2.1 hp2.2
      refine ⟨w, p, h1, .inr ?_, h3, by have := h4; simp only at this; omega, ?_, ?_, fun _ => by have := h4; simp only at this; omega⟩
      · rcases h2 with e | e
        · rw [e]; exact List.mem_cons_self
        · exact List.mem_cons_of_mem _ e
      · intro q hq
        rcases List.mem_cons.mp hq with e | e
        · rw [e]; exact h4
        · exact h5 q e
      · intro q hq hlt
        rcases List.mem_cons.mp hq with e | e
        · rw [e]; exact h7 (by rw [← e]; exact hlt)
        · exact h6 q e hlt
    · have e : gstep g b x = b := by simp [gstep, c]
      rw [e]
      obtain ⟨w, p, h1, h2, h3, h4, h5, h6, h7⟩ := fold_max g r b hb (fun q hq => hl q (List.mem_cons_of_mem _ hq)) hp2.2
      refine ⟨w, p, h1, h2.imp id (List.mem_cons_of_mem _), h3, h4, ?_, ?_, h7⟩
      · intro q hq
        rcases List.mem_cons.mp hq with e | e
        · rw [e]; omega
        · exact h5 q e
      · intro q hq hlt
        rcases List.mem_cons.mp hq with e | e
        · rw [e] at hlt ⊢
          have := h7 (by omega)
          omega
        · exact h6 q e hlt
/-- two rows of places of which the lesser one has what the other one has -/
theorem fold_same (g : Int → Int) (l c : List Int) (h0 : ∀ p, -1 < g p) (hl : (0 :: l).Pairwise (· < ·)) (hc : (0 :: c).Pairwise (· < ·)) (sub : ∀ q ∈ c, q ∈ l) (hit : ∀ p ∈ (0 :: l), ∃ q ∈ (0 :: c), q ≤ p ∧ g q = g p) :
    (0 :: l).foldl (gstep g) (-1, 0) = (0 :: c).foldl (gstep g) (-1, 0) := by
  have e0 : gstep g (-1, 0) 0 = (g 0, 0) := by simp [gstep, h0 0]
  rw [List.foldl_cons, List.foldl_cons, e0]
  have hl2 := List.pairwise_cons.mp hl
  have hc2 := List.pairwise_cons.mp hc
  obtain ⟨w, p, h1, h2, h3, h4, h5, h6, h7⟩ := fold_max g l (g 0, 0) rfl hl2.1 hl2.2
  obtain ⟨w', p', k1, k2, k3, k4, k5, k6, k7⟩ := fold_max g c (g 0, 0) rfl hc2.1 hc2.2
  rw [h1, k1]
  simp only at *
  have a5 : ∀ q ∈ (0 :: l), g q ≤ w := fun q hq => by
    rcases List.mem_cons.mp hq with e | e
    · rw [e]; exact h4
    · exact h5 q e
  have a6 : ∀ q ∈ (0 :: l), q < p → g q < w := fun q hq hlt => by
    rcases List.mem_cons.mp hq with e | e
    · rw [e] at hlt ⊢; exact h7 hlt
    · exact h6 q e hlt
  have b5 : ∀ q ∈ (0 :: c), g q ≤ w' := fun q hq => by
    rcases List.mem_cons.mp hq with e | e
    · rw [e]; exact k4
    · exact k5 q e
  have b6 : ∀ q ∈ (0 :: c), q < p' → g q < w' := fun q hq hlt => by
    rcases List.mem_cons.mp hq with e | e
    · rw [e] at hlt ⊢; exact k7 hlt
    · exact k6 q e hlt
  have mp : p ∈ (0 :: l) := h2.elim (fun e => by rw [e]; exact List.mem_cons_self) (List.mem_cons_of_mem _)
  have mp' : p' ∈ (0 :: c) := k2.elim (fun e => by rw [e]; exact List.mem_cons_self) (List.mem_cons_of_mem _)
  have sp' : p' ∈ (0 :: l) := (List.mem_cons.mp mp').elim (fun e => by rw [e]; exact List.mem_cons_self) fun e => List.mem_cons_of_mem _ (sub _ e)
  obtain ⟨q, hq, q1, q2⟩ := hit p mp
  have e1 : w' ≤ w := by rw [← k3]; exact a5 p' sp'
  have e2 : w ≤ w' := by rw [← h3, ← q2]; exact b5 q hq
  have ew : w = w' := Int.le_antisymm e2 e1
  subst ew
  have f1 : ¬ p' < p := fun hlt => by have := a6 p' sp' hlt; omega
  have f2 : ¬ p < p' := fun hlt => by have := b6 q hq (by omega); omega
  have : p = p' := by omega
  rw [this]
theorem mn_eq (a b : Int) : mn a b = mn b a := by unfold mn; split <;> split <;> omega
/-- the lesser turns only at the prices and one behind -/
theorem lesser_hit (asks bids : List (Int × Int)) (C : Int → Prop) (c0 : C 0) (cA : ∀ o ∈ asks, C o.2) (cB : ∀ o ∈ bids, o.2 + 1 ≤ 999 → C (o.2 + 1)) :
    ∀ n : Nat, n ≤ 999 → ∃ q, C q ∧ 0 ≤ q ∧ q ≤ (n : Int) ∧ lesser asks bids q = lesser asks bids (n : Int)
  | 0, _ => ⟨0, c0, Int.le_refl _, Int.le_refl _, rfl⟩
  | n + 1, hn => by
    by_cases h : C ((n + 1 : Nat) : Int)
    · exact ⟨_, h, Int.natCast_nonneg _, Int.le_refl _, rfl⟩
    obtain ⟨q, h1, h2, h3, h4⟩ := lesser_hit asks bids C c0 cA cB n (by omega)
    refine ⟨q, h1, h2, by omega, ?_⟩
    rw [h4]
    unfold lesser
    congr 1
    · unfold sup
      congr 2
      refine List.filter_congr fun o ho => ?_
      have : o.2 ≠ ((n + 1 : Nat) : Int) := fun e => h (e ▸ cA o ho)
      simp only [decide_eq_decide]
      omega
    · unfold dem
      congr 2
      refine List.filter_congr fun o ho => ?_
      have : o.2 + 1 ≠ ((n + 1 : Nat) : Int) := fun e => h (e ▸ cB o ho (by omega))
      simp only [decide_eq_decide]
      omega
end Zl
namespace Zl
open PySem PySem.Spec PySem.W PyProof.Rows L2 Zm
/-! is_within, of any datum -/
theorem c_is_within (k : Nat) (p : PyData) (a b : Int) (h : AH) : callN F (k + 1) i_is_within [.py p, .i a, .i b] h = .ok (.b (wi p a b)) h := by
  rw [callN_succ F k i_is_within f_is_within rfl]
  cases p with
  | int t => by_cases h1 : a ≤ t <;> simp [runF, f_is_within, b_is_within, initS, ex, ev, evs, isD, isP, cmpD_int, cmp_leI, h1, leave_same, wi]
  | _ => simp [runF, f_is_within, b_is_within, initS, ex, ev, evs, isD, isP, leave_same, wi]
/-! offers that are offers -/
def Val (o : Int × Int) : Prop := 1 ≤ o.1 ∧ o.1 ≤ 99 ∧ 0 ≤ o.2 ∧ o.2 ≤ 999
theorem c_is_offer (k : Nat) (x y : Int) (h : AH) : callN F (k + 2) i_is_offer [.py (.tuple [.int x, .int y])] h = .ok (.b ((decide (1 ≤ x) && decide (x ≤ 99)) && (decide (0 ≤ y) && decide (y ≤ 999)))) h := by
  rw [callN_succ F (k + 1) i_is_offer f_is_offer rfl]
  by_cases h1 : (decide (1 ≤ x) && decide (x ≤ 99)) = true
  · simp [runF, f_is_offer, b_is_offer, initS, ex, ev, evs, isD, isP, cmpD_int, cmp_neI, biD, toPys, toPy, biP, idxD, idxP, atI_0, atI_1, c_is_within, wi, leave_same, h1]
  · simp [runF, f_is_offer, b_is_offer, initS, ex, ev, evs, isD, isP, cmpD_int, cmp_neI, biD, toPys, toPy, biP, idxD, idxP, atI_0, atI_1, c_is_within, wi, leave_same, h1]
theorem c_is_offer_v (k : Nat) (o : Int × Int) (ho : Val o) (h : AH) : callN F (k + 2) i_is_offer [.py (pr o)] h = .ok (.b true) h := by
  obtain ⟨h1, h2, h3, h4⟩ := ho
  unfold pr
  rw [c_is_offer]
  simp [h1, h2, h3, h4]
theorem pyv (os : List (Int × Int)) : (os.map pr).map D.py = os.map fun o => D.py (pr o) := by simp
theorem k2c (C : Orc) (os : List (Int × Int)) (h : AH) (hC : ∀ o ∈ os, C i_is_offer [.py (pr o)] h = .ok (.b true) h) (hl : os.length ≤ 6) : ev C b_are_offers_1 [some (.py (offs os)), none] h = .ok (.py (.list (os.map fun _ => .bool true))) h := by
  have e := ev_compM (C := C) (own := [1]) (elt := b_are_offers_0) (t := .var 1) (it := .cons (.var 0) .nil) (cond := .lit (.bool true)) (σ := [some (.py (offs os)), none]) (h := h) (os := os) (e := fun o => D.py (pr o))
    (by simp [evi, ev, offs, seqP]) (Nat.le_trans hl (by decide)) (fun _ => true) (fun _ => .bool true) (fun o => [some (.py (offs os)), some (.py (pr o))])
    (fun o ho => ⟨by simp [asg, wipeS], by simp [ev], fun _ => by simp [b_are_offers_0, ev, evs, hC o ho]⟩)
  rw [List.filter_eq_self.mpr (fun _ _ => rfl)] at e
  exact e
theorem c_are_offers (k : Nat) (os : List (Int × Int)) (hv : ∀ o ∈ os, Val o) (hl : os.length ≤ 6) (h : AH) : callN F (k + 3) i_are_offers [.py (offs os)] h = .ok (.b true) h := by
  rw [callN_succ F (k + 2) i_are_offers f_are_offers rfl]
  have hl3 : (os.length : Int) ≤ 6 := by omega
  have e := k2c (callN F (k + 2)) os h (fun o ho => c_is_offer_v k o (hv o ho) h) hl
  have e1 : isP .tuple (offs os) = true := rfl
  have e2 : biP .len [offs os] = some (.int os.length) := by simp [offs, biP]
  have e3 : biP .all [.list (os.map fun _ => .bool true)] = some (.bool true) := by simp [biP, bools_map]
  simp [runF, f_are_offers, b_are_offers, initS, ex, ev, evs, isD, cmpD_int, cmp_leI, biD, toPys, toPy, leave_same, hl3, e, e1, e2, e3]
theorem c_need_offers (k : Nat) (os : List (Int × Int)) (hv : ∀ o ∈ os, Val o) (hl : os.length ≤ 6) (h : AH) : callN F (k + 4) i_need_offers [.py (offs os)] h = .ok .non h := by
  rw [callN_succ F (k + 3) i_need_offers f_need_offers rfl]
  simp [runF, f_need_offers, b_need_offers, initS, ex, ev, evs, leave_same, c_are_offers k os hv hl]
/-! what clears, of any datum -/
def mv (os : List (Int × Int)) (p : PyData) : Bool := match p with
  | .tuple ps => decide (ps.length = os.length) && (ps.zip os).all fun x => wi x.1 0 x.2.1
  | _ => false
theorem zipD_offs : ∀ (ps : List PyData) (os : List (Int × Int)), zipD (ps.map D.py) ((os.map pr).map D.py) = (ps.zip os).map fun x => D.py (.tuple [x.1, pr x.2])
  | [], _ => rfl
  | _ :: _, [] => rfl
  | p :: ps, o :: os => by
    have ih := zipD_offs ps os
    show mkTup [.py p, .py (pr o)] :: zipD _ _ = D.py (.tuple [p, pr o]) :: _
    rw [ih]
    rfl
theorem kv_am1 (k : Nat) (os : List (Int × Int)) (ps : List PyData) (hl : os.length ≤ 6) (a2 a3 : Option D) (h : AH) : ev (callN F (k + 1)) b_are_moved_1 [some (.py (offs os)), some (.py (.tuple ps)), a2, a3] h = .ok (.py (.list ((ps.zip os).map fun x => .bool (wi x.1 0 x.2.1)))) h := by
  have e0 : evi (callN F (k + 1)) (.zip (.var 1) (.var 0)) [some (.py (offs os)), some (.py (.tuple ps)), a2, a3] h = .ok ⟨(ps.zip os).map fun x => D.py (.tuple [x.1, pr x.2]), none⟩ h := by
    simp only [evi, ev, R.bind_ok, List.getElem?_cons_zero, List.getElem?_cons_succ, offs, zipS, zipD_offs, rO_some]
  have e := ev_compM (C := callN F (k + 1)) (own := [2, 3]) (elt := b_are_moved_0) (t := .tup (.cons (.var 2) (.cons (.var 3) (.nil)))) (it := .zip (.var 1) (.var 0)) (cond := .lit (.bool true)) (σ := [some (.py (offs os)), some (.py (.tuple ps)), a2, a3]) (h := h) (os := ps.zip os) (e := fun x => D.py (.tuple [x.1, pr x.2]))
    e0 (by rw [List.length_zip]; unfold lim; omega) (fun _ => true) (fun x => .bool (wi x.1 0 x.2.1)) (fun x => [some (.py (offs os)), some (.py (.tuple ps)), some (.py x.1), some (.py (pr x.2))])
    (fun x _ => ⟨by simp [asg, asgs, wipeS], by simp [ev], fun _ => by simp [b_are_moved_0, ev, evs, idx_pr0, c_is_within]⟩)
  rw [List.filter_eq_self.mpr (fun _ _ => rfl)] at e
  exact e
theorem c_are_moved (k : Nat) (os : List (Int × Int)) (hl : os.length ≤ 6) (p : PyData) (h : AH) : callN F (k + 2) i_are_moved [.py (offs os), .py p] h = .ok (.b (mv os p)) h := by
  rw [callN_succ F (k + 1) i_are_moved f_are_moved rfl]
  cases p with
  | tuple ps =>
    have e := kv_am1 k os ps hl none none h
    by_cases hs : ps.length = os.length
    · simp [-List.map_map, runF, f_are_moved, b_are_moved, initS, ex, ev, evs, isD, isP, biD, toPys, toPy, bi_lenT, len_offs, hs, cmpD_int, cmp_neI, e, bi_allP, mv, leave_same]
    · have hs' : ¬ (ps.length : Int) = (os.length : Int) := by omega
      simp [-List.map_map, runF, f_are_moved, b_are_moved, initS, ex, ev, evs, isD, isP, biD, toPys, toPy, bi_lenT, len_offs, hs, hs', cmpD_int, cmp_neI, mv, leave_same]
  | _ => simp [runF, f_are_moved, b_are_moved, initS, ex, ev, evs, isD, isP, leave_same, mv]
/-- rows that are moved are numbers -/
theorem mv_ints : ∀ {os : List (Int × Int)} {p : PyData}, mv os p = true → ∃ ns : List Int, p = .tuple (ns.map .int) ∧ ns.length = os.length ∧ ∀ x ∈ ns.zip os, 0 ≤ x.1 ∧ x.1 ≤ x.2.1 := by
  have key : ∀ (ps : List PyData) (os : List (Int × Int)), ps.length = os.length → ((ps.zip os).all fun x => wi x.1 0 x.2.1) = true → ∃ ns : List Int, ps = ns.map .int ∧ ∀ x ∈ ns.zip os, 0 ≤ x.1 ∧ x.1 ≤ x.2.1 := by
    intro ps
    induction ps with
    | nil => intro os _ _; exact ⟨[], rfl, fun _ h => absurd h (by simp)⟩
    | cons q r ih =>
      intro os hl ha
      match os, hl with
      | o :: os, hl =>
        rw [List.zip_cons_cons, List.all_cons, Bool.and_eq_true] at ha
        obtain ⟨n, rfl, n0, n1⟩ := wi_int ha.1
        obtain ⟨ns, rfl, h2⟩ := ih os (by simpa using hl) ha.2
        refine ⟨n :: ns, rfl, fun x hx => ?_⟩
        rw [List.zip_cons_cons] at hx
        rcases List.mem_cons.mp hx with e | e
        · rw [e]; exact ⟨n0, n1⟩
        · exact h2 x e
  intro os p h
  cases p with
  | tuple ps =>
    simp only [mv, Bool.and_eq_true, decide_eq_true_eq] at h
    obtain ⟨ns, rfl, h2⟩ := key ps os h.1 h.2
    exact ⟨ns, rfl, by simpa using h.1, h2⟩
  | _ => cases h
theorem mv_of {os : List (Int × Int)} {ns : List Int} (hl : ns.length = os.length) (hb : ∀ x ∈ ns.zip os, 0 ≤ x.1 ∧ x.1 ≤ x.2.1) : mv os (.tuple (ns.map .int)) = true := by
  have key : ∀ (ns : List Int) (os : List (Int × Int)), (∀ x ∈ ns.zip os, 0 ≤ x.1 ∧ x.1 ≤ x.2.1) → (((ns.map PyData.int).zip os).all fun x => wi x.1 0 x.2.1) = true := by
    intro ns
    induction ns with
    | nil => intro os _; rfl
    | cons n r ih =>
      intro os hb
      match os with
      | [] => rfl
      | o :: os =>
        rw [List.map_cons, List.zip_cons_cons, List.all_cons, ih os fun x hx => hb x (by rw [List.zip_cons_cons]; exact List.mem_cons_of_mem _ hx)]
        have := hb (n, o) (by rw [List.zip_cons_cons]; exact List.mem_cons_self)
        simp [wi, this.1, this.2]
  simp only [mv, List.length_map, hl, decide_true, Bool.true_and]
  exact key ns os hb
def dearB (price : Int) (ns : List Int) (asks : List (Int × Int)) : Bool := (ns.zip asks).any fun x => decide (0 < x.1) && decide (price < x.2.2)
def cheapB (price : Int) (ms : List Int) (bids : List (Int × Int)) : Bool := (ms.zip bids).any fun x => decide (0 < x.1) && decide (x.2.2 < price)
def gdI (asks bids : List (Int × Int)) (price : Int) (ns ms : List Int) : Bool := decide (ns.sum = ms.sum) && (!dearB price ns asks && !cheapB price ms bids)
def gd (asks bids : List (Int × Int)) (p : PyData) : Bool := match p with
  | .tuple [a, b, c] => wi a 0 999 && (mv asks b && (mv bids c && (match a, b, c with
    | .int price, .tuple bs, .tuple cs => (match intL bs, intL cs with
      | some ns, some ms => gdI asks bids price ns ms
      | _, _ => false)
    | _, _, _ => false)))
  | _ => false
theorem gd_len {asks bids : List (Int × Int)} {ps : List PyData} (h : ps.length ≠ 3) : gd asks bids (.tuple ps) = false := by
  match ps, h with
  | [], _ => rfl
  | [_], _ => rfl
  | [_, _], _ => rfl
  | [_, _, _], h => exact absurd rfl h
  | _ :: _ :: _ :: _ :: _, _ => rfl
theorem sum0 : ∀ {l : List Int}, (∀ x ∈ l, 0 ≤ x) → (0 ≤ l.sum ∧ (l.sum = 0 ↔ ∀ x ∈ l, ¬ 0 < x))
  | [], _ => by simp
  | x :: r, h => by
    have h1 := h x List.mem_cons_self
    obtain ⟨h2, h3⟩ := sum0 (l := r) fun y hy => h y (List.mem_cons_of_mem _ hy)
    rw [List.sum_cons]
    refine ⟨by omega, fun e y hy => ?_, fun e => ?_⟩
    · rcases List.mem_cons.mp hy with q | q
      · rw [q]; omega
      · exact h3.mp (by omega) y q
    · have := h3.mpr fun y hy => e y (List.mem_cons_of_mem _ hy)
      have := e x List.mem_cons_self
      omega
/-- sums of what is dear and cheap -/
theorem dear_sum {ns : List Int} {os : List (Int × Int)} (hb : ∀ x ∈ ns.zip os, 0 ≤ x.1) (q : Int × (Int × Int) → Bool) : 0 ≤ (((ns.zip os).filter q).map (·.1)).sum ∧ ((((ns.zip os).filter q).map (·.1)).sum = 0 ↔ ((ns.zip os).any fun x => decide (0 < x.1) && q x) = false) := by
  obtain ⟨h1, h2⟩ := sum0 (l := ((ns.zip os).filter q).map (·.1)) fun x hx => by
    obtain ⟨y, hy, rfl⟩ := List.mem_map.mp hx
    exact hb y (List.mem_filter.mp hy).1
  refine ⟨h1, h2.trans ?_⟩
  rw [List.any_eq_false]
  constructor
  · intro e x hx hq
    rw [Bool.and_eq_true, decide_eq_true_eq] at hq
    exact e x.1 (List.mem_map.mpr ⟨x, List.mem_filter.mpr ⟨hx, hq.2⟩, rfl⟩) hq.1
  · intro e x hx hpos
    obtain ⟨y, hy, rfl⟩ := List.mem_map.mp hx
    obtain ⟨m1, m2⟩ := List.mem_filter.mp hy
    exact e y m1 (by rw [Bool.and_eq_true, decide_eq_true_eq]; exact ⟨hpos, m2⟩)
theorem zipD_io : ∀ (ns : List Int) (os : List (Int × Int)), zipD ((ns.map PyData.int).map D.py) ((os.map pr).map D.py) = (ns.zip os).map fun x => D.py (.tuple [.int x.1, pr x.2])
  | [], _ => rfl
  | _ :: _, [] => rfl
  | n :: ns, o :: os => by
    have ih := zipD_io ns os
    show mkTup [.i n, .py (pr o)] :: zipD _ _ = D.py (.tuple [.int n, pr o]) :: _
    rw [ih]
    rfl
theorem kv_cl5 (C : Orc) (asks : List (Int × Int)) (ns : List Int) (hl : asks.length ≤ 6) (price : Int) (B T s3 s4 s7 a8 a9 a10 : Option D) (h : AH) : ev C b_clears_5 [some (.py (offs asks)), B, T, s3, s4, some (.i price), some (.py (.tuple (ns.map .int))), s7, a8, a9, a10] h = .ok (.py (.list (((ns.zip asks).filter fun x => decide (price < x.2.2)).map fun x => .int x.1))) h := by
  have e0 : evi C (.zip (.var 6) (.var 0)) [some (.py (offs asks)), B, T, s3, s4, some (.i price), some (.py (.tuple (ns.map .int))), s7, a8, a9, a10] h = .ok ⟨(ns.zip asks).map fun x => D.py (.tuple [.int x.1, pr x.2]), none⟩ h := by
    simp only [evi, ev, R.bind_ok, List.getElem?_cons_zero, List.getElem?_cons_succ, offs, zipS, zipD_io, rO_some]
  exact ev_compM (C := C) (own := [8, 9]) (elt := b_clears_3) (t := .tup (.cons (.var 8) (.cons (.var 9) (.nil)))) (it := .zip (.var 6) (.var 0)) (cond := b_clears_4) (σ := [some (.py (offs asks)), B, T, s3, s4, some (.i price), some (.py (.tuple (ns.map .int))), s7, a8, a9, a10]) (h := h) (os := ns.zip asks) (e := fun x => D.py (.tuple [.int x.1, pr x.2]))
    e0 (by rw [List.length_zip]; unfold lim; omega) (fun x => decide (price < x.2.2)) (fun x => .int x.1) (fun x => [some (.py (offs asks)), B, T, s3, s4, some (.i price), some (.py (.tuple (ns.map .int))), s7, some (.i x.1), some (.py (pr x.2)), a10])
    (fun x _ => ⟨by simp [asg, asgs, wipeS], by simp [b_clears_4, ev, idx_pr1, cmpD_int, cmp_gtI], fun _ => by simp [b_clears_3, ev]⟩)
theorem kv_cl2 (C : Orc) (bids : List (Int × Int)) (ms : List Int) (hl : bids.length ≤ 6) (price : Int) (A T s3 s4 s6 a8 a9 a10 : Option D) (h : AH) : ev C b_clears_2 [A, some (.py (offs bids)), T, s3, s4, some (.i price), s6, some (.py (.tuple (ms.map .int))), a8, a9, a10] h = .ok (.py (.list (((ms.zip bids).filter fun x => decide (x.2.2 < price)).map fun x => .int x.1))) h := by
  have e0 : evi C (.zip (.var 7) (.var 1)) [A, some (.py (offs bids)), T, s3, s4, some (.i price), s6, some (.py (.tuple (ms.map .int))), a8, a9, a10] h = .ok ⟨(ms.zip bids).map fun x => D.py (.tuple [.int x.1, pr x.2]), none⟩ h := by
    simp only [evi, ev, R.bind_ok, List.getElem?_cons_zero, List.getElem?_cons_succ, offs, zipS, zipD_io, rO_some]
  exact ev_compM (C := C) (own := [8, 10]) (elt := b_clears_0) (t := .tup (.cons (.var 8) (.cons (.var 10) (.nil)))) (it := .zip (.var 7) (.var 1)) (cond := b_clears_1) (σ := [A, some (.py (offs bids)), T, s3, s4, some (.i price), s6, some (.py (.tuple (ms.map .int))), a8, a9, a10]) (h := h) (os := ms.zip bids) (e := fun x => D.py (.tuple [.int x.1, pr x.2]))
    e0 (by rw [List.length_zip]; unfold lim; omega) (fun x => decide (x.2.2 < price)) (fun x => .int x.1) (fun x => [A, some (.py (offs bids)), T, s3, s4, some (.i price), s6, some (.py (.tuple (ms.map .int))), some (.i x.1), a9, some (.py (pr x.2))])
    (fun x _ => ⟨by simp [asg, asgs, wipeS], by simp [b_clears_1, ev, idx_pr1, cmpD_int, cmp_ltI], fun _ => by simp [b_clears_0, ev]⟩)
theorem bi_sumTI (ns : List Int) : biP .sum [.tuple (ns.map .int)] = some (.int ns.sum) := by rw [bi_sumT, intL_ints]; rfl
theorem bi_sumM {α : Type} (f : α → Int) (os : List α) : biP .sum [.list (os.map fun o => .int (f o))] = some (.int (os.map f).sum) := by rw [bi_sumL, intL_map]; rfl
theorem nb2 : ∀ a b : Bool, (!a && !b) = decide (a = false ∧ b = false) := by decide
theorem c_clears (k : Nat) (asks bids : List (Int × Int)) (va : ∀ o ∈ asks, Val o) (vb : ∀ o ∈ bids, Val o) (ha : asks.length ≤ 6) (hb : bids.length ≤ 6) (p : PyData) (h : AH) :
    callN F (k + 5) i_clears [.py (offs asks), .py (offs bids), .py p] h = .ok (.b (gd asks bids p)) h := by
  rw [callN_succ F (k + 4) i_clears f_clears rfl]
  have e1 := c_need_offers k asks va ha h
  have e2 := c_need_offers k bids vb hb h
  cases p with
  | tuple ps =>
    by_cases h3 : ps.length = 3
    rotate_left
    · have h3' : ¬ (ps.length : Int) = 3 := by omega
      rw [gd_len h3]
      simp [runF, f_clears, b_clears, initS, ex, ev, evs, e1, e2, isD, isP, biD, toPys, toPy, bi_lenT, h3', cmpD_int, cmp_neI, leave_same]
    obtain ⟨a, b, c, rfl⟩ := three h3
    have e3 := c_is_within (k + 3) a 0 999 h
    cases hw : wi a 0 999 with
    | false =>
      have e0 : gd asks bids (.tuple [a, b, c]) = false := by simp only [gd, hw, Bool.false_and]
      rw [e0]
      simp [runF, f_clears, b_clears, initS, ex, ev, evs, e1, e2, isD, isP, biD, toPys, toPy, bi_lenT, cmpD_int, cmp_neI, idx_T0, e3, hw, leave_same]
    | true =>
      obtain ⟨price, rfl, _, _⟩ := wi_int hw
      have e4 := c_are_moved (k + 2) asks ha b h
      have e5 := c_are_moved (k + 2) bids hb c h
      cases hb1 : mv asks b with
      | false =>
        have e0 : gd asks bids (.tuple [.int price, b, c]) = false := by simp only [gd, hw, hb1, Bool.false_and, Bool.and_false]
        rw [e0]
        simp [runF, f_clears, b_clears, initS, ex, ev, evs, asg, asgs, e1, e2, isD, isP, biD, toPys, toPy, bi_lenT, cmpD_int, cmp_neI, idx_T0, e3, hw, e4, hb1, leave_same]
      | true =>
        cases hc1 : mv bids c with
        | false =>
          have e0 : gd asks bids (.tuple [.int price, b, c]) = false := by simp only [gd, hw, hb1, hc1, Bool.false_and, Bool.and_false]
          rw [e0]
          simp [runF, f_clears, b_clears, initS, ex, ev, evs, asg, asgs, e1, e2, isD, isP, biD, toPys, toPy, bi_lenT, cmpD_int, cmp_neI, idx_T0, e3, hw, e4, hb1, e5, hc1, leave_same]
        | true =>
          obtain ⟨ns, rfl, _, hn⟩ := mv_ints hb1
          obtain ⟨ms, rfl, _, hm⟩ := mv_ints hc1
          have e0 : gd asks bids (.tuple [.int price, .tuple (ns.map .int), .tuple (ms.map .int)]) = gdI asks bids price ns ms := by simp only [gd, hw, hb1, hc1, intL_ints, Bool.true_and]
          rw [e0]
          by_cases hs : ns.sum = ms.sum
          rotate_left
          · have e6 : gdI asks bids price ns ms = false := by simp [gdI, hs]
            rw [e6]
            simp [-List.map_map, runF, f_clears, b_clears, initS, ex, ev, evs, asg, asgs, e1, e2, isD, isP, biD, toPys, toPy, bi_lenT, cmpD_int, cmp_neI, idx_T0, e3, hw, e4, hb1, e5, hc1, bi_sumTI, hs, leave_same]
          have k5 := kv_cl5 (callN F (k + 4)) asks ns ha price (some (.py (offs bids))) (some (.py (.tuple [.int price, .tuple (ns.map .int), .tuple (ms.map .int)]))) none none (some (.py (.tuple (ms.map .int)))) none none none h
          have k2 := kv_cl2 (callN F (k + 4)) bids ms hb price (some (.py (offs asks))) (some (.py (.tuple [.int price, .tuple (ns.map .int), .tuple (ms.map .int)]))) (some (.py (.list (((ns.zip asks).filter fun x => decide (price < x.2.2)).map fun x => .int x.1)))) none (some (.py (.tuple (ns.map .int)))) none none none h
          obtain ⟨d1, d2⟩ := dear_sum (fun x hx => (hn x hx).1) fun x : Int × (Int × Int) => decide (price < x.2.2)
          obtain ⟨c1, c2⟩ := dear_sum (fun x hx => (hm x hx).1) fun x : Int × (Int × Int) => decide (x.2.2 < price)
          have e6 : gdI asks bids price ns ms = decide ((((ns.zip asks).filter fun x => decide (price < x.2.2)).map (·.1)).sum + (((ms.zip bids).filter fun x => decide (x.2.2 < price)).map (·.1)).sum = 0) := by
            have z : ((((ns.zip asks).filter fun x => decide (price < x.2.2)).map (·.1)).sum + (((ms.zip bids).filter fun x => decide (x.2.2 < price)).map (·.1)).sum = 0) ↔ (dearB price ns asks = false ∧ cheapB price ms bids = false) := by
              unfold dearB cheapB
              rw [← d2, ← c2]
              omega
            rw [decide_eq_decide.mpr z]
            simp only [gdI, hs, decide_true, Bool.true_and]
            exact nb2 _ _
          rw [e6]
          simp [-List.map_map, runF, f_clears, b_clears, initS, ex, ev, evs, asg, asgs, e1, e2, isD, isP, biD, toPys, toPy, bi_lenT, cmpD_int, cmp_neI, cmp_eqI, idx_T0, e3, hw, e4, hb1, e5, hc1, bi_sumTI, hs, k5, k2, bi_sumM, bin_add, leave_same]
  | _ => simp [runF, f_clears, b_clears, initS, ex, ev, evs, e1, e2, isD, isP, leave_same, gd]
theorem k4c (C : Orc) (os : List (Int × Int)) (p : Int) (h : AH) (hl : os.length ≤ 6) : ev C b_supply_at_2 [some (.py (offs os)), some (.i p), none, none] h = .ok (.py (.list ((os.filter fun o => decide (o.2 ≤ p)).map fun o => .int o.1))) h := by
  have e := ev_compM (C := C) (own := [2, 3]) (elt := b_supply_at_0) (t := .tup (.cons (.var 2) (.cons (.var 3) .nil))) (it := .cons (.var 0) .nil) (cond := b_supply_at_1) (σ := [some (.py (offs os)), some (.i p), none, none]) (h := h) (os := os) (e := fun o => D.py (pr o))
    (by simp [evi, ev, offs, seqP]) (Nat.le_trans hl (by decide)) (fun o => decide (o.2 ≤ p)) (fun o => .int o.1) (fun o => [some (.py (offs os)), some (.i p), some (.i o.1), some (.i o.2)])
    (fun o ho => ⟨by simp [asg, asgs, wipeS, pr], by simp [b_supply_at_1, ev, cmpD_int, cmp_leI], fun _ => by simp [b_supply_at_0, ev]⟩)
  unfold b_supply_at_2
  exact e
theorem c_supply_at (k : Nat) (os : List (Int × Int)) (p : Int) (hl : os.length ≤ 6) (h : AH) : callN F (k + 1) i_supply_at [.py (offs os), .i p] h = .ok (.i (sup os p)) h := by
  rw [callN_succ F k i_supply_at f_supply_at rfl]
  have e3 : biP .sum [.list ((os.filter fun o => decide (o.2 ≤ p)).map fun o => .int o.1)] = some (.int (sup os p)) := by simp [biP, intL_map, sup]
  simp [runF, f_supply_at, b_supply_at, initS, ex, ev, evs, biD, toPys, toPy, leave_same, k4c _ os p h hl, e3]
theorem k5c (C : Orc) (os : List (Int × Int)) (p : Int) (h : AH) (hl : os.length ≤ 6) : ev C b_demand_at_2 [some (.py (offs os)), some (.i p), none, none] h = .ok (.py (.list ((os.filter fun o => decide (p ≤ o.2)).map fun o => .int o.1))) h := by
  have e := ev_compM (C := C) (own := [2, 3]) (elt := b_demand_at_0) (t := .tup (.cons (.var 2) (.cons (.var 3) .nil))) (it := .cons (.var 0) .nil) (cond := b_demand_at_1) (σ := [some (.py (offs os)), some (.i p), none, none]) (h := h) (os := os) (e := fun o => D.py (pr o))
    (by simp [evi, ev, offs, seqP]) (Nat.le_trans hl (by decide)) (fun o => decide (p ≤ o.2)) (fun o => .int o.1) (fun o => [some (.py (offs os)), some (.i p), some (.i o.1), some (.i o.2)])
    (fun o ho => ⟨by simp [asg, asgs, wipeS, pr], by simp [b_demand_at_1, ev, cmpD_int, cmp_geI], fun _ => by simp [b_demand_at_0, ev]⟩)
  unfold b_demand_at_2
  exact e
theorem c_demand_at (k : Nat) (os : List (Int × Int)) (p : Int) (hl : os.length ≤ 6) (h : AH) : callN F (k + 1) i_demand_at [.py (offs os), .i p] h = .ok (.i (dem os p)) h := by
  rw [callN_succ F k i_demand_at f_demand_at rfl]
  have e3 : biP .sum [.list ((os.filter fun o => decide (p ≤ o.2)).map fun o => .int o.1)] = some (.int (dem os p)) := by simp [biP, intL_map, dem]
  simp [runF, f_demand_at, b_demand_at, initS, ex, ev, evs, biD, toPys, toPy, leave_same, k5c _ os p h hl, e3]
/-! the best price -/
def bstep (asks bids : List (Int × Int)) (b : Int × Int) (p : Int) : Int × Int := if b.1 < lesser asks bids p then (lesser asks bids p, p) else b
def best (asks bids : List (Int × Int)) : Int × Int := (List.range 1000).foldl (fun b i => bstep asks bids b (i : Nat)) (-1, 0)
/-- slots in the loop -/
def S6 (asks bids : List (Int × Int)) (a : (Int × Int) × Option D × Option D) : Sg := [some (.py (offs asks)), some (.py (offs bids)), some (.py (.tuple [.int a.1.1, .int a.1.2])), a.2.1, a.2.2]
theorem k6 (k : Nat) (asks bids : List (Int × Int)) (ha : asks.length ≤ 6) (hb : bids.length ≤ 6) (h : AH) : ∃ a2, ex (callN F (k + 1)) b_best_price_1 (S6 asks bids ((-1, 0), none, none)) h = .ok (.nx (S6 asks bids (best asks bids, a2))) h := by
  have key := forL_foldM (α := (Int × Int) × Option D × Option D) (β := Nat) (asg := asg (callN F (k + 1)) (.var 3)) (body := ex (callN F (k + 1)) b_best_price_0) (ok := okS ⟨rangeL 0 1000, none⟩) (e := fun i => D.i (0 + (i : Nat))) (S6 asks bids) (fun _ => h)
    (fun a i => (bstep asks bids a.1 (i : Nat), some (.i (i : Nat)), some (.i (lesser asks bids (i : Nat))))) (List.range 1000) ((-1, 0), none, none) (fun _ => rfl) (fun a i _ => by
      refine ⟨[some (.py (offs asks)), some (.py (offs bids)), some (.py (.tuple [.int a.1.1, .int a.1.2])), some (.i (i : Nat)), a.2.2], h, by simp [asg, S6], ?_⟩
      by_cases hc : a.1.1 < lesser asks bids (i : Nat)
      · have hc2 : a.1.1 < if dem bids (i : Nat) < sup asks (i : Nat) then dem bids (i : Nat) else sup asks (i : Nat) := hc
        simp [b_best_price_0, ex, ev, evs, asg, c_supply_at k asks _ ha, c_demand_at k bids _ hb, biD, toPys, toPy, biP, cmpD_int, cmp_gtI, idxD, idxP, atI_0, mkTup, pys, S6, bstep, hc, hc2]
        simp [lesser, mn]
      · have hc2 : ¬ (a.1.1 < if dem bids (i : Nat) < sup asks (i : Nat) then dem bids (i : Nat) else sup asks (i : Nat)) := hc
        simp [b_best_price_0, ex, ev, evs, asg, c_supply_at k asks _ ha, c_demand_at k bids _ hb, biD, toPys, toPy, biP, cmpD_int, cmp_gtI, idxD, idxP, atI_0, mkTup, pys, S6, bstep, hc, hc2]
        simp [lesser, mn])
  have hx : ∀ (l : List Nat) (b : Int × Int) (q : Option D × Option D), (l.foldl (fun (a : (Int × Int) × Option D × Option D) i => (bstep asks bids a.1 (i : Nat), some (D.i (i : Nat)), some (D.i (lesser asks bids (i : Nat))))) (b, q)).1 = l.foldl (fun b i => bstep asks bids b (i : Nat)) b := by
    intro l
    induction l with
    | nil => intro b q; rfl
    | cons i l ih => intro b q; exact ih _ _
  refine ⟨((List.range 1000).foldl (fun (a : (Int × Int) × Option D × Option D) i => (bstep asks bids a.1 (i : Nat), some (D.i (i : Nat)), some (D.i (lesser asks bids (i : Nat))))) ((-1, 0), none, none)).2, ?_⟩
  have e0 : evi (callN F (k + 1)) (.rng1 (.bin .Add (.glb g_MOST_PRICE (.int 999)) (.lit (.int 1)))) (S6 asks bids ((-1, 0), none, none)) h = .ok ⟨rangeL 0 1000, none⟩ h := by
    simp [evi, ev, binD, toPy, binP, r62]
  unfold b_best_price_1
  rw [ex, e0, R.bind_ok]
  show forL _ _ (okS ⟨rangeL 0 1000, none⟩) (rangeL 0 1000) _ h = _
  rw [← rangeL_map 1000 0] at key
  rw [key]
  have e1 := hx (List.range 1000) (-1, 0) (none, none)
  generalize (List.range 1000).foldl (fun (a : (Int × Int) × Option D × Option D) i => (bstep asks bids a.1 (i : Nat), some (D.i (i : Nat)), some (D.i (lesser asks bids (i : Nat))))) ((-1, 0), none, none) = z at e1 ⊢
  obtain ⟨z1, z2⟩ := z
  have e2 : z1 = best asks bids := e1
  rw [e2]
theorem c_best_price (k : Nat) (asks bids : List (Int × Int)) (ha : asks.length ≤ 6) (hb : bids.length ≤ 6) (h : AH) : callN F (k + 2) i_best_price [.py (offs asks), .py (offs bids)] h = .ok (.py (.tuple [.int (best asks bids).2, .int (best asks bids).1])) h := by
  rw [callN_succ F (k + 1) i_best_price f_best_price rfl]
  obtain ⟨a2, e⟩ := k6 k asks bids ha hb h
  simp only [S6] at e
  simp [runF, f_best_price, b_best_price, initS, ex, ev, evs, asg, mkTup, pys, e, idxD, idxP, atI_0, atI_1, leave_same]
theorem binD_sub (h : AH) (a b : Int) : binD h .Sub (.i a) (.i b) = some (.i (a - b)) := rfl
def fstep (os : List (Int × Int)) (st : List Int × Int) (at_ : Nat) : List Int × Int := (st.1.set at_ (mn ((os.getD at_ (0, 0)).1) st.2), st.2 - mn ((os.getD at_ (0, 0)).1) st.2)
def S7 (os : List (Int × Int)) (order : List Nat) (l : Nat) (a : (List Int × Int) × Option D) : Sg := [some (.py (offs os)), some (.py (.list (order.map fun i => .int (i : Nat)))), some (.i a.1.2), some (.obj l), a.2]
theorem k7b (C : Orc) (os : List (Int × Int)) (order : List Nat) (h : AH) (a : (List Int × Int) × Option D) (i : Nat) (hi : i < os.length) (hl : a.1.1.length = os.length) :
    ex C b_filled_0 [some (.py (offs os)), some (.py (.list (order.map fun i => .int (i : Nat)))), some (.i a.1.2), some (.obj h.length), some (.i (i : Nat))] (h ++ [.lst (a.1.1.map D.i)]) = .ok (.nx (S7 os order h.length (fstep os a.1 i, some (.i (i : Nat))))) (h ++ [.lst ((fstep os a.1 i).1.map D.i)]) := by
  have e1 : (os.map pr)[i]? = some (pr os[i]) := by simp [hi]
  have e2 : os.getD i (0, 0) = os[i] := by simp [hi]
  have hi2 : i < a.1.1.length := by omega
  have e3 : L2.ixN a.1.1.length (i : Int) = some i := by
    unfold L2.ixN
    rw [if_pos (by omega), if_pos (by omega)]
    simp
  have e4 : ∀ x : Int, ((List.map D.i a.1.1).set i (D.i x))[i]? = some (D.i x) := fun x => by
    rw [List.getElem?_set_self (by rw [List.length_map]; exact hi2)]
  simp [b_filled_0, ex, ev, evs, asg, biD, toPys, toPy, biP, idxD, idxP, Zm.atI_nat, atI_0, offs, e1, pr, setIdx, e3, get_end, set_end, e4, binD, binP, S7, fstep, e2, mn, List.map_set, hi]
def fil (os : List (Int × Int)) (order : List Nat) (w : Int) : List Int := (order.foldl (fstep os) (os.map fun _ => 0, w)).1
theorem fstep_len (os : List (Int × Int)) (st : List Int × Int) (i : Nat) : (fstep os st i).1.length = st.1.length := by simp [fstep]
/-- a loop that fills, whatever its body's text -/
theorem k7 (C : Orc) (body : S) (os : List (Int × Int)) (h : AH) (full : List Nat)
    (hb : ∀ (a : (List Int × Int) × Option D) (i : Nat), i < os.length → a.1.1.length = os.length → ex C body [some (.py (offs os)), some (.py (.list (full.map fun i => .int (i : Nat)))), some (.i a.1.2), some (.obj h.length), some (.i (i : Nat))] (h ++ [.lst (a.1.1.map D.i)]) = .ok (.nx (S7 os full h.length (fstep os a.1 i, some (.i (i : Nat))))) (h ++ [.lst ((fstep os a.1 i).1.map D.i)])) :
    ∀ (order : List Nat), (∀ i ∈ order, i < os.length) → ∀ (a : (List Int × Int) × Option D), a.1.1.length = os.length →
    ∃ q, forL (asg C (.var 4)) (ex C body) (okS ⟨full.map fun i => D.i (i : Nat), none⟩) (order.map fun i => D.i (i : Nat)) (S7 os full h.length a) (h ++ [.lst (a.1.1.map D.i)]) = .ok (.nx (S7 os full h.length (order.foldl (fstep os) a.1, q))) (h ++ [.lst ((order.foldl (fstep os) a.1).1.map D.i)])
  | [], _, a, _ => ⟨a.2, by rw [List.map_nil, forL, okS_none]; rfl⟩
  | i :: r, ho, a, hl => by
    have e := hb a i (ho i List.mem_cons_self) hl
    obtain ⟨q, ih⟩ := k7 C body os h full hb r (fun j hj => ho j (List.mem_cons_of_mem _ hj)) (fstep os a.1 i, some (.i (i : Nat))) (by rw [fstep_len]; exact hl)
    refine ⟨q, ?_⟩
    rw [List.map_cons, forL, okS_none]
    have e1 : asg C (.var 4) (D.i (i : Nat)) (S7 os full h.length a) (h ++ [.lst (a.1.1.map D.i)]) = .ok [some (.py (offs os)), some (.py (.list (full.map fun i => .int (i : Nat)))), some (.i a.1.2), some (.obj h.length), some (.i (i : Nat))] (h ++ [.lst (a.1.1.map D.i)]) := by simp [asg, S7]
    simp only [e1, R.bind_ok, e, List.foldl_cons]
    exact ih
theorem k7e (C : Orc) (os : List (Int × Int)) (order : List Nat) (ho : ∀ i ∈ order, i < os.length) (w : Int) (h : AH) : ∃ q w', ex C b_filled_1 [some (.py (offs os)), some (.py (.list (order.map fun i => .int (i : Nat)))), some (.i w), some (.obj h.length), none] (h ++ [.lst (os.map fun _ => D.i 0)]) =
    .ok (.nx [some (.py (offs os)), some (.py (.list (order.map fun i => .int (i : Nat)))), some (.i w'), some (.obj h.length), q]) (h ++ [.lst ((fil os order w).map D.i)]) := by
  obtain ⟨q, e⟩ := k7 C b_filled_0 os h order (fun a i hi hl => k7b C os order h a i hi hl) order ho ((os.map fun _ => 0, w), none) (by simp)
  refine ⟨q, (order.foldl (fstep os) (os.map fun _ => 0, w)).2, ?_⟩
  have e0 : evi C (.cons (.var 1) .nil) [some (.py (offs os)), some (.py (.list (order.map fun i => .int (i : Nat)))), some (.i w), some (.obj h.length), none] (h ++ [.lst (os.map fun _ => D.i 0)]) = .ok ⟨order.map fun i => D.i (i : Nat), none⟩ (h ++ [.lst (os.map fun _ => D.i 0)]) := by
    simp [evi, ev, seqP]
  unfold b_filled_1
  rw [ex, e0, R.bind_ok]
  simp only [S7, List.map_map] at e
  exact e
theorem rep0 (os : List (Int × Int)) : (List.replicate os.length [PyData.int 0]).flatten = os.map fun _ => PyData.int 0 := by
  induction os with
  | nil => rfl
  | cons o r ih => simp [List.replicate_succ, ih]
theorem rep_binD (h : AH) (os : List (Int × Int)) (hl : os.length ≤ 6) : binD h .Mult (.py (.list [.int 0])) (.py (.int os.length)) = some (.py (.list (os.map fun _ => .int 0))) := by
  have h1 : (os.length : Int) ≤ 1000 := by omega
  simp only [binD, toPy, binP]
  rw [if_pos (by simp [h1]), Int.toNat_natCast, rep0]
theorem c_filled (k : Nat) (os : List (Int × Int)) (order : List Nat) (ho : ∀ i ∈ order, i < os.length) (hl : os.length ≤ 6) (w : Int) (h : AH) :
    callN F (k + 1) i_filled [.py (offs os), .py (.list (order.map fun i => .int (i : Nat))), .i w] h = .ok (.py (.tuple ((fil os order w).map .int))) h := by
  rw [callN_succ F k i_filled f_filled rfl]
  obtain ⟨q, w', e⟩ := k7e (callN F k) os order ho w h
  have e2 : (os.map fun _ => PyData.int 0).map D.py = os.map fun _ => D.i 0 := by simp
  simp only [runF, f_filled, b_filled, initS, ex, ev, evs, R.bind_ok, List.map_cons, List.map_nil, List.cons_append, List.nil_append, List.length_cons, List.length_nil, List.getElem?_cons_zero, List.getElem?_cons_succ, toPys, toPy, biD, len_offs, rO_some, pys, rep_binD h os hl, asg, e2, List.replicate, List.set_cons_succ, List.set_cons_zero, if_true, Nat.reduceAdd, Nat.reduceSub, e, get_end, pysI, bi_tupL, leave_end]
def rowS (os : List (Int × Int)) (p : Int) : List ((Int × Int) × Nat) := (os.zipIdx.filter fun x => decide (x.1.2 ≤ p)).mergeSort fun x y => leP (x.1.2, (x.2 : Int)) (y.1.2, (y.2 : Int))
def rowB (c : Int) (os : List (Int × Int)) (p : Int) : List ((Int × Int) × Nat) := (os.zipIdx.filter fun x => decide (p ≤ x.1.2)).mergeSort fun x y => leP (c - x.1.2, (x.2 : Int)) (c - y.1.2, (y.2 : Int))
theorem rowB_any (c : Int) (os : List (Int × Int)) (p : Int) : rowB c os p = rowB 0 os p := by
  unfold rowB
  congr 1
  funext x y
  simp only [leP, decide_eq_decide]
  omega
theorem rowS_len (os : List (Int × Int)) (p : Int) : (rowS os p).length ≤ os.length := by
  unfold rowS
  rw [List.length_mergeSort]
  have := List.length_filter_le (fun x : (Int × Int) × Nat => decide (x.1.2 ≤ p)) os.zipIdx
  rw [List.length_zipIdx] at this
  exact this
theorem rowB_len (c : Int) (os : List (Int × Int)) (p : Int) : (rowB c os p).length ≤ os.length := by
  unfold rowB
  rw [List.length_mergeSort]
  have := List.length_filter_le (fun x : (Int × Int) × Nat => decide (p ≤ x.1.2)) os.zipIdx
  rw [List.length_zipIdx] at this
  exact this
theorem zip_lt {os : List (Int × Int)} {x : (Int × Int) × Nat} (h : x ∈ os.zipIdx) : x.2 < os.length := by
  have := List.mem_zipIdx h
  omega
theorem rowS_lt {os : List (Int × Int)} {p : Int} : ∀ i ∈ (rowS os p).map (·.2), i < os.length := by
  intro i hi
  obtain ⟨x, hx, rfl⟩ := List.mem_map.mp hi
  unfold rowS at hx
  rw [List.mem_mergeSort] at hx
  exact zip_lt (List.mem_filter.mp hx).1
theorem rowB_lt {c : Int} {os : List (Int × Int)} {p : Int} : ∀ i ∈ (rowB c os p).map (·.2), i < os.length := by
  intro i hi
  obtain ⟨x, hx, rfl⟩ := List.mem_map.mp hi
  unfold rowB at hx
  rw [List.mem_mergeSort] at hx
  exact zip_lt (List.mem_filter.mp hx).1
theorem evi_enum (C : Orc) (os : List (Int × Int)) (e : E) (σ : Sg) (h : AH) (he : ev C e σ h = .ok (.py (offs os)) h) : evi C (.enum e) σ h = .ok ⟨os.zipIdx.map fun x => D.py (.tuple [.int (x.2 : Int), pr x.1]), none⟩ h := by
  have e1 := enumD_zip pr os 0
  simp only [evi, he, R.bind_ok, offs, seqP]
  rw [← e1]
  rfl
theorem len_zip {os : List (Int × Int)} (hl : os.length ≤ 6) : os.zipIdx.length ≤ lim := by
  rw [List.length_zipIdx]
  exact Nat.le_trans hl (by decide)
theorem k8s (C : Orc) (os : List (Int × Int)) (B s2 s3 s4 s6 a7 a8 a9 : Option D) (p : Int) (h : AH) (hl : os.length ≤ 6) : ev C b_settled_9 [some (.py (offs os)), B, s2, s3, s4, some (.i p), s6, a7, a8, a9] h = .ok (.py (.list ((os.zipIdx.filter fun x => decide (x.1.2 ≤ p)).map fun x => pr (x.1.2, (x.2 : Int))))) h := by
  have e := ev_compM (C := C) (own := [7, 8, 9]) (elt := b_settled_7) (t := .tup (.cons (.var 7) (.cons (.tup (.cons (.var 9) (.cons (.var 8) (.nil)))) (.nil)))) (it := .enum (.var 0)) (cond := b_settled_8) (σ := [some (.py (offs os)), B, s2, s3, s4, some (.i p), s6, a7, a8, a9]) (h := h) (os := os.zipIdx) (e := fun x => D.py (.tuple [.int (x.2 : Int), pr x.1]))
    (evi_enum C os _ _ h (by simp [ev])) (len_zip hl) (fun x => decide (x.1.2 ≤ p)) (fun x => pr (x.1.2, (x.2 : Int))) (fun x => [some (.py (offs os)), B, s2, s3, s4, some (.i p), s6, some (.i (x.2 : Int)), some (.i x.1.2), some (.i x.1.1)])
    (fun x hx => ⟨by simp [asg, asgs, wipeS, pr], by simp [b_settled_8, ev, cmpD_int, cmp_leI], fun _ => by simp [b_settled_7, ev, evs, mkTup, pys, pr]⟩)
  exact e
theorem k8b (C : Orc) (os : List (Int × Int)) (B s2 s3 s4 s6 a7 a8 a9 : Option D) (p : Int) (h : AH) (hl : os.length ≤ 6) : ev C b_settled_6 [B, some (.py (offs os)), s2, s3, s4, some (.i p), s6, a7, a8, a9] h = .ok (.py (.list ((os.zipIdx.filter fun x => decide (p ≤ x.1.2)).map fun x => pr (0 - x.1.2, (x.2 : Int))))) h := by
  have e := ev_compM (C := C) (own := [7, 8, 9]) (elt := b_settled_4) (t := .tup (.cons (.var 7) (.cons (.tup (.cons (.var 9) (.cons (.var 8) (.nil)))) (.nil)))) (it := .enum (.var 1)) (cond := b_settled_5) (σ := [B, some (.py (offs os)), s2, s3, s4, some (.i p), s6, a7, a8, a9]) (h := h) (os := os.zipIdx) (e := fun x => D.py (.tuple [.int (x.2 : Int), pr x.1]))
    (evi_enum C os _ _ h (by simp [ev])) (len_zip hl) (fun x => decide (p ≤ x.1.2)) (fun x => pr (0 - x.1.2, (x.2 : Int))) (fun x => [B, some (.py (offs os)), s2, s3, s4, some (.i p), s6, some (.i (x.2 : Int)), some (.i x.1.2), some (.i x.1.1)])
    (fun x hx => ⟨by simp [asg, asgs, wipeS, pr], by simp [b_settled_5, ev, cmpD_int, cmp_geI], fun _ => by simp [b_settled_4, ev, evs, mkTup, pys, pr, bin_sub]⟩)
  exact e
/-- the places out of rows of two numbers -/
theorem k8p {α : Type} (C : Orc) (r : List α) (g : α → Int) (i : α → Nat) (A B s2 s4 s5 s6 a7 a8 a9 : Option D) (h : AH) (hl : r.length ≤ 6) : ev C b_settled_1 [A, B, s2, some (.py (.list (r.map fun x => pr (g x, (i x : Int))))), s4, s5, s6, a7, a8, a9] h = .ok (.py (.list ((r.map i).map fun n => .int (n : Nat)))) h := by
  have e := ev_compM (C := C) (own := [7, 8]) (elt := b_settled_0) (t := .tup (.cons (.var 8) (.cons (.var 7) (.nil)))) (it := .cons (.var 3) .nil) (cond := .lit (.bool true)) (σ := [A, B, s2, some (.py (.list (r.map fun x => pr (g x, (i x : Int))))), s4, s5, s6, a7, a8, a9]) (h := h) (os := r) (e := fun x => D.py (pr (g x, (i x : Int))))
    (by simp [evi, ev, seqP]) (Nat.le_trans hl (by decide)) (fun x => true) (fun x => .int (i x : Nat)) (fun x => [A, B, s2, some (.py (.list (r.map fun x => pr (g x, (i x : Int))))), s4, s5, s6, some (.i (i x : Nat)), some (.i (g x)), a9])
    (fun x hx => ⟨by simp [asg, asgs, wipeS, pr], by simp [ev], fun _ => by simp [b_settled_0, ev]⟩)
  rw [List.filter_eq_self.mpr (fun _ _ => rfl)] at e
  rw [List.map_map]
  exact e
theorem k8q {α : Type} (C : Orc) (r : List α) (g : α → Int) (i : α → Nat) (A B s3 s4 s5 s6 a7 a8 a9 : Option D) (h : AH) (hl : r.length ≤ 6) : ev C b_settled_3 [A, B, some (.py (.list (r.map fun x => pr (g x, (i x : Int))))), s3, s4, s5, s6, a7, a8, a9] h = .ok (.py (.list ((r.map i).map fun n => .int (n : Nat)))) h := by
  have e := ev_compM (C := C) (own := [7, 8]) (elt := b_settled_2) (t := .tup (.cons (.var 8) (.cons (.var 7) (.nil)))) (it := .cons (.var 2) .nil) (cond := .lit (.bool true)) (σ := [A, B, some (.py (.list (r.map fun x => pr (g x, (i x : Int))))), s3, s4, s5, s6, a7, a8, a9]) (h := h) (os := r) (e := fun x => D.py (pr (g x, (i x : Int))))
    (by simp [evi, ev, seqP]) (Nat.le_trans hl (by decide)) (fun x => true) (fun x => .int (i x : Nat)) (fun x => [A, B, some (.py (.list (r.map fun x => pr (g x, (i x : Int))))), s3, s4, s5, s6, some (.i (i x : Nat)), some (.i (g x)), a9])
    (fun x hx => ⟨by simp [asg, asgs, wipeS, pr], by simp [ev], fun _ => by simp [b_settled_2, ev]⟩)
  rw [List.filter_eq_self.mpr (fun _ _ => rfl)] at e
  rw [List.map_map]
  exact e
/-- what is settled at a price and a weight -/
def stl (asks bids : List (Int × Int)) (b : Int × Int) : PyData := .tuple [.int b.2, .int b.1, .tuple ((fil asks ((rowS asks b.2).map (·.2)) b.1).map .int), .tuple ((fil bids ((rowB 0 bids b.2).map (·.2)) b.1).map .int)]
theorem bi_rowS (os : List (Int × Int)) (p : Int) : biP .sorted [.list ((os.zipIdx.filter fun x => decide (x.1.2 ≤ p)).map fun x => pr (x.1.2, (x.2 : Int)))] = some (.list ((rowS os p).map fun x => pr (x.1.2, (x.2 : Int)))) := bi_sorted_pr _ _
theorem bi_rowB (c : Int) (os : List (Int × Int)) (p : Int) : biP .sorted [.list ((os.zipIdx.filter fun x => decide (p ≤ x.1.2)).map fun x => pr (c - x.1.2, (x.2 : Int)))] = some (.list ((rowB c os p).map fun x => pr (c - x.1.2, (x.2 : Int)))) := bi_sorted_pr _ _
theorem c_settled (k : Nat) (asks bids : List (Int × Int)) (va : ∀ o ∈ asks, Val o) (vb : ∀ o ∈ bids, Val o) (ha : asks.length ≤ 6) (hb : bids.length ≤ 6) (h : AH) :
    callN F (k + 5) i_settled [.py (offs asks), .py (offs bids)] h = .ok (.py (stl asks bids (best asks bids))) h := by
  rw [callN_succ F (k + 4) i_settled f_settled rfl]
  have e1 := c_need_offers k asks va ha h
  have e2 := c_need_offers k bids vb hb h
  have e3 := c_best_price (k + 2) asks bids ha hb h
  have e4 := k8s (callN F (k + 4)) asks
  have e5 := k8b (callN F (k + 4)) bids
  have e6 := c_filled (k + 3) asks ((rowS asks (best asks bids).2).map (·.2)) rowS_lt ha (best asks bids).1 h
  have e7 := c_filled (k + 3) bids ((rowB 0 bids (best asks bids).2).map (·.2)) rowB_lt hb (best asks bids).1 h
  have e8 := fun s3 s4 s5 s6 a7 a8 a9 => k8q (callN F (k + 4)) (rowS asks (best asks bids).2) (fun x => x.1.2) (·.2) (some (.py (offs asks))) (some (.py (offs bids))) s3 s4 s5 s6 a7 a8 a9 h (Nat.le_trans (rowS_len _ _) ha)
  have e9 := fun s2 s4 s5 s6 a7 a8 a9 => k8p (callN F (k + 4)) (rowB 0 bids (best asks bids).2) (fun x => 0 - x.1.2) (·.2) (some (.py (offs asks))) (some (.py (offs bids))) s2 s4 s5 s6 a7 a8 a9 h (Nat.le_trans (rowB_len _ _ _) hb)
  simp only [runF, f_settled, b_settled, initS, ex, ev, evs, asg, asgs, R.bind_ok, List.map_cons, List.map_nil, List.cons_append, List.nil_append, List.length_cons, List.length_nil, List.getElem?_cons_zero, List.getElem?_cons_succ, List.replicate, List.set_cons_succ, List.set_cons_zero, if_true, Nat.reduceAdd, Nat.reduceSub,
    e1, e2, e3, e4 _ _ _ _ _ _ _ _ _ _ ha, e5 _ _ _ _ _ _ _ _ _ _ hb, biD, toPys, toPy, bi_rowS, bi_rowB, rO_some, e8, e9, e6, e7, mkTup, pys, leave_same, stl]
theorem sum_nonneg : ∀ {l : List Int}, (∀ x ∈ l, 0 ≤ x) → 0 ≤ l.sum
  | [], _ => by simp
  | x :: r, h => by
    have h1 := h x List.mem_cons_self
    have h2 := sum_nonneg (l := r) fun y hy => h y (List.mem_cons_of_mem _ hy)
    rw [List.sum_cons]
    omega
theorem sup_nonneg {os : List (Int × Int)} (v : ∀ o ∈ os, Val o) (p : Int) : 0 ≤ sup os p := by
  refine sum_nonneg fun x hx => ?_
  obtain ⟨o, ho, rfl⟩ := List.mem_map.mp hx
  have := v o (List.mem_filter.mp ho).1
  unfold Val at this
  omega
theorem dem_nonneg {os : List (Int × Int)} (v : ∀ o ∈ os, Val o) (p : Int) : 0 ≤ dem os p := by
  refine sum_nonneg fun x hx => ?_
  obtain ⟨o, ho, rfl⟩ := List.mem_map.mp hx
  have := v o (List.mem_filter.mp ho).1
  unfold Val at this
  omega
theorem lesser_nonneg {asks bids : List (Int × Int)} (va : ∀ o ∈ asks, Val o) (vb : ∀ o ∈ bids, Val o) (p : Int) : -1 < lesser asks bids p := by
  have h1 := sup_nonneg va p
  have h2 := dem_nonneg vb p
  unfold lesser mn
  split <;> omega
end Zl
namespace Zl
open PySem PySem.Spec PySem.W PyProof.Rows L2 Zm
theorem dr (k : Nat) {l : Nat} {h : AH} (hl : l < h.length) (r : AH) (x f m : Int) (m0 : 0 < m) (m1 : m < 1073741824) :
    ∃ g y, callN F (k + 1) i_law_draw [.obj l, .i m] (h.set l (PO x f) ++ r) = .ok (.i g) (h.set l (PO y f) ++ r) ∧ 0 ≤ g ∧ g < m := draw_at (F := F) (j := i_law_draw) rfl k hl r x f m m0 m1
theorem pickB {g1 g2 : Int} (a : 0 ≤ g1) (b : 0 ≤ g2) (c : g2 < 4) : ∃ n : Int, L2.atI [PyData.int 0, .int 500, .int 990, .int g1] g2 = some (.int n) ∧ 0 ≤ n := by
  obtain ⟨x, h1, h2⟩ := atI_draw (xs := [PyData.int 0, .int 500, .int 990, .int g1]) b (by simpa using c)
  simp only [List.mem_cons, List.not_mem_nil, or_false] at h2
  rcases h2 with e | e | e | e <;> subst e <;> exact ⟨_, h1, by omega⟩
theorem pickW {g : Int} (b : 0 ≤ g) (c : g < 4) : ∃ n : Int, L2.atI [PyData.int 1, .int 4, .int 30, .int 1000] g = some (.int n) ∧ 0 < n ∧ n < 1073741824 := by
  obtain ⟨x, h1, h2⟩ := atI_draw (xs := [PyData.int 1, .int 4, .int 30, .int 1000]) b (by simpa using c)
  simp only [List.mem_cons, List.not_mem_nil, or_false] at h2
  rcases h2 with e | e | e | e <;> subst e <;> exact ⟨_, h1, by omega, by omega⟩
theorem pickS {u v g : Int} (u0 : 0 ≤ u) (u1 : u < 99) (v0 : 0 ≤ v) (v1 : v < 9) (b : 0 ≤ g) (c : g < 4) : ∃ n : Int, L2.atI [PyData.int 1, .int 99, .int (1 + u), .int (1 + v)] g = some (.int n) ∧ 1 ≤ n ∧ n ≤ 99 := by
  obtain ⟨x, h1, h2⟩ := atI_draw (xs := [PyData.int 1, .int 99, .int (1 + u), .int (1 + v)]) b (by simpa using c)
  simp only [List.mem_cons, List.not_mem_nil, or_false] at h2
  rcases h2 with e | e | e | e <;> subst e <;> exact ⟨_, h1, by omega, by omega⟩
theorem pickN {os : List (Int × Int)} {g : Int} (b : 0 ≤ g) (c : g < os.length) : ∃ o : Int × Int, L2.atI (os.map pr) g = some (pr o) := by
  obtain ⟨x, h1, h2⟩ := atI_draw (xs := os.map pr) b (by simpa using c)
  obtain ⟨o, _, rfl⟩ := List.mem_map.mp h2
  exact ⟨o, h1⟩
/-- the size is drawn, the offer is put behind the others -/
theorem k12t (k : Nat) (near os : List (Int × Int)) (h : AH) (l : Nat) (hl : l < h.length) (y f base wide price : Int) (q3 : Option D) (p0 : 0 ≤ price) (p1 : price ≤ 999) (ho : os.length < 6) :
    ∃ y' o, ev (callN F (k + 1)) b_law_offers_0
      [some (.obj l), some (.py (offs near)), some (.obj h.length), q3, some (.i base), some (.i wide), some (.i price)] (h.set l (PO y f) ++ [.lst (os.map fun o => D.py (pr o))]) = .ok .non (h.set l (PO y' f) ++ [.lst ((os ++ [o]).map fun o => D.py (pr o))]) ∧ Val o := by
  obtain ⟨u, y1, e1, u0, u1⟩ := dr k hl [.lst (os.map fun o => D.py (pr o))] y f 99 (by decide) (by decide)
  obtain ⟨v, y2, e2, v0, v1⟩ := dr k hl [.lst (os.map fun o => D.py (pr o))] y1 f 9 (by decide) (by decide)
  obtain ⟨g, y3, e3, g0, g1⟩ := dr k hl [.lst (os.map fun o => D.py (pr o))] y2 f 4 (by decide) (by decide)
  obtain ⟨n, e4, n0, n1⟩ := pickS u0 u1 v0 v1 g0 g1
  have hlim : os.length < lim := by unfold lim; omega
  refine ⟨y3, (n, price), ?_, n0, n1, p0, p1⟩
  simp [b_law_offers_0, ev, evs, e1, e2, e3, e4, get_end2, set_end2, bin_add, pys, idxD, idxP, mkTup, metO, hlim]
  rfl
theorem k12b (k : Nat) (near os : List (Int × Int)) (hn : near.length ≤ 6) (h : AH) (l : Nat) (hl : l < h.length) (y f base wide : Int) (q3 q6 : Option D) (b0 : 0 ≤ base) (w0 : 0 < wide) (w1 : wide < 1073741824) (ho : os.length < 6) :
    ∃ y' o q, ex (callN F (k + 1)) b_law_offers_1 [some (.obj l), some (.py (offs near)), some (.obj h.length), q3, some (.i base), some (.i wide), q6] (h.set l (PO y f) ++ [.lst (os.map fun o => D.py (pr o))]) =
      .ok (.nx [some (.obj l), some (.py (offs near)), some (.obj h.length), q3, some (.i base), some (.i wide), q]) (h.set l (PO y' f) ++ [.lst ((os ++ [o]).map fun o => D.py (pr o))]) ∧ Val o := by
  obtain ⟨g1, y1, e1, a1, c1⟩ := dr k hl [.lst (os.map fun o => D.py (pr o))] y f wide w0 w1
  have hp : ∃ p, p = (if base + g1 < 999 then base + g1 else 999) ∧ 0 ≤ p ∧ p ≤ 999 := ⟨_, rfl, by split <;> omega, by split <;> omega⟩
  obtain ⟨p, ep, p0, p1⟩ := hp
  by_cases hz : near = []
  · subst hz
    obtain ⟨y', o, e, v⟩ := k12t k [] os h l hl y1 f base wide p q3 p0 p1 ho
    refine ⟨y', o, some (.i p), ?_, v⟩
    simp only [b_law_offers_1, ex, ev, evs, e, asg, R.bind_ok, List.getElem?_cons_zero, List.getElem?_cons_succ, List.set_cons_succ, List.set_cons_zero, e1, bin_add, rO_some, biD, toPys, toPy, bi_min2, ← ep, mkTup, pys, ne_nil, Option.map_some, List.isEmpty_nil, Bool.not_true]
  · obtain ⟨g2, y2, e2, a2, c2⟩ := dr k hl [.lst (os.map fun o => D.py (pr o))] y1 f 3 (by decide) (by decide)
    have hz2 : near.isEmpty = false := by cases near <;> simp_all
    by_cases hg : g2 = 0
    · have hlen : 0 < near.length := List.length_pos_iff.mpr hz
      obtain ⟨g3, y3, e3, a3, c3⟩ := dr k hl [.lst (os.map fun o => D.py (pr o))] y2 f (near.length : Nat) (by omega) (by omega)
      obtain ⟨g4, y4, e4, a4, c4⟩ := dr k hl [.lst (os.map fun o => D.py (pr o))] y3 f 3 (by decide) (by decide)
      obtain ⟨on, en⟩ := pickN a3 c3
      have hm : ∃ m, m = (if on.2 + g4 - 1 < 999 then on.2 + g4 - 1 else 999) ∧ m ≤ 999 := ⟨_, rfl, by split <;> omega⟩
      obtain ⟨m, em, m1⟩ := hm
      have hr : ∃ r, r = (if m > 0 then m else 0) ∧ 0 ≤ r ∧ r ≤ 999 := ⟨_, rfl, by split <;> omega, by split <;> omega⟩
      obtain ⟨r, er, r0, r1⟩ := hr
      obtain ⟨y', o, e, v⟩ := k12t k near os h l hl y4 f base wide r q3 r0 r1 ho
      refine ⟨y', o, some (.i r), ?_, v⟩
      simp only [b_law_offers_1, ex, ev, evs, e, asg, R.bind_ok, List.getElem?_cons_zero, List.getElem?_cons_succ, List.set_cons_succ, List.set_cons_zero, e1, e2, e3, e4, bin_add, bin_sub, rO_some, biD, toPys, toPy, bi_min2, bi_max2, len_offs, ← ep, mkTup, pys, ne_nil, hz2, Option.map_some, Bool.not_false, cmpD_int, cmp_eqI, decide_eq_true hg, idx_offs en, idx_pr1, ← em, ← er]
    · obtain ⟨y', o, e, v⟩ := k12t k near os h l hl y2 f base wide p q3 p0 p1 ho
      refine ⟨y', o, some (.i p), ?_, v⟩
      simp only [b_law_offers_1, ex, ev, evs, e, asg, R.bind_ok, List.getElem?_cons_zero, List.getElem?_cons_succ, List.set_cons_succ, List.set_cons_zero, e1, e2, bin_add, rO_some, biD, toPys, toPy, bi_min2, ← ep, mkTup, pys, ne_nil, hz2, Option.map_some, Bool.not_false, cmpD_int, cmp_eqI, decide_eq_false hg]
theorem k12l (k : Nat) (near : List (Int × Int)) (hn : near.length ≤ 6) (h : AH) (l : Nat) (hl : l < h.length) (y4 f base wide : Int) (b0 : 0 ≤ base) (w0 : 0 < wide) (w1 : wide < 1073741824) (n : Nat) (c4 : n < 7) :
    ∃ (y : Int) (os : List (Int × Int)) (q3 q6 : Option D), forL (asg (callN F (k + 1)) (.var 3)) (ex (callN F (k + 1)) b_law_offers_1) (okS ⟨rangeL 0 n, none⟩) (rangeL 0 n) [some (.obj l), some (.py (offs near)), some (.obj h.length), none, some (.i base), some (.i wide), none] (h.set l (PO y4 f) ++ [.lst []]) =
      .ok (.nx [some (.obj l), some (.py (offs near)), some (.obj h.length), q3, some (.i base), some (.i wide), q6]) (h.set l (PO y f) ++ [.lst (os.map fun o => D.py (pr o))]) ∧ os.length ≤ 6 ∧ ∀ o ∈ os, Val o := by
  have key := forL_inv (asg := asg (callN F (k + 1)) (.var 3)) (body := ex (callN F (k + 1)) b_law_offers_1) (ok := okS ⟨rangeL 0 n, none⟩)
    (fun j σ H => ∃ y os q3 q6, H = h.set l (PO y f) ++ [.lst (os.map fun o => D.py (pr o))] ∧ os.length = j ∧ (∀ o ∈ os, Val o) ∧ σ = [some (.obj l), some (.py (offs near)), some (.obj h.length), q3, some (.i base), some (.i wide), q6])
    (rangeL 0 n) 0 [some (.obj l), some (.py (offs near)), some (.obj h.length), none, some (.i base), some (.i wide), none] (h.set l (PO y4 f) ++ [.lst []])
    ⟨y4, [], none, none, rfl, rfl, (fun _ h => absurd h List.not_mem_nil), rfl⟩ (fun _ _ _ _ => okS_none _ _) (fun j z σ H hz hI => by
      obtain ⟨y, os, q3, q6, rfl, ho, hv, rfl⟩ := hI
      have hj : j < n := by
        have := (List.getElem?_eq_some_iff.mp hz).1
        rw [rangeL_map, List.length_map, List.length_range] at this
        exact this
      obtain ⟨y', o, q, e, v⟩ := k12b k near os hn h l hl y f base wide (some z) q6 b0 w0 w1 (by omega)
      have ea : asg (callN F (k + 1)) (.var 3) z [some (.obj l), some (.py (offs near)), some (.obj h.length), q3, some (.i base), some (.i wide), q6] (h.set l (PO y f) ++ [.lst (os.map fun o => D.py (pr o))]) = .ok [some (.obj l), some (.py (offs near)), some (.obj h.length), some z, some (.i base), some (.i wide), q6] (h.set l (PO y f) ++ [.lst (os.map fun o => D.py (pr o))]) := by simp only [asg, List.set_cons_succ, List.set_cons_zero]
      refine ⟨_, _, ea, _, _, e, y', os ++ [o], some z, q, rfl, by rw [List.length_append, List.length_singleton]; omega, ?_, rfl⟩
      intro u hu
      rcases List.mem_append.mp hu with hu | hu
      · exact hv u hu
      · rw [List.mem_singleton] at hu
        rw [hu]
        exact v)
  obtain ⟨σ', H', e5, y, os, q3, q6, rfl, ho, hv, rfl⟩ := key
  have hlen : os.length ≤ 6 := by
    rw [ho, rangeL_map, List.length_map, List.length_range]
    omega
  exact ⟨y, os, q3, q6, e5, hlen, hv⟩
theorem nat_lt7 {n : Nat} (h : (n : Int) < 7) : n < 7 := by omega
theorem c_law_offers (k : Nat) (near : List (Int × Int)) (hn : near.length ≤ 6) (h : AH) (l : Nat) (x f : Int) (hx : h[l]? = some (PO x f)) :
    ∃ y os, callN F (k + 2) i_law_offers [.obj l, .py (offs near)] h = .ok (.py (offs os)) (h.set l (PO y f)) ∧ os.length ≤ 6 ∧ ∀ o ∈ os, Val o := by
  rw [callN_succ F (k + 1) i_law_offers f_law_offers rfl]
  have hl := lt_of_get hx
  obtain ⟨g1, y1, e1, a1, c1⟩ := dr k hl [] x f 900 (by decide) (by decide)
  obtain ⟨g2, y2, e2, a2, c2⟩ := dr k hl [] y1 f 4 (by decide) (by decide)
  obtain ⟨g3, y3, e3, a3, c3⟩ := dr k hl [] y2 f 4 (by decide) (by decide)
  obtain ⟨g4, y4, e4, a4, c4⟩ := dr k hl [.lst []] y3 f 7 (by decide) (by decide)
  rw [set_back hx] at e1
  simp only [List.append_nil] at e1 e2 e3
  obtain ⟨base, eb, b0⟩ := pickB a1 a2 c2
  obtain ⟨wide, ew, w0, w1⟩ := pickW a3 c3
  obtain ⟨n, rfl⟩ := Int.eq_ofNat_of_zero_le a4
  have hn7 : n < 7 := nat_lt7 c4
  obtain ⟨y, os, q3, q6, e5, hlen, hv⟩ := k12l k near hn h l hl y4 f base wide b0 w0 w1 n hn7
  refine ⟨y, os, ?_, hlen, hv⟩
  have e6 : ex (callN F (k + 1)) b_law_offers_2 [some (.obj l), some (.py (offs near)), some (.obj h.length), none, some (.i base), some (.i wide), none] (h.set l (PO y3 f) ++ [.lst []]) = .ok (.nx [some (.obj l), some (.py (offs near)), some (.obj h.length), q3, some (.i base), some (.i wide), q6]) (h.set l (PO y f) ++ [.lst (os.map fun o => D.py (pr o))]) := by
    have e9 : evi (callN F (k + 1)) (.rng1 (.call i_law_draw (.cons (.var 0) (.cons (.lit (.int 7)) (.nil))))) [some (.obj l), some (.py (offs near)), some (.obj h.length), none, some (.i base), some (.i wide), none] (h.set l (PO y3 f) ++ [.lst []]) = .ok ⟨rangeL 0 n, none⟩ (h.set l (PO y4 f) ++ [.lst []]) :=
      evi_rng1 (by simp only [ev, evs, List.getElem?_cons_zero, R.bind_ok, e4]) (Nat.lt_trans hn7 (by decide))
    simp only [b_law_offers_2, ex, e9, R.bind_ok]
    exact e5
  have hls : (h.set l (PO y3 f)).length = h.length := List.length_set
  have e7 : leave .pure h (.py (offs os)) (h.set l (PO y f) ++ [.lst (os.map fun o => D.py (pr o))]) = .ok (.py (offs os)) (h.set l (PO y f)) := leave_chg (chg_set (PO_plain y f)) _
  have e8 : PyData.tuple (os.map pr) = offs os := rfl
  simp only [runF, f_law_offers, b_law_offers, initS, ex, ev, evs, asg, asgs, R.bind_ok, List.map_cons, List.map_nil, List.cons_append, List.nil_append, List.length_cons, List.length_nil, List.getElem?_cons_zero, List.getElem?_cons_succ, List.replicate, List.set_cons_succ, List.set_cons_zero, if_true, Nat.reduceAdd, Nat.reduceSub,
    e1, e2, e3, pys, idx_lst eb, idx_lst ew, rO_some, mkTup, hls, e6, biD, toPys, toPy, get_end2, pysF, bi_tupL, e8, e7]
/-! ### how great it may be -/
theorem sum_le {B : Int} : ∀ {l : List Int}, (∀ x ∈ l, x ≤ B) → l.sum ≤ B * l.length
  | [], _ => by simp
  | x :: r, h => by
    have h1 := h x List.mem_cons_self
    have h2 := sum_le (l := r) fun y hy => h y (List.mem_cons_of_mem _ hy)
    rw [List.sum_cons, List.length_cons]
    push_cast
    rw [Int.mul_add]
    omega
theorem sup_le {os : List (Int × Int)} (v : ∀ o ∈ os, Val o) (hl : os.length ≤ 6) (p : Int) : sup os p ≤ 594 := by
  unfold sup
  have h1 : ∀ x ∈ (os.filter fun o => decide (o.2 ≤ p)).map (·.1), x ≤ 99 := fun x hx => by
    obtain ⟨o, ho, rfl⟩ := List.mem_map.mp hx
    have := v o (List.mem_filter.mp ho).1
    unfold Val at this
    omega
  have h2 := sum_le h1
  have h3 := List.length_filter_le (fun o : Int × Int => decide (o.2 ≤ p)) os
  rw [List.length_map] at h2
  omega
theorem lesser_le {asks bids : List (Int × Int)} (va : ∀ o ∈ asks, Val o) (ha : asks.length ≤ 6) (p : Int) : lesser asks bids p ≤ 594 := by
  have := sup_le va ha p
  unfold lesser mn
  split <;> omega
theorem best_bounds {asks bids : List (Int × Int)} (va : ∀ o ∈ asks, Val o) (ha : asks.length ≤ 6) : -1 ≤ (best asks bids).1 ∧ (best asks bids).1 ≤ 594 ∧ 0 ≤ (best asks bids).2 ∧ (best asks bids).2 ≤ 999 := by
  have key : ∀ (l : List Nat) (b : Int × Int), (∀ i ∈ l, i < 1000) → (-1 ≤ b.1 ∧ b.1 ≤ 594 ∧ 0 ≤ b.2 ∧ b.2 ≤ 999) → (-1 ≤ (l.foldl (fun b i => bstep asks bids b (i : Nat)) b).1 ∧ (l.foldl (fun b i => bstep asks bids b (i : Nat)) b).1 ≤ 594 ∧ 0 ≤ (l.foldl (fun b i => bstep asks bids b (i : Nat)) b).2 ∧ (l.foldl (fun b i => bstep asks bids b (i : Nat)) b).2 ≤ 999) := by
    intro l
    induction l with
    | nil => intro b _ h; exact h
    | cons i r ih =>
      intro b hi h
      refine ih _ (fun j hj => hi j (List.mem_cons_of_mem _ hj)) ?_
      have h1 := hi i List.mem_cons_self
      have h2 := lesser_le (bids := bids) va ha (i : Nat)
      show _ ≤ (bstep asks bids b (i : Nat)).1 ∧ (bstep asks bids b (i : Nat)).1 ≤ _ ∧ _ ≤ (bstep asks bids b (i : Nat)).2 ∧ (bstep asks bids b (i : Nat)).2 ≤ _
      by_cases c : b.1 < lesser asks bids (i : Nat)
      · have e : bstep asks bids b (i : Nat) = (lesser asks bids (i : Nat), (i : Int)) := by simp [bstep, c]
        rw [e]
        simp only
        omega
      · have e : bstep asks bids b (i : Nat) = b := by simp [bstep, c]
        rw [e]
        exact h
  exact key _ _ (fun i hi => List.mem_range.mp hi) (by decide)
theorem fil_bounds {os : List (Int × Int)} (v : ∀ o ∈ os, Val o) (order : List Nat) (w : Int) (hw : -1 ≤ w) : (∀ x ∈ fil os order w, -1 ≤ x ∧ x ≤ 99) ∧ (fil os order w).length = os.length := by
  have key : ∀ (l : List Nat) (s : List Int × Int), (-1 ≤ s.2 ∧ (∀ x ∈ s.1, -1 ≤ x ∧ x ≤ 99) ∧ s.1.length = os.length) → (-1 ≤ (l.foldl (fstep os) s).2 ∧ (∀ x ∈ (l.foldl (fstep os) s).1, -1 ≤ x ∧ x ≤ 99) ∧ (l.foldl (fstep os) s).1.length = os.length) := by
    intro l
    induction l with
    | nil => intro s h; exact h
    | cons i r ih =>
      intro s h
      refine ih _ ?_
      have hs : 0 ≤ (os.getD i (0, 0)).1 ∧ (os.getD i (0, 0)).1 ≤ 99 := by
        by_cases hi : i < os.length
        · have e : os.getD i (0, 0) = os[i] := by simp [hi]
          have := v _ (List.getElem_mem hi)
          unfold Val at this
          rw [e]
          omega
        · have e : os.getD i (0, 0) = (0, 0) := by simp [hi]
          rw [e]
          decide
      obtain ⟨h1, h2, h3⟩ := h
      refine ⟨?_, ?_, by rw [fstep_len]; exact h3⟩
      · unfold fstep mn
        simp only
        split <;> omega
      · intro x hx
        unfold fstep at hx
        rcases List.mem_or_eq_of_mem_set hx with e | e
        · exact h2 x e
        · rw [e]
          unfold mn
          split <;> omega
  have := key order (os.map fun _ => 0, w) ⟨hw, fun x hx => by
    obtain ⟨_, _, rfl⟩ := List.mem_map.mp hx
    decide, by simp⟩
  exact ⟨this.2.1, this.2.2⟩
theorem Rp_pr {o : Int × Int} (v : Val o) : Rp (pr o) 1 29 := by
  obtain ⟨h1, h2, h3, h4⟩ := v
  refine Rp.tuple (n := 11) (fun p hp => ?_) (by simp)
  simp only [List.mem_cons, List.not_mem_nil, or_false] at hp
  rcases hp with e | e <;> subst e <;> exact Rp.int (by omega) (by omega)
theorem Rp_offs {os : List (Int × Int)} (v : ∀ o ∈ os, Val o) (hl : os.length ≤ 6) : Rp (offs os) 2 189 := by
  refine Rp.tuple (n := 29) (fun p hp => ?_) (by rw [List.length_map]; omega)
  obtain ⟨o, ho, rfl⟩ := List.mem_map.mp hp
  exact Rp_pr (v o ho)
theorem Rp_two {p q : PyData} {d n : Nat} (hp : Rp p d n) (hq : Rp q d n) : Rp (.tuple [p, q]) (d + 1) ((n + 2) * 2 + 3) := by
  refine Rp.tuple (n := n) (fun r hr => ?_) (by simp)
  simp only [List.mem_cons, List.not_mem_nil, or_false] at hr
  rcases hr with e | e <;> subst e <;> assumption
theorem Rp_ints {ms : List Int} (h : ∀ x ∈ ms, -1 ≤ x ∧ x ≤ 99) (hl : ms.length ≤ 6) : Rp (.tuple (ms.map .int)) 1 81 := by
  refine Rp.tuple (n := 11) (fun p hp => ?_) (by rw [List.length_map]; omega)
  obtain ⟨x, hx, rfl⟩ := List.mem_map.mp hp
  have := h x hx
  exact Rp.int (by omega) (by omega)
theorem Rp_stl {asks bids : List (Int × Int)} (va : ∀ o ∈ asks, Val o) (vb : ∀ o ∈ bids, Val o) (ha : asks.length ≤ 6) (hb : bids.length ≤ 6) : Rp (stl asks bids (best asks bids)) 2 400 := by
  obtain ⟨h1, h2, h3, h4⟩ := best_bounds (bids := bids) va ha
  have f1 := fil_bounds va ((rowS asks (best asks bids).2).map (·.2)) _ h1
  have f2 := fil_bounds vb ((rowB 0 bids (best asks bids).2).map (·.2)) _ h1
  refine Rp.tuple (n := 81) (fun p hp => ?_) (by simp)
  simp only [List.mem_cons, List.not_mem_nil, or_false] at hp
  rcases hp with e | e | e | e <;> subst e
  · exact (Rp.int (by omega) (by omega)).mono (by decide) (by decide)
  · exact (Rp.int (by omega) (by omega)).mono (by decide) (by decide)
  · exact Rp_ints f1.1 (by rw [f1.2]; exact ha)
  · exact Rp_ints f2.1 (by rw [f2.2]; exact hb)
end Zl
namespace Zl
open PySem PySem.Spec PySem.W PyProof.Rows L2 Zm
/-! the best price, in plain words -/
theorem best_spec {asks bids : List (Int × Int)} (va : ∀ o ∈ asks, Val o) (vb : ∀ o ∈ bids, Val o) :
    lesser asks bids (best asks bids).2 = (best asks bids).1 ∧ 0 ≤ (best asks bids).2 ∧ (best asks bids).2 ≤ 999 ∧ (∀ q : Int, 0 ≤ q → q ≤ 999 → lesser asks bids q ≤ (best asks bids).1) ∧ (∀ q : Int, 0 ≤ q → q < (best asks bids).2 → lesser asks bids q < (best asks bids).1) := by
  have e1 : best asks bids = ((List.range 1000).map fun i : Nat => (i : Int)).foldl (gstep (lesser asks bids)) (-1, 0) := by
    rw [List.foldl_map]
    rfl
  have e2 : (List.range 1000).map (fun i : Nat => (i : Int)) = 0 :: (List.range 999).map fun i : Nat => ((i : Int) + 1) := by
    rw [List.range_succ_eq_map, List.map_cons, List.map_map]
    congr 1
  have h0 := lesser_nonneg va vb 0
  have e3 : gstep (lesser asks bids) (-1, 0) 0 = (lesser asks bids 0, 0) := by simp [gstep, h0]
  have hmem : ∀ q : Int, q ∈ (List.range 999).map (fun i : Nat => ((i : Int) + 1)) ↔ 0 < q ∧ q ≤ 999 := fun q => by
    rw [List.mem_map]
    constructor
    · rintro ⟨i, hi, rfl⟩
      rw [List.mem_range] at hi
      omega
    · intro hq
      exact ⟨(q - 1).toNat, List.mem_range.mpr (by omega), by omega⟩
  have hpw : ((List.range 999).map fun i : Nat => ((i : Int) + 1)).Pairwise (· < ·) := by
    rw [List.pairwise_map]
    exact List.pairwise_lt_range.imp fun h => by omega
  obtain ⟨w, p, h1, h2, h3, h4, h5, h6, h7⟩ := fold_max (lesser asks bids) _ (lesser asks bids 0, 0) rfl (fun q hq => ((hmem q).mp hq).1) hpw
  rw [e1, e2, List.foldl_cons, e3, h1]
  refine ⟨h3, ?_, ?_, fun q q0 q1 => ?_, fun q q0 q1 => ?_⟩
  · rcases h2 with e | e
    · simp only at e ⊢; omega
    · have := (hmem p).mp e; simp only; omega
  · rcases h2 with e | e
    · simp only at e ⊢; omega
    · have := (hmem p).mp e; simp only; omega
  · by_cases hq : q = 0
    · rw [hq]; exact h4
    · exact h5 q ((hmem q).mpr ⟨by omega, q1⟩)
  · by_cases hq : q = 0
    · subst hq; exact h7 q1
    · refine h6 q ((hmem q).mpr ⟨by omega, ?_⟩) q1
      rcases h2 with e | e
      · simp only at e q1; omega
      · have := (hmem p).mp e; simp only at q1; omega
theorem mn_le {a b : Int} : mn a b ≤ a ∧ mn a b ≤ b := by unfold mn; split <;> omega
theorem sup_mono {os : List (Int × Int)} (v : ∀ o ∈ os, Val o) {p q : Int} (h : p ≤ q) : sup os p ≤ sup os q := by
  unfold sup
  induction os with
  | nil => simp
  | cons o r ih =>
    have ih := ih fun x hx => v x (List.mem_cons_of_mem _ hx)
    have hv := (v o List.mem_cons_self).1
    rw [List.filter_cons, List.filter_cons]
    by_cases c1 : o.2 ≤ p
    · have c2 : o.2 ≤ q := by omega
      simp only [c1, c2, decide_true, if_true, List.map_cons, List.sum_cons]
      omega
    · by_cases c2 : o.2 ≤ q
      · simp only [c1, c2, decide_true, decide_false, if_true, if_false, Bool.false_eq_true, List.map_cons, List.sum_cons]
        omega
      · simp only [c1, c2, decide_false, if_false, Bool.false_eq_true]
        exact ih
theorem dem_anti {os : List (Int × Int)} (v : ∀ o ∈ os, Val o) {p q : Int} (h : p ≤ q) : dem os q ≤ dem os p := by
  unfold dem
  induction os with
  | nil => simp
  | cons o r ih =>
    have ih := ih fun x hx => v x (List.mem_cons_of_mem _ hx)
    have hv := (v o List.mem_cons_self).1
    rw [List.filter_cons, List.filter_cons]
    by_cases c1 : q ≤ o.2
    · have c2 : p ≤ o.2 := by omega
      simp only [c1, c2, decide_true, if_true, List.map_cons, List.sum_cons]
      omega
    · by_cases c2 : p ≤ o.2
      · simp only [c1, c2, decide_true, decide_false, if_true, if_false, Bool.false_eq_true, List.map_cons, List.sum_cons]
        omega
      · simp only [c1, c2, decide_false, if_false, Bool.false_eq_true]
        exact ih
theorem sum_app : ∀ (a b : List Int), (a ++ b).sum = a.sum + b.sum
  | [], b => by simp
  | x :: a, b => by
    rw [List.cons_append, List.sum_cons, List.sum_cons, sum_app a b]
    omega
theorem sum_rev : ∀ (a : List Int), a.reverse.sum = a.sum
  | [] => rfl
  | x :: a => by
    rw [List.reverse_cons, sum_app, sum_rev a, List.sum_cons]
    simp
    omega
theorem sum_perm {a b : List Int} (h : a.Perm b) : a.sum = b.sum := by
  induction h with
  | nil => rfl
  | cons x _ ih => rw [List.sum_cons, List.sum_cons, ih]
  | swap x y l =>
    simp only [List.sum_cons]
    omega
  | trans _ _ h1 h2 => rw [h1, h2]
theorem best_rev (asks bids : List (Int × Int)) : best asks.reverse bids.reverse = best asks bids := by
  have e1 : ∀ p, sup asks.reverse p = sup asks p := fun p => by
    unfold sup
    rw [List.filter_reverse, List.map_reverse, sum_rev]
  have e2 : ∀ p, dem bids.reverse p = dem bids p := fun p => by
    unfold dem
    rw [List.filter_reverse, List.map_reverse, sum_rev]
  have e3 : lesser asks.reverse bids.reverse = lesser asks bids := by
    funext p
    unfold lesser
    rw [e1, e2]
  unfold best
  have e4 : bstep asks.reverse bids.reverse = bstep asks bids := by
    funext b p
    unfold bstep
    rw [e3]
  rw [e4]
/-! what is filled -/
theorem sum_set0 : ∀ (l : List Int) (i : Nat) (m : Int), l[i]? = some 0 → (l.set i m).sum = l.sum + m
  | [], i, m, h => by simp at h
  | x :: l, 0, m, h => by
    simp only [List.getElem?_cons_zero, Option.some.injEq] at h
    subst h
    rw [List.set_cons_zero, List.sum_cons, List.sum_cons]
    omega
  | x :: l, i + 1, m, h => by
    rw [List.set_cons_succ, List.sum_cons, List.sum_cons, sum_set0 l i m (by simpa using h)]
    omega
def szs (os : List (Int × Int)) (order : List Nat) : Int := (order.map fun i => (os.getD i (0, 0)).1).sum
theorem szs_nn {os : List (Int × Int)} (v : ∀ o ∈ os, Val o) {order : List Nat} (h : ∀ i ∈ order, i < os.length) : 0 ≤ szs os order := by
  refine sum_nonneg fun x hx => ?_
  obtain ⟨i, hi, rfl⟩ := List.mem_map.mp hx
  have hl := h i hi
  have := (v os[i] (List.getElem_mem hl)).1
  have e : os.getD i (0, 0) = os[i] := by simp [hl]
  rw [e]
  omega
theorem fil_go {os : List (Int × Int)} (v : ∀ o ∈ os, Val o) : ∀ (order : List Nat) (l : List Int) (w : Int), order.Nodup → (∀ i ∈ order, i < os.length ∧ l[i]? = some 0) → l.length = os.length → 0 ≤ w →
    (order.foldl (fstep os) (l, w)).1.length = os.length ∧ (∀ i, i ∉ order → (order.foldl (fstep os) (l, w)).1[i]? = l[i]?) ∧ (∀ i ∈ order, ∃ x, (order.foldl (fstep os) (l, w)).1[i]? = some x ∧ 0 ≤ x ∧ x ≤ (os.getD i (0, 0)).1) ∧ (order.foldl (fstep os) (l, w)).1.sum = l.sum + mn w (szs os order)
  | [], l, w, _, _, hl, hw => by
    refine ⟨hl, fun i _ => rfl, fun i hi => absurd hi List.not_mem_nil, ?_⟩
    show l.sum = l.sum + mn w 0
    unfold mn
    split <;> omega
  | i :: t, l, w, hn, ho, hl, hw => by
    obtain ⟨hi, hn2⟩ := List.nodup_cons.mp hn
    obtain ⟨h1, h2⟩ := ho i List.mem_cons_self
    have hs : 1 ≤ (os.getD i (0, 0)).1 := by
      have e : os.getD i (0, 0) = os[i] := by simp [h1]
      rw [e]
      exact (v os[i] (List.getElem_mem h1)).1
    obtain ⟨m, hm⟩ : ∃ m, m = mn (os.getD i (0, 0)).1 w := ⟨_, rfl⟩
    have m1 : 0 ≤ m ∧ m ≤ w ∧ m ≤ (os.getD i (0, 0)).1 := by
      rw [hm]
      unfold mn
      split <;> omega
    have e : fstep os (l, w) i = (l.set i m, w - m) := by rw [hm]; rfl
    rw [List.foldl_cons, e]
    have tn := szs_nn v (order := t) fun j hj => (ho j (List.mem_cons_of_mem _ hj)).1
    obtain ⟨g1, g2, g3, g4⟩ := fil_go v t (l.set i m) (w - m) hn2 (fun j hj => by
      obtain ⟨j1, j2⟩ := ho j (List.mem_cons_of_mem _ hj)
      refine ⟨j1, ?_⟩
      rw [List.getElem?_set_ne fun z => hi (by rw [z]; exact hj)]
      exact j2) (by rw [List.length_set]; exact hl) (by omega)
    refine ⟨g1, fun j hj => ?_, fun j hj => ?_, ?_⟩
    · rw [g2 j fun z => hj (List.mem_cons_of_mem _ z), List.getElem?_set_ne fun z => hj (by rw [← z]; exact List.mem_cons_self)]
    · rcases List.mem_cons.mp hj with q | q
      · subst q
        refine ⟨m, ?_, m1.1, m1.2.2⟩
        rw [g2 j hi, List.getElem?_set_self (by omega)]
      · exact g3 j q
    · rw [g4, sum_set0 l i m h2]
      have es : szs os (i :: t) = (os.getD i (0, 0)).1 + szs os t := by unfold szs; rw [List.map_cons, List.sum_cons]
      rw [es, hm]
      unfold mn
      split <;> split <;> split <;> omega
theorem zip_at {α β : Type} : ∀ {a : List α} {b : List β} {x : α × β}, x ∈ a.zip b → ∃ i : Nat, a[i]? = some x.1 ∧ b[i]? = some x.2
  | [], _, _, h => by simp at h
  | _ :: _, [], _, h => by simp at h
  | u :: a, w :: b, x, h => by
    rw [List.zip_cons_cons] at h
    rcases List.mem_cons.mp h with q | q
    · subst q
      exact ⟨0, rfl, rfl⟩
    · obtain ⟨i, h1, h2⟩ := zip_at q
      exact ⟨i + 1, by simpa using h1, by simpa using h2⟩
theorem zidx_fst {α : Type} (q : α → Bool) : ∀ (os : List α) (k : Nat), ((os.zipIdx k).filter fun x => q x.1).map (·.1) = os.filter q
  | [], _ => rfl
  | o :: r, k => by
    rw [List.zipIdx_cons, List.filter_cons, List.filter_cons]
    by_cases h : q o = true
    · simp only [h, if_true, List.map_cons, zidx_fst q r (k + 1)]
    · simp only [h, if_false, Bool.false_eq_true, zidx_fst q r (k + 1)]
theorem zidx_nd {α : Type} (os : List α) (k : Nat) : ((os.zipIdx k).map (·.2)).Nodup := by
  have e : (os.zipIdx k).map (·.2) = List.range' k os.length := by simp
  rw [e]
  exact List.nodup_range'
theorem zidx_at {os : List (Int × Int)} {x : (Int × Int) × Nat} (h : x ∈ os.zipIdx) : os[x.2]? = some x.1 := by
  have := List.mem_zipIdx_iff_getElem?.mp h
  simpa using this
/-- an order of all places of a kind -/
structure Ord (os : List (Int × Int)) (q : Int × Int → Bool) (order : List Nat) : Prop where
  nd : order.Nodup
  lt : ∀ i ∈ order, i < os.length
  ok : ∀ i ∈ order, ∃ o, os[i]? = some o ∧ q o = true
  sz : szs os order = ((os.filter q).map (·.1)).sum
theorem ord_of {os : List (Int × Int)} {q : Int × Int → Bool} {r : List ((Int × Int) × Nat)} (h : r.Perm (os.zipIdx.filter fun x => q x.1)) : Ord os q (r.map (·.2)) := by
  have hm : ∀ x ∈ r, os[x.2]? = some x.1 ∧ q x.1 = true := fun x hx => by
    have := List.mem_filter.mp (h.mem_iff.mp hx)
    exact ⟨zidx_at this.1, this.2⟩
  refine ⟨?_, fun i hi => ?_, fun i hi => ?_, ?_⟩
  · refine (h.map (·.2)).nodup_iff.mpr ?_
    exact (zidx_nd os 0).sublist (List.filter_sublist.map _)
  · obtain ⟨x, hx, rfl⟩ := List.mem_map.mp hi
    exact (List.getElem?_eq_some_iff.mp (hm x hx).1).1
  · obtain ⟨x, hx, rfl⟩ := List.mem_map.mp hi
    exact ⟨x.1, hm x hx⟩
  · have e1 : (r.map (·.2)).map (fun i => (os.getD i (0, 0)).1) = r.map fun x => x.1.1 := by
      rw [List.map_map]
      refine List.map_congr_left fun x hx => ?_
      have e := (hm x hx).1
      show (os.getD x.2 (0, 0)).1 = x.1.1
      rw [List.getD_eq_getElem?_getD, e]
      rfl
    unfold szs
    rw [e1, sum_perm (h.map fun x => x.1.1), ← zidx_fst q os 0, List.map_map]
    rfl
theorem ordS (os : List (Int × Int)) (p : Int) : Ord os (fun o => decide (o.2 ≤ p)) ((rowS os p).map (·.2)) := ord_of (List.mergeSort_perm _ _)
theorem ordB (os : List (Int × Int)) (p : Int) : Ord os (fun o => decide (p ≤ o.2)) ((rowB 0 os p).map (·.2)) := ord_of (List.mergeSort_perm _ _)
/-- what is filled in such an order -/
theorem fil_spec {os : List (Int × Int)} (v : ∀ o ∈ os, Val o) {q : Int × Int → Bool} {order : List Nat} (d : Ord os q order) {w : Int} (hw : 0 ≤ w) :
    (fil os order w).length = os.length ∧ (∀ x ∈ (fil os order w).zip os, 0 ≤ x.1 ∧ x.1 ≤ x.2.1 ∧ (0 < x.1 → q x.2 = true)) ∧ (fil os order w).sum = mn w ((os.filter q).map (·.1)).sum := by
  obtain ⟨g1, g2, g3, g4⟩ := fil_go v order (os.map fun _ => 0) w d.nd (fun i hi => ⟨d.lt i hi, by
    have := d.lt i hi
    rw [List.getElem?_map, List.getElem?_eq_getElem this]
    rfl⟩) (by simp) hw
  have z : (os.map fun _ => (0 : Int)).sum = 0 := by
    clear g1 g2 g3 g4 d v
    induction os with
    | nil => rfl
    | cons o r ih => rw [List.map_cons, List.sum_cons, ih]; rfl
  refine ⟨g1, fun x hx => ?_, by unfold fil; rw [g4, z, d.sz]; omega⟩
  obtain ⟨i, h1, h2⟩ := zip_at hx
  unfold fil at h1
  by_cases hi : i ∈ order
  · obtain ⟨y, y1, y2, y3⟩ := g3 i hi
    rw [y1] at h1
    cases h1
    obtain ⟨o, o1, o2⟩ := d.ok i hi
    rw [o1] at h2
    cases h2
    rw [List.getD_eq_getElem?_getD, o1] at y3
    exact ⟨y2, y3, fun _ => o2⟩
  · rw [g2 i hi, List.getElem?_map, h2] at h1
    simp only [Option.map_some, Option.some.injEq] at h1
    have hv := (v x.2 (List.mem_of_getElem? h2)).1
    exact ⟨by omega, by omega, fun h => by omega⟩
/-- sums of parts are no more than of the whole -/
theorem part_sum {q : Int × Int → Bool} : ∀ {ns : List Int} {os : List (Int × Int)}, ns.length = os.length → (∀ o ∈ os, Val o) → (∀ x ∈ ns.zip os, 0 ≤ x.1 ∧ x.1 ≤ x.2.1 ∧ (0 < x.1 → q x.2 = true)) → ns.sum ≤ ((os.filter q).map (·.1)).sum
  | [], [], _, _, _ => by simp
  | n :: ns, o :: os, hl, v, h => by
    have ih := part_sum (ns := ns) (os := os) (by simpa using hl) (fun x hx => v x (List.mem_cons_of_mem _ hx)) fun x hx => h x (by rw [List.zip_cons_cons]; exact List.mem_cons_of_mem _ hx)
    have h1 := h (n, o) (by rw [List.zip_cons_cons]; exact List.mem_cons_self)
    simp only at h1
    rw [List.filter_cons, List.sum_cons]
    by_cases c : q o = true
    · simp only [c, if_true, List.map_cons, List.sum_cons]
      omega
    · have : ¬ 0 < n := fun z => c (h1.2.2 z)
      simp only [c, if_false, Bool.false_eq_true]
      omega
  | [], _ :: _, hl, _, _ => by simp at hl
  | _ :: _, [], hl, _, _ => by simp at hl
/-- such parts clear, if their sums are alike -/
theorem gd_parts {asks bids : List (Int × Int)} {ns ms : List Int} {p : Int} (p0 : 0 ≤ p) (p1 : p ≤ 999) (ha : ns.length = asks.length) (hb : ms.length = bids.length)
    (h1 : ∀ x ∈ ns.zip asks, 0 ≤ x.1 ∧ x.1 ≤ x.2.1 ∧ (0 < x.1 → decide (x.2.2 ≤ p) = true)) (h2 : ∀ x ∈ ms.zip bids, 0 ≤ x.1 ∧ x.1 ≤ x.2.1 ∧ (0 < x.1 → decide (p ≤ x.2.2) = true)) :
    gd asks bids (.tuple [.int p, .tuple (ns.map .int), .tuple (ms.map .int)]) = decide (ns.sum = ms.sum) := by
  have m1 := mv_of ha fun x hx => ⟨(h1 x hx).1, (h1 x hx).2.1⟩
  have m2 := mv_of hb fun x hx => ⟨(h2 x hx).1, (h2 x hx).2.1⟩
  have d1 : dearB p ns asks = false := by
    unfold dearB
    rw [List.any_eq_false]
    intro x hx hh
    rw [Bool.and_eq_true, decide_eq_true_eq, decide_eq_true_eq] at hh
    have := of_decide_eq_true ((h1 x hx).2.2 hh.1)
    omega
  have d2 : cheapB p ms bids = false := by
    unfold cheapB
    rw [List.any_eq_false]
    intro x hx hh
    rw [Bool.and_eq_true, decide_eq_true_eq, decide_eq_true_eq] at hh
    have := of_decide_eq_true ((h2 x hx).2.2 hh.1)
    omega
  have w0 : wi (.int p) 0 999 = true := by simp [wi, p0, p1]
  simp only [gd, w0, m1, m2, intL_ints, Bool.true_and, gdI, d1, d2, Bool.not_false, Bool.and_true]
/-! bars -/
def lowB (asks : List (Int × Int)) (q : Int) : Int := if q < 0 then 0 else sup asks q
def highB (bids : List (Int × Int)) (q : Int) : Int := if 999 ≤ q then 0 else dem bids (q + 1)
def isb (asks bids : List (Int × Int)) (w q : Int) : Bool := decide (lowB asks q ≤ w) && decide (highB bids q ≤ w)
theorem mn_or {a b w : Int} (h : mn a b ≤ w) (h2 : w < a) : b ≤ w := by unfold mn at h; split at h <;> omega
theorem bar_there {asks bids : List (Int × Int)} {w : Int} (h0 : 0 ≤ w) (hw : ∀ q : Int, 0 ≤ q → q ≤ 999 → lesser asks bids q ≤ w) : ∃ n : Nat, n < 1001 ∧ isb asks bids w (-1 + (n : Nat)) = true := by
  have key : ∀ n : Nat, (∃ m : Nat, m < n ∧ lowB asks (-1 + (m : Nat)) ≤ w ∧ w < lowB asks (-1 + ((m + 1 : Nat) : Int))) ∨ lowB asks (-1 + (n : Nat)) ≤ w := by
    intro n
    induction n with
    | zero => exact .inr (by simpa [lowB] using h0)
    | succ n ih =>
      rcases ih with ⟨m, m1, m2⟩ | ih
      · exact .inl ⟨m, by omega, m2⟩
      · by_cases c : w < lowB asks (-1 + ((n + 1 : Nat) : Int))
        · exact .inl ⟨n, by omega, ih, c⟩
        · exact .inr (by omega)
  rcases key 1000 with ⟨m, m1, m2, m3⟩ | h
  · refine ⟨m, by omega, ?_⟩
    have e1 : lowB asks (-1 + ((m + 1 : Nat) : Int)) = sup asks (m : Nat) := by
      unfold lowB
      rw [if_neg (by omega)]
      congr 1
      omega
    rw [e1] at m3
    have h1 := mn_or (hw (m : Nat) (by omega) (by omega)) m3
    have e2 : highB bids (-1 + (m : Nat)) = dem bids (m : Nat) := by
      unfold highB
      rw [if_neg (by omega)]
      congr 1
      omega
    unfold isb
    rw [e2, decide_eq_true m2, decide_eq_true h1]
    rfl
  · refine ⟨1000, by omega, ?_⟩
    have e2 : highB bids (-1 + ((1000 : Nat) : Int)) = 0 := by
      unfold highB
      rw [if_pos (by omega)]
    unfold isb
    rw [e2, decide_eq_true h, decide_eq_true h0]
    rfl
/-- no bar shows less than what clears -/
theorem bar_less {asks bids : List (Int × Int)} (va : ∀ o ∈ asks, Val o) (vb : ∀ o ∈ bids, Val o) {w p q : Int} (hp0 : 0 ≤ p) (hp1 : p ≤ 999) (hp : lesser asks bids p = w) : isb asks bids (w - 1) q = false := by
  unfold isb
  rw [Bool.and_eq_false_iff, decide_eq_false_iff_not, decide_eq_false_iff_not]
  have h := mn_le (a := sup asks p) (b := dem bids p)
  have h' : mn (sup asks p) (dem bids p) = w := hp
  by_cases c : p ≤ q
  · left
    unfold lowB
    rw [if_neg (by omega)]
    have := sup_mono va c
    omega
  · right
    unfold highB
    rw [if_neg (by omega)]
    have := dem_anti vb (show q + 1 ≤ p by omega)
    omega
end Zl
namespace Zl
open PySem PySem.Spec PySem.W PyProof.Rows L2 Zm
/-! supply, demand, bars -/
theorem c_need_price (k : Nat) (p : Int) (p0 : 0 ≤ p) (p1 : p ≤ 999) (h : AH) : callN F (k + 2) i_need_price [.i p] h = .ok .non h := by
  rw [callN_succ F (k + 1) i_need_price f_need_price rfl]
  have e := c_is_within k (.int p) 0 999 h
  have w : wi (.int p) 0 999 = true := by simp [wi, p0, p1]
  rw [w] at e
  simp [runF, f_need_price, b_need_price, initS, ex, ev, evs, e, leave_same]
theorem c_supply (k : Nat) (os : List (Int × Int)) (v : ∀ o ∈ os, Val o) (hl : os.length ≤ 6) (p : Int) (p0 : 0 ≤ p) (p1 : p ≤ 999) (h : AH) : callN F (k + 5) i_supply [.py (offs os), .i p] h = .ok (.i (sup os p)) h := by
  rw [callN_succ F (k + 4) i_supply f_supply rfl]
  have e1 := c_need_offers k os v hl h
  have e2 := c_need_price (k + 2) p p0 p1 h
  have e3 := c_supply_at (k + 3) os p hl h
  simp [runF, f_supply, b_supply, initS, ex, ev, evs, e1, e2, e3, leave_same]
theorem c_demand (k : Nat) (os : List (Int × Int)) (v : ∀ o ∈ os, Val o) (hl : os.length ≤ 6) (p : Int) (p0 : 0 ≤ p) (p1 : p ≤ 999) (h : AH) : callN F (k + 5) i_demand [.py (offs os), .i p] h = .ok (.i (dem os p)) h := by
  rw [callN_succ F (k + 4) i_demand f_demand rfl]
  have e1 := c_need_offers k os v hl h
  have e2 := c_need_price (k + 2) p p0 p1 h
  have e3 := c_demand_at (k + 3) os p hl h
  simp [runF, f_demand, b_demand, initS, ex, ev, evs, e1, e2, e3, leave_same]
theorem c_is_bar (k : Nat) (asks bids : List (Int × Int)) (ha : asks.length ≤ 6) (hb : bids.length ≤ 6) (w q : Int) (h : AH) : callN F (k + 2) i_is_bar [.py (offs asks), .py (offs bids), .i w, .i q] h = .ok (.b (isb asks bids w q)) h := by
  rw [callN_succ F (k + 1) i_is_bar f_is_bar rfl]
  have e1 := c_supply_at k asks q ha h
  have e2 := c_demand_at k bids (q + 1) hb h
  by_cases c1 : q < 0
  · have c2 : ¬ 999 ≤ q := by omega
    by_cases c3 : 0 ≤ w
    · simp [runF, f_is_bar, b_is_bar, initS, ex, ev, evs, asg, cmpD_int, cmp_ltI, cmp_geI, cmp_leI, c1, c2, c3, bin_add, e2, leave_same, isb, lowB, highB]
    · simp [runF, f_is_bar, b_is_bar, initS, ex, ev, evs, asg, cmpD_int, cmp_ltI, cmp_geI, cmp_leI, c1, c2, c3, bin_add, e2, leave_same, isb, lowB, highB]
  · by_cases c2 : 999 ≤ q
    · by_cases c3 : sup asks q ≤ w
      · simp [runF, f_is_bar, b_is_bar, initS, ex, ev, evs, asg, cmpD_int, cmp_ltI, cmp_geI, cmp_leI, c1, c2, c3, e1, leave_same, isb, lowB, highB]
      · simp [runF, f_is_bar, b_is_bar, initS, ex, ev, evs, asg, cmpD_int, cmp_ltI, cmp_geI, cmp_leI, c1, c2, c3, e1, leave_same, isb, lowB, highB]
    · by_cases c3 : sup asks q ≤ w
      · simp [runF, f_is_bar, b_is_bar, initS, ex, ev, evs, asg, cmpD_int, cmp_ltI, cmp_geI, cmp_leI, c1, c2, c3, bin_add, e1, e2, leave_same, isb, lowB, highB]
      · simp [runF, f_is_bar, b_is_bar, initS, ex, ev, evs, asg, cmpD_int, cmp_ltI, cmp_geI, cmp_leI, c1, c2, c3, bin_add, e1, e2, leave_same, isb, lowB, highB]
theorem c_bar_holds (k : Nat) (asks bids : List (Int × Int)) (va : ∀ o ∈ asks, Val o) (vb : ∀ o ∈ bids, Val o) (ha : asks.length ≤ 6) (hb : bids.length ≤ 6) (w : Int) (w0 : 0 ≤ w) (w1 : w ≤ 999) (q : Int) (q0 : -1 ≤ q) (q1 : q ≤ 999) (h : AH) :
    callN F (k + 5) i_bar_holds [.py (offs asks), .py (offs bids), .i w, .i q] h = .ok (.b (isb asks bids w q)) h := by
  rw [callN_succ F (k + 4) i_bar_holds f_bar_holds rfl]
  have e1 := c_need_offers k asks va ha h
  have e2 := c_need_offers k bids vb hb h
  have e3 := c_is_within (k + 3) (.int w) 0 999 h
  have e4 := c_is_within (k + 3) (.int q) (-1) 999 h
  have t1 : wi (.int w) 0 999 = true := by simp [wi, w0, w1]
  have t2 : wi (.int q) (-1) 999 = true := by simp [wi, q0, q1]
  rw [t1] at e3
  rw [t2] at e4
  have e5 := c_is_bar (k + 2) asks bids ha hb w q h
  simp only [runF, f_bar_holds, b_bar_holds, initS, ex, ev, evs, R.bind_ok, List.map_cons, List.map_nil, List.cons_append, List.nil_append, List.length_cons, List.length_nil, List.getElem?_cons_zero, List.getElem?_cons_succ, List.replicate, if_true, Nat.reduceAdd, Nat.reduceSub, Int.reduceNeg, e1, e2, e3, e4, e5, Bool.not_true, leave_same]
theorem c_bar_of (k : Nat) (asks bids : List (Int × Int)) (va : ∀ o ∈ asks, Val o) (vb : ∀ o ∈ bids, Val o) (ha : asks.length ≤ 6) (hb : bids.length ≤ 6) (h : AH) :
    ∃ q : Int, callN F (k + 5) i_bar_of [.py (offs asks), .py (offs bids)] h = .ok (.i q) h ∧ -1 ≤ q ∧ q ≤ 999 ∧ isb asks bids (best asks bids).1 q = true ∧ ∀ u : Int, -1 ≤ u → u < q → isb asks bids (best asks bids).1 u = false := by
  rw [callN_succ F (k + 4) i_bar_of f_bar_of rfl]
  have e1 := c_need_offers k asks va ha h
  have e2 := c_need_offers k bids vb hb h
  have e3 := c_best_price (k + 2) asks bids ha hb h
  obtain ⟨h1, _, _, h4, _⟩ := best_spec va vb
  have h0 : 0 ≤ (best asks bids).1 := by
    have := lesser_nonneg va vb (best asks bids).2
    omega
  obtain ⟨n, n1, n2⟩ := bar_there h0 h4
  obtain ⟨W, hW⟩ : ∃ W, W = (best asks bids).1 := ⟨_, rfl⟩
  obtain ⟨Pq, hP⟩ : ∃ P, P = (best asks bids).2 := ⟨_, rfl⟩
  rw [← hW] at n2 e3
  rw [← hP] at e3
  have e0 : evi (callN F (k + 4)) (.rng2 (.neg 1) (.bin .Add (.glb g_MOST_PRICE (.int 999)) (.lit (.int 1)))) [some (.py (offs asks)), some (.py (offs bids)), some (.i W), none] h = .ok ⟨(List.range 1001).map fun i => D.i (-1 + (i : Nat)), none⟩ h := by
    have r1 : rng2S (.i (-1)) (.i 1000) = some ⟨rangeL (-1) 1001, none⟩ := rfl
    rw [← rangeL_map]
    simp only [evi, ev, R.bind_ok, Int.reduceNeg]
    have a1 : binD h .Add (.py (.int 999)) (.py (.int 1)) = some (.i 1000) := rfl
    simp only [a1, rO_some, R.bind_ok]
    rw [r1]
    rfl
  have e4 := ev_compM (C := callN F (k + 4)) (own := [3]) (elt := b_bar_of_0) (t := .var 3) (it := .rng2 (.neg 1) (.bin .Add (.glb g_MOST_PRICE (.int 999)) (.lit (.int 1)))) (cond := b_bar_of_1) (σ := [some (.py (offs asks)), some (.py (offs bids)), some (.i W), none]) (h := h) (os := List.range 1001) (e := fun i => D.i (-1 + (i : Nat)))
    e0 (by rw [List.length_range]; decide) (fun i => isb asks bids W (-1 + (i : Nat))) (fun i => .int (-1 + (i : Nat))) (fun i => [some (.py (offs asks)), some (.py (offs bids)), some (.i W), some (.i (-1 + (i : Nat)))])
    (fun i _ => ⟨by simp [asg, wipeS], by
      have := c_is_bar (k + 2) asks bids ha hb W (-1 + (i : Nat)) h
      simp only [b_bar_of_1, ev, evs, List.getElem?_cons_zero, List.getElem?_cons_succ, R.bind_ok, this], fun _ => by simp only [b_bar_of_0, ev, List.getElem?_cons_zero, List.getElem?_cons_succ]⟩)
  have hne : n ∈ (List.range 1001).filter fun i => isb asks bids W (-1 + (i : Nat)) := List.mem_filter.mpr ⟨List.mem_range.mpr n1, n2⟩
  have hpw : ((List.range 1001).filter fun i => isb asks bids W (-1 + (i : Nat))).Pairwise (· < ·) := List.pairwise_lt_range.sublist List.filter_sublist
  have hmem : ∀ m, m ∈ ((List.range 1001).filter fun i => isb asks bids W (-1 + (i : Nat))) ↔ m < 1001 ∧ isb asks bids W (-1 + (m : Nat)) = true := fun m => by rw [List.mem_filter, List.mem_range]
  generalize hF : ((List.range 1001).filter fun i => isb asks bids W (-1 + (i : Nat))) = fl at e4 hne hpw hmem
  cases fl with
  | nil => exact absurd hne List.not_mem_nil
  | cons m r =>
    have hm := (hmem m).mp List.mem_cons_self
    refine ⟨-1 + (m : Nat), ?_, by omega, by omega, by rw [← hW]; exact hm.2, fun u u0 u1 => ?_⟩
    · rw [List.map_cons] at e4
      have e5 : ev (callN F (k + 4)) b_bar_of_2 [some (.py (offs asks)), some (.py (offs bids)), some (.i W), none] h = .ok (.py (.list (.int (-1 + (m : Nat)) :: r.map fun i => .int (-1 + (i : Nat))))) h := e4
      have e6 : idxD h (.py (.list (.int (-1 + (m : Nat)) :: r.map fun i => .int (-1 + (i : Nat))))) (.py (.int 0)) = some (.i (-1 + (m : Nat))) := idx_lst (atI_0 _ _)
      simp only [runF, f_bar_of, b_bar_of, initS, ex, ev, evs, asg, R.bind_ok, List.map_cons, List.map_nil, List.cons_append, List.nil_append, List.length_cons, List.length_nil, List.getElem?_cons_zero, List.getElem?_cons_succ, List.replicate, List.set_cons_succ, List.set_cons_zero, if_true, Nat.reduceAdd, Nat.reduceSub, e1, e2, e3, idx_T1, rO_some, e5, e6, leave_same]
    · rw [← hW]
      cases hb2 : isb asks bids W u with
      | false => rfl
      | true =>
        have hu : (u + 1).toNat ∈ m :: r := (hmem _).mpr ⟨by omega, by
          have : (-1 + (((u + 1).toNat : Nat) : Int)) = u := by omega
          rw [this]
          exact hb2⟩
        rcases List.mem_cons.mp hu with q | q
        · omega
        · have := (List.pairwise_cons.mp hpw).1 _ q
          omega
end Zl
/-! k55: what is drawn; what is right. -/
namespace Zl
open PySem PySem.Spec PySem.W PyProof.Rows L2 Zm
theorem kv_d1 (k : Nat) (h : AH) (l : Nat) (hl : l < h.length) (y f : Int) (ns : List Int) (hn : ns.length ≤ 100) (os : PyData) (price sign w : Int) (hs : small sign = true) (w0 : 0 ≤ w) (o : Int × Int) (v : Val o) (q8 : Option D) :
    ∃ y' n, ex (callN F (k + 1)) b_law_drawn_1 [some (.obj l), some (.py os), some (.i price), some (.i sign), some (.i w), some (.obj h.length), some (.i o.1), some (.i o.2), q8] (h.set l (PO y f) ++ [.lst (ns.map D.i)]) =
      .ok (.nx [some (.obj l), some (.py os), some (.i price), some (.i sign), some (.i (w - n)), some (.obj h.length), some (.i o.1), some (.i o.2), some (.i n)]) (h.set l (PO y' f) ++ [.lst ((ns ++ [n]).map D.i)]) ∧ 0 ≤ n ∧ n ≤ o.1 ∧ n ≤ w ∧ (0 < n → sign * (o.2 - price) ≤ 0) := by
  obtain ⟨v1, v2, v3, v4⟩ := v
  have hlim : ns.length < lim := by unfold lim; omega
  have em : ∀ H, binD H .Mult (.i sign) (.i (o.2 - price)) = some (.i (sign * (o.2 - price))) := fun H => bin_mul H _ _ hs
  have ap : ∀ n : Int, (ns.map D.i) ++ [D.i n] = (ns ++ [n]).map D.i := fun n => by rw [List.map_append]; rfl
  have e0 : ∀ (y n : Int) (s4 s6 s7 : Option D), ev (callN F (k + 1)) b_law_drawn_0 [some (.obj l), some (.py os), some (.i price), some (.i sign), s4, some (.obj h.length), s6, s7, some (.i n)] (h.set l (PO y f) ++ [.lst (ns.map D.i)]) = .ok .non (h.set l (PO y f) ++ [.lst ((ns ++ [n]).map D.i)]) := fun y n s4 s6 s7 => by
    simp only [b_law_drawn_0, ev, evs, List.getElem?_cons_zero, List.getElem?_cons_succ, R.bind_ok, get_end2, metO, List.length_map, hlim, if_true, set_end2, ap]
  by_cases c : sign * (o.2 - price) ≤ 0
  · obtain ⟨g, y1, e1, a1, c1⟩ := dr k hl [.lst (ns.map D.i)] y f (o.1 + 1) (by omega) (by omega)
    obtain ⟨n, hn2⟩ : ∃ n, n = (if g < w then g else w) := ⟨_, rfl⟩
    have hn3 : 0 ≤ n ∧ n ≤ g ∧ n ≤ w := by split at hn2 <;> omega
    refine ⟨y1, n, ?_, hn3.1, by omega, hn3.2.2, fun _ => c⟩
    simp only [b_law_drawn_1, ex, ev, evs, asg, R.bind_ok, List.getElem?_cons_zero, List.getElem?_cons_succ, List.set_cons_succ, List.set_cons_zero, bin_sub, bin_add, em, cmpD_int, cmp_leI, decide_eq_true c, Option.map_some, rO_some, e1, biD, toPys, toPy, bi_min2, ← hn2, e0]
  · refine ⟨y, 0, ?_, Int.le_refl _, by omega, w0, fun h => absurd h (by decide)⟩
    simp only [b_law_drawn_1, ex, ev, evs, asg, R.bind_ok, List.getElem?_cons_zero, List.getElem?_cons_succ, List.set_cons_succ, List.set_cons_zero, bin_sub, em, cmpD_int, cmp_leI, decide_eq_false c, Option.map_some, rO_some, e0]
theorem kv_d2 (k : Nat) (h : AH) (l : Nat) (hl : l < h.length) (f : Int) (os : PyData) (price sign : Int) (hs : small sign = true) (src : Src) (hsrc : src.live = none) : ∀ (t : List (Int × Int)) (ns : List Int) (w y : Int) (q6 q7 q8 : Option D), (∀ o ∈ t, Val o) → ns.length + t.length ≤ 100 → 0 ≤ w →
    ∃ (y' : Int) (ms : List Int) (q4 q6' q7' q8' : Option D), forL (asg (callN F (k + 1)) (.tup (.cons (.var 6) (.cons (.var 7) (.nil))))) (ex (callN F (k + 1)) b_law_drawn_1) (okS src) (t.map fun o => D.py (pr o)) [some (.obj l), some (.py os), some (.i price), some (.i sign), some (.i w), some (.obj h.length), q6, q7, q8] (h.set l (PO y f) ++ [.lst (ns.map D.i)]) =
      .ok (.nx [some (.obj l), some (.py os), some (.i price), some (.i sign), q4, some (.obj h.length), q6', q7', q8']) (h.set l (PO y' f) ++ [.lst ((ns ++ ms).map D.i)]) ∧ ms.length = t.length ∧ (∀ x ∈ ms.zip t, 0 ≤ x.1 ∧ x.1 ≤ x.2.1 ∧ (0 < x.1 → sign * (x.2.2 - price) ≤ 0)) ∧ 0 ≤ ms.sum ∧ ms.sum ≤ w
  | [], ns, w, y, q6, q7, q8, _, _, w0 => by
    refine ⟨y, [], some (.i w), q6, q7, q8, ?_, rfl, fun _ h => absurd h (by simp), by simp, by simpa using w0⟩
    have ok : okS src (h.set l (PO y f) ++ [.lst (ns.map D.i)]) = true := by unfold okS; rw [hsrc]
    rw [List.map_nil, forL, ok, List.append_nil]
  | o :: t, ns, w, y, q6, q7, q8, hv, hl2, w0 => by
    rw [List.length_cons] at hl2
    obtain ⟨y1, n, e1, n0, n1, n2, n3⟩ := kv_d1 k h l hl y f ns (by omega) os price sign w hs w0 o (hv o List.mem_cons_self) q8
    obtain ⟨y2, ms, q4, q6', q7', q8', e2, m1, m2, m3, m4⟩ := kv_d2 k h l hl f os price sign hs src hsrc t (ns ++ [n]) (w - n) y1 (some (.i o.1)) (some (.i o.2)) (some (.i n)) (fun x hx => hv x (List.mem_cons_of_mem _ hx)) (by rw [List.length_append, List.length_singleton]; omega) (by omega)
    refine ⟨y2, n :: ms, q4, q6', q7', q8', ?_, by rw [List.length_cons, List.length_cons, m1], fun x hx => ?_, by rw [List.sum_cons]; omega, by rw [List.sum_cons]; omega⟩
    · have ok : okS src (h.set l (PO y f) ++ [.lst (ns.map D.i)]) = true := by unfold okS; rw [hsrc]
      have ea : asg (callN F (k + 1)) (.tup (.cons (.var 6) (.cons (.var 7) (.nil)))) (.py (pr o)) [some (.obj l), some (.py os), some (.i price), some (.i sign), some (.i w), some (.obj h.length), q6, q7, q8] (h.set l (PO y f) ++ [.lst (ns.map D.i)]) = .ok [some (.obj l), some (.py os), some (.i price), some (.i sign), some (.i w), some (.obj h.length), some (.i o.1), some (.i o.2), q8] (h.set l (PO y f) ++ [.lst (ns.map D.i)]) := by
        simp only [pr, asg, asgs, List.map_cons, List.map_nil, R.bind_ok, List.set_cons_succ, List.set_cons_zero]
      rw [List.append_assoc, List.singleton_append] at e2
      rw [List.map_cons, forL, ok]
      simp only [ea, R.bind_ok, e1, e2]
    · rw [List.zip_cons_cons] at hx
      rcases List.mem_cons.mp hx with q | q
      · subst q
        exact ⟨n0, n1, n3⟩
      · exact m2 x q
theorem c_law_drawn (k : Nat) (os : List (Int × Int)) (v : ∀ o ∈ os, Val o) (hl6 : os.length ≤ 6) (price sign w : Int) (hs : small sign = true) (w0 : 0 ≤ w) (h : AH) (l : Nat) (x f : Int) (hx : h[l]? = some (PO x f)) :
    ∃ (y : Int) (ms : List Int), callN F (k + 2) i_law_drawn [.obj l, .py (offs os), .i price, .i sign, .i w] h = .ok (.py (.tuple (ms.map .int))) (h.set l (PO y f)) ∧ ms.length = os.length ∧ (∀ x ∈ ms.zip os, 0 ≤ x.1 ∧ x.1 ≤ x.2.1 ∧ (0 < x.1 → sign * (x.2.2 - price) ≤ 0)) ∧ 0 ≤ ms.sum ∧ ms.sum ≤ w := by
  rw [callN_succ F (k + 1) i_law_drawn f_law_drawn rfl]
  have hl := lt_of_get hx
  obtain ⟨y, ms, q4, q6, q7, q8, e, m1, m2, m3, m4⟩ := kv_d2 k h l hl f (offs os) price sign hs ⟨os.map fun o => D.py (pr o), none⟩ rfl os [] w x none none none v (by simp; omega) w0
  refine ⟨y, ms, ?_, m1, m2, m3, m4⟩
  rw [set_back hx, List.nil_append] at e
  have e0 : evi (callN F (k + 1)) (.cons (.var 1) .nil) [some (.obj l), some (.py (offs os)), some (.i price), some (.i sign), some (.i w), some (.obj h.length), none, none, none] (h ++ [.lst []]) = .ok ⟨os.map fun o => D.py (pr o), none⟩ (h ++ [.lst []]) := by
    simp [evi, ev, offs, seqP]
  have e1 : ex (callN F (k + 1)) b_law_drawn_2 [some (.obj l), some (.py (offs os)), some (.i price), some (.i sign), some (.i w), some (.obj h.length), none, none, none] (h ++ [.lst []]) = .ok (.nx [some (.obj l), some (.py (offs os)), some (.i price), some (.i sign), q4, some (.obj h.length), q6, q7, q8]) (h.set l (PO y f) ++ [.lst (ms.map D.i)]) := by
    rw [b_law_drawn_2, ex, e0, R.bind_ok]
    exact e
  have e2 : leave .pure h (.py (.tuple (ms.map .int))) (h.set l (PO y f) ++ [.lst (ms.map D.i)]) = .ok (.py (.tuple (ms.map .int))) (h.set l (PO y f)) := leave_chg (chg_set (PO_plain y f)) _
  simp only [runF, f_law_drawn, b_law_drawn, initS, ex, ev, evs, asg, R.bind_ok, List.map_cons, List.map_nil, List.cons_append, List.nil_append, List.length_cons, List.length_nil, List.getElem?_cons_zero, List.getElem?_cons_succ, List.replicate, List.set_cons_succ, List.set_cons_zero, if_true, Nat.reduceAdd, Nat.reduceSub, e1, biD, toPys, toPy, get_end2, pysI, bi_tupL, rO_some, e2]
theorem ne_b_same (b : Bool) (h : AH) : cmpD h .NotEq (.py (.bool b)) (.py (.bool b)) = some false := by
  rw [cmpD_py (fun z => by cases z)]
  have e : shp (.bool b) = true := by cases b <;> decide +kernel
  simp [cmpP, e, PyData.eqv]
theorem pickO {a b : Int} {g : Int} (b0 : 0 ≤ g) (c0 : g < 2) : ∃ n : Int, L2.atI [PyData.int a, .int b] g = some (.int n) ∧ (n = a ∨ n = b) := by
  obtain ⟨x, h1, h2⟩ := atI_draw (xs := [PyData.int a, .int b]) b0 (by simpa using c0)
  simp only [List.mem_cons, List.not_mem_nil, or_false] at h2
  rcases h2 with q | q <;> subst q <;> exact ⟨_, h1, by omega⟩
theorem ex_cons {C : Orc} {a r : S} {σ σ1 : Sg} {h h1 : AH} (e : ex C a σ h = .ok (.nx σ1) h1) : ex C (.cons a r) σ h = ex C r σ1 h1 := by
  rw [ex, e, R.bind_ok]
/-- a turn -/
theorem kr0 (k : Nat) (asks bids : List (Int × Int)) (va : ∀ o ∈ asks, Val o) (vb : ∀ o ∈ bids, Val o) (ha : asks.length ≤ 6) (hb : bids.length ≤ 6) (P W : Int) (p0 : 0 ≤ P) (p1 : P ≤ 999) (hW : ∀ q : Int, 0 ≤ q → q ≤ 999 → lesser asks bids q ≤ W) (h : AH) (l : Nat) (x f : Int) (hx : h[l]? = some (PO x f)) (s3 s4 s5 s8 s9 s10 s11 : Option D) :
    ∃ y a4 a10 a11, ex (callN F (k + 5)) b_law_right_0 [some (.obj l), some (.py (offs asks)), some (.py (offs bids)), s3, s4, s5, some (.i P), some (.i W), s8, s9, s10, s11] h = .ok (.nx [some (.obj l), some (.py (offs asks)), some (.py (offs bids)), s3, a4, s5, some (.i P), some (.i W), s8, s9, a10, a11]) (h.set l (PO y f)) := by
  have hl := lt_of_get hx
  obtain ⟨g1, y1, e1, a1, c1⟩ := dr (k + 4) hl [] x f 1000 (by decide) (by decide)
  obtain ⟨g2, y2, e2, a2, c2⟩ := dr (k + 4) hl [] y1 f 2 (by decide) (by decide)
  simp only [List.append_nil] at e1 e2
  rw [set_back hx] at e1
  obtain ⟨own, hown, ho⟩ := pickO (a := P) (b := g1) a2 c2
  have o0 : 0 ≤ own ∧ own ≤ 999 := by omega
  obtain ⟨y3, ns, e3, n1, n2, n3, n4⟩ := c_law_drawn (k + 3) asks va ha own 1 600 (by decide) (by decide) (h.set l (PO y2 f)) l y2 f (set_get hx)
  rw [List.set_set] at e3
  obtain ⟨y4, ms, e4, m1, m2, m3, m4⟩ := c_law_drawn (k + 3) bids vb hb own (-1) ns.sum (by decide) n3 (h.set l (PO y3 f)) l y3 f (set_get hx)
  rw [List.set_set] at e4
  have na : ∀ x ∈ ns.zip asks, 0 ≤ x.1 ∧ x.1 ≤ x.2.1 ∧ (0 < x.1 → decide (x.2.2 ≤ own) = true) := fun x hx => ⟨(n2 x hx).1, (n2 x hx).2.1, fun hp => decide_eq_true (by have := (n2 x hx).2.2 hp; omega)⟩
  have mb : ∀ x ∈ ms.zip bids, 0 ≤ x.1 ∧ x.1 ≤ x.2.1 ∧ (0 < x.1 → decide (own ≤ x.2.2) = true) := fun x hx => ⟨(m2 x hx).1, (m2 x hx).2.1, fun hp => decide_eq_true (by have := (m2 x hx).2.2 hp; omega)⟩
  have eg := gd_parts o0.1 o0.2 n1 m1 na mb
  have e5 := c_clears k asks bids va vb ha hb (.tuple [.int own, .tuple (ns.map .int), .tuple (ms.map .int)]) (h.set l (PO y4 f))
  rw [eg] at e5
  have q1 : ns.sum ≤ sup asks own := part_sum n1 va na
  have q2 : ms.sum ≤ dem bids own := part_sum m1 vb mb
  have q3 := hW own o0.1 o0.2
  have q4 : ¬ W < ms.sum := by
    unfold lesser mn at q3
    split at q3 <;> omega
  refine ⟨y4, some (.i own), some (.py (.tuple (ns.map .int))), some (.py (.tuple (ms.map .int))), ?_⟩
  obtain ⟨t1, ht1⟩ : ∃ t : PyData, t = .tuple (ns.map .int) := ⟨_, rfl⟩
  obtain ⟨t2, ht2⟩ : ∃ t : PyData, t = .tuple (ms.map .int) := ⟨_, rfl⟩
  have u1 : biP .sum [t1] = some (.int ns.sum) := by rw [ht1]; exact bi_sumTI ns
  have u2 : biP .sum [t2] = some (.int ms.sum) := by rw [ht2]; exact bi_sumTI ms
  rw [← ht1] at e3 e5 ⊢
  rw [← ht2] at e4 e5 ⊢
  have i1 : idxD (h.set l (PO y2 f)) (.py (.list [.int P, .int g1])) (.i g2) = some (.i own) := idx_lst hown
  simp only [b_law_right_0, ex, ev, evs, asg, R.bind_ok, List.getElem?_cons_zero, List.getElem?_cons_succ, List.set_cons_succ, List.set_cons_zero, e1, e2, pys, i1, rO_some, e3, Int.reduceNeg, biD, toPys, toPy, u1, e4, mkTup, e5, u2, cmpD_int, cmp_eqI, Option.map_some, ne_b_same, cmp_gtI, decide_eq_false q4]
theorem kr2 (k : Nat) (asks bids : List (Int × Int)) (va : ∀ o ∈ asks, Val o) (vb : ∀ o ∈ bids, Val o) (ha : asks.length ≤ 6) (hb : bids.length ≤ 6) (W own : Int) (o0 : 0 ≤ own) (o1 : own ≤ 999) (hW : lesser asks bids own < W) (h : AH) (s0 s3 s5 s6 s8 s9 s10 s11 : Option D) :
    ex (callN F (k + 5)) b_law_right_2 [s0, some (.py (offs asks)), some (.py (offs bids)), s3, some (.i own), s5, s6, some (.i W), s8, s9, s10, s11] h = .ok (.nx [s0, some (.py (offs asks)), some (.py (offs bids)), s3, some (.i own), s5, s6, some (.i W), s8, s9, s10, s11]) h := by
  have e1 := c_supply k asks va ha own o0 o1 h
  have e2 := c_demand k bids vb hb own o0 o1 h
  have e3 : biP .min [.int (sup asks own), .int (dem bids own)] = some (.int (lesser asks bids own)) := bi_min2 _ _
  have e4 : ¬ W ≤ lesser asks bids own := by omega
  simp only [b_law_right_2, ex, ev, evs, R.bind_ok, List.getElem?_cons_zero, List.getElem?_cons_succ, e1, e2, biD, toPys, toPy, e3, rO_some, cmpD_int, cmp_geI, Option.map_some, decide_eq_false e4]
theorem kr3 (k : Nat) (asks bids : List (Int × Int)) (va : ∀ o ∈ asks, Val o) (vb : ∀ o ∈ bids, Val o) (ha : asks.length ≤ 6) (hb : bids.length ≤ 6) (P W : Int) (p0 : 0 ≤ P) (p1 : P ≤ 999) (hW : ∀ q : Int, 0 ≤ q → q < P → lesser asks bids q < W) (h : AH) (s0 s3 s4 s5 s8 s9 s10 s11 : Option D) :
    ∃ a4, ex (callN F (k + 5)) b_law_right_3 [s0, some (.py (offs asks)), some (.py (offs bids)), s3, s4, s5, some (.i P), some (.i W), s8, s9, s10, s11] h = .ok (.nx [s0, some (.py (offs asks)), some (.py (offs bids)), s3, a4, s5, some (.i P), some (.i W), s8, s9, s10, s11]) h := by
  obtain ⟨c, hc⟩ : ∃ c : Int, c = 1 + P / 9 := ⟨_, rfl⟩
  have c0 : 0 < c ∧ c < 1073741824 := by omega
  obtain ⟨n, hn⟩ : ∃ n, n = rsz 0 P c := ⟨_, rfl⟩
  have hlt : ∀ i : Nat, i < n → (i : Int) * c < P := fun i hi => by
    rw [hn] at hi
    unfold rsz at hi
    split at hi
    · have h1 : (i : Int) ≤ (P - 0 - 1) / c := by omega
      have h2 : (i : Int) * c ≤ (P - 0 - 1) / c * c := Int.mul_le_mul_of_nonneg_right h1 (by omega)
      have h3 : (P - 0 - 1) / c * c ≤ P - 0 - 1 := Int.ediv_mul_le _ (by omega)
      omega
    · omega
  have key := forL_inv (asg := asg (callN F (k + 5)) (.var 4)) (body := ex (callN F (k + 5)) b_law_right_2) (ok := okS ⟨(List.range n).map fun i => D.i (0 + (i : Nat) * c), none⟩)
    (fun j σ H => ∃ a4, H = h ∧ σ = [s0, some (.py (offs asks)), some (.py (offs bids)), s3, a4, s5, some (.i P), some (.i W), s8, s9, s10, s11]) ((List.range n).map fun i => D.i (0 + (i : Nat) * c)) 0 _ _ ⟨s4, rfl, rfl⟩ (fun _ _ _ _ => okS_none _ _) (fun j z σ H hz hI => by
      obtain ⟨a4, rfl, rfl⟩ := hI
      obtain ⟨i, hi, rfl⟩ := List.mem_map.mp (List.mem_of_getElem? hz)
      have h1 := hlt i (List.mem_range.mp hi)
      have h2 : 0 ≤ (i : Int) * c := Int.mul_nonneg (by omega) (by omega)
      have ea : asg (callN F (k + 5)) (.var 4) (.i (0 + (i : Nat) * c)) [s0, some (.py (offs asks)), some (.py (offs bids)), s3, a4, s5, some (.i P), some (.i W), s8, s9, s10, s11] H = .ok [s0, some (.py (offs asks)), some (.py (offs bids)), s3, some (.i (0 + (i : Nat) * c)), s5, some (.i P), some (.i W), s8, s9, s10, s11] H := by simp only [asg, List.set_cons_succ, List.set_cons_zero]
      exact ⟨_, _, ea, _, _, kr2 k asks bids va vb ha hb W (0 + (i : Nat) * c) (by omega) (by omega) (hW _ (by omega) (by omega)) H s0 s3 s5 (some (.i P)) s8 s9 s10 s11, some (.i (0 + (i : Nat) * c)), rfl, rfl⟩)
  obtain ⟨σ', H', e, a4, rfl, rfl⟩ := key
  refine ⟨a4, ?_⟩
  have d9 : ∀ H, binD H .FloorDiv (.i P) (.py (.int 9)) = some (.i (P / 9)) := fun H => bin_div H P 9 (by decide) (by decide)
  have a9 : ∀ H, binD H .Add (.py (.int 1)) (.i (P / 9)) = some (.i c) := fun H => by rw [hc]; rfl
  have r9 : rng3S (.py (.int 0)) (.i P) (.i c) = some ⟨(List.range n).map fun i => D.i (0 + (i : Nat) * c), none⟩ := by
    have hr : (r62 0 && r62 P && (decide (0 < c) && decide (c < 1073741824))) = true := by
      have h1 : r62 0 = true := by decide
      have h2 : r62 P = true := by
        unfold r62
        rw [Bool.and_eq_true, decide_eq_true_eq, decide_eq_true_eq]
        omega
      rw [h1, h2, decide_eq_true c0.1, decide_eq_true c0.2]
      rfl
    simp only [rng3S]
    rw [if_pos hr, hn]
  have e0 : evi (callN F (k + 5)) (.rng3 (.lit (.int 0)) (.var 6) (.bin .Add (.lit (.int 1)) (.bin .FloorDiv (.var 6) (.lit (.int 9))))) [s0, some (.py (offs asks)), some (.py (offs bids)), s3, s4, s5, some (.i P), some (.i W), s8, s9, s10, s11] H' = .ok ⟨(List.range n).map fun i => D.i (0 + (i : Nat) * c), none⟩ H' := by
    simp only [evi, ev, R.bind_ok, List.getElem?_cons_zero, List.getElem?_cons_succ, d9, a9, rO_some, r9]
  rw [b_law_right_3, ex, e0, R.bind_ok]
  exact e
theorem kr1 (k : Nat) (asks bids : List (Int × Int)) (va : ∀ o ∈ asks, Val o) (vb : ∀ o ∈ bids, Val o) (ha : asks.length ≤ 6) (hb : bids.length ≤ 6) (P W : Int) (p0 : 0 ≤ P) (p1 : P ≤ 999) (hW : ∀ q : Int, 0 ≤ q → q ≤ 999 → lesser asks bids q ≤ W) (h : AH) (l : Nat) (x f : Int) (hx : h[l]? = some (PO x f)) (s3 s4 s5 s8 s9 s10 s11 : Option D) :
    ∃ y a4 a5 a10 a11, ex (callN F (k + 5)) b_law_right_1 [some (.obj l), some (.py (offs asks)), some (.py (offs bids)), s3, s4, s5, some (.i P), some (.i W), s8, s9, s10, s11] h = .ok (.nx [some (.obj l), some (.py (offs asks)), some (.py (offs bids)), s3, a4, a5, some (.i P), some (.i W), s8, s9, a10, a11]) (h.set l (PO y f)) := by
  have key := forL_inv (asg := asg (callN F (k + 5)) (.var 5)) (body := ex (callN F (k + 5)) b_law_right_0) (ok := okS ⟨rangeL 0 5, none⟩)
    (fun j σ H => ∃ y a4 a5 a10 a11, H = h.set l (PO y f) ∧ σ = [some (.obj l), some (.py (offs asks)), some (.py (offs bids)), s3, a4, a5, some (.i P), some (.i W), s8, s9, a10, a11]) (rangeL 0 5) 0 _ h ⟨x, s4, s5, s10, s11, (set_back hx).symm, rfl⟩ (fun _ _ _ _ => okS_none _ _) (fun j z σ H hz hI => by
      obtain ⟨y, a4, a5, a10, a11, rfl, rfl⟩ := hI
      obtain ⟨y', b4, b10, b11, e⟩ := kr0 k asks bids va vb ha hb P W p0 p1 hW (h.set l (PO y f)) l y f (set_get hx) s3 a4 (some z) s8 s9 a10 a11
      rw [List.set_set] at e
      have ea : asg (callN F (k + 5)) (.var 5) z [some (.obj l), some (.py (offs asks)), some (.py (offs bids)), s3, a4, a5, some (.i P), some (.i W), s8, s9, a10, a11] (h.set l (PO y f)) = .ok [some (.obj l), some (.py (offs asks)), some (.py (offs bids)), s3, a4, some z, some (.i P), some (.i W), s8, s9, a10, a11] (h.set l (PO y f)) := by simp only [asg, List.set_cons_succ, List.set_cons_zero]
      exact ⟨_, _, ea, _, _, e, y', b4, some z, b10, b11, rfl, rfl⟩)
  obtain ⟨σ', H', e, y, a4, a5, a10, a11, rfl, rfl⟩ := key
  refine ⟨y, a4, a5, a10, a11, ?_⟩
  have e0 : ∀ σ H, evi (callN F (k + 5)) (.rng1 (.lit (.int 5))) σ H = .ok ⟨rangeL 0 5, none⟩ H := fun σ H => evi_rng1 (n := 5) (by simp only [ev]; rfl) (by decide)
  rw [b_law_right_1, ex, e0, R.bind_ok]
  exact e
end Zl
/-! k55: all is right. -/
namespace Zl
open PySem PySem.Spec PySem.W PyProof.Rows L2 Zm
theorem rev_offs (C : Orc) (i : Nat) (os : List (Int × Int)) (σ : Sg) (hs : σ[i]? = some (some (.py (offs os)))) (h : AH) : ev C (.rev (.var i)) σ h = .ok (.py (offs os.reverse)) h := by
  have e : ev C (.var i) σ h = .ok (.py (.tuple (os.map pr))) h := by
    simp only [ev, hs]
    rfl
  rw [ev, e, R.bind_ok]
  simp only [toPy]
  unfold offs
  rw [List.map_reverse]
theorem ne_sameI (h : AH) (a : Int) : cmpD h .NotEq (.i a) (.i a) = some false := by
  rw [cmpD_int, cmp_neI]
  simp
theorem isNot_tt (h : AH) : cmpD h .IsNot (.py (.bool true)) (.py (.bool true)) = some false := rfl
theorem is_ft (h : AH) : cmpD h .Is (.py (.bool false)) (.py (.bool true)) = some false := rfl
theorem ne_two (h : AH) (a b : Int) : cmpD h .NotEq (.py (.list [.int a, .int b])) (.py (.list [.int a, .int b])) = some false := by
  have := ne_listI h [a, b] [a, b]
  simpa using this
theorem eq_two (h : AH) (a b : Int) : cmpD h .Eq (.py (.tuple [.int a, .int b])) (.py (.tuple [.int a, .int b])) = some true := by
  have := eq_tupI h [a, b] [a, b]
  simpa using this
theorem c_law_right (k : Nat) (asks bids : List (Int × Int)) (va : ∀ o ∈ asks, Val o) (vb : ∀ o ∈ bids, Val o) (ha : asks.length ≤ 6) (hb : bids.length ≤ 6) (h : AH) (l : Nat) (x f : Int) (hx : h[l]? = some (PO x f)) :
    ∃ y, callN F (k + 6) i_law_right [.obj l, .py (offs asks), .py (offs bids)] h = .ok (.b true) (h.set l (PO y f)) := by
  rw [callN_succ F (k + 5) i_law_right f_law_right rfl]
  obtain ⟨hP, p0, p1, hW, hL⟩ := best_spec va vb
  have w0 := lesser_nonneg va vb (best asks bids).2
  have w1 := (best_bounds (bids := bids) va ha).2.1
  have e1 := c_settled k asks bids va vb ha hb h
  obtain ⟨q, e4, q0, q1, hq, _⟩ := c_bar_of k asks bids va vb ha hb h
  have hq2 := bar_less va vb (q := q) p0 p1 hP
  have d1 := fil_spec va (ordS asks (best asks bids).2) (w := (best asks bids).1) (by omega)
  have d2 := fil_spec vb (ordB bids (best asks bids).2) (w := (best asks bids).1) (by omega)
  obtain ⟨P, hPe⟩ : ∃ P, P = (best asks bids).2 := ⟨_, rfl⟩
  obtain ⟨W, hWe⟩ : ∃ W, W = (best asks bids).1 := ⟨_, rfl⟩
  have eb : best asks bids = (W, P) := by rw [hPe, hWe]
  rw [eb] at hP p0 p1 hW hL w0 w1 e1 hq hq2 d1 d2
  simp only at hP p0 p1 hW hL w0 w1 hq hq2 d1 d2
  obtain ⟨sold, hsold⟩ : ∃ s, s = fil asks ((rowS asks P).map (·.2)) W := ⟨_, rfl⟩
  obtain ⟨bought, hbought⟩ : ∃ s, s = fil bids ((rowB 0 bids P).map (·.2)) W := ⟨_, rfl⟩
  have est : stl asks bids (W, P) = .tuple [.int P, .int W, .tuple (sold.map .int), .tuple (bought.map .int)] := by rw [hsold, hbought]; rfl
  rw [← hsold] at d1
  rw [← hbought] at d2
  rw [est] at e1
  obtain ⟨s1, s2, s3⟩ := d1
  obtain ⟨b1, b2, b3⟩ := d2
  have hWn : 0 ≤ W := by omega
  have hm := mn_le (a := sup asks P) (b := dem bids P)
  have hP' : mn (sup asks P) (dem bids P) = W := hP
  have s4 : sold.sum = W := by
    rw [s3]
    have : ¬ sup asks P < W := by omega
    unfold sup at this
    unfold mn
    rw [if_neg this]
  have b4 : bought.sum = W := by
    rw [b3]
    have : ¬ dem bids P < W := by omega
    unfold dem at this
    unfold mn
    rw [if_neg this]
  have eg := gd_parts p0 p1 s1 b1 s2 b2
  rw [s4, b4, decide_eq_true rfl] at eg
  have e2 := c_clears k asks bids va vb ha hb (.tuple [.int P, .tuple (sold.map .int), .tuple (bought.map .int)]) h
  rw [eg] at e2
  have e3a := c_supply k asks va ha P p0 p1 h
  have e3b := c_demand k bids vb hb P p0 p1 h
  have e3c : biP .min [.int (sup asks P), .int (dem bids P)] = some (.int W) := by rw [bi_min2, ← hP']; rfl
  have e5 := c_bar_holds k asks bids va vb ha hb W hWn (by omega) q q0 q1 h
  rw [hq] at e5
  have e6 : 0 < W → callN F (k + 5) i_bar_holds [.py (offs asks), .py (offs bids), .i (W - 1), .i q] h = .ok (.b false) h := fun hpos => by
    have := c_bar_holds k asks bids va vb ha hb (W - 1) (by omega) (by omega) q q0 q1 h
    rw [hq2] at this
    exact this
  obtain ⟨t1, ht1⟩ : ∃ t : PyData, t = .tuple (sold.map .int) := ⟨_, rfl⟩
  obtain ⟨t2, ht2⟩ : ∃ t : PyData, t = .tuple (bought.map .int) := ⟨_, rfl⟩
  have u1 : biP .sum [t1] = some (.int W) := by rw [ht1, bi_sumTI, s4]
  have u2 : biP .sum [t2] = some (.int W) := by rw [ht2, bi_sumTI, b4]
  rw [← ht1, ← ht2] at e1 e2
  have mul2 : ∀ H, binD H .Mult (.py (.list [.int W])) (.py (.int 2)) = some (.py (.list [.int W, .int W])) := fun H => rfl
  have c1 : ex (callN F (k + 5)) (.asg (.tup (.cons (.var 6) (.cons (.var 7) (.cons (.var 8) (.cons (.var 9) (.nil)))))) (.call i_settled (.cons (.var 1) (.cons (.var 2) (.nil))))) [some (.obj l), some (.py (offs asks)), some (.py (offs bids)), none, none, none, none, none, none, none, none, none] h = .ok (.nx [some (.obj l), some (.py (offs asks)), some (.py (offs bids)), none, none, none, some (.i P), some (.i W), some (.py t1), some (.py t2), none, none]) h := by
    simp only [ex, ev, evs, asg, asgs, R.bind_ok, List.map_cons, List.map_nil, List.getElem?_cons_zero, List.getElem?_cons_succ, List.set_cons_succ, List.set_cons_zero, e1]
  have c2 : ex (callN F (k + 5)) (.sif (.disj (.cmp .IsNot (.call i_clears (.cons (.var 1) (.cons (.var 2) (.cons (.tup (.cons (.var 6) (.cons (.var 8) (.cons (.var 9) (.nil))))) (.nil))))) (.lit (.bool true))) (.cmp .NotEq (.lst false (.cons (.bi .sum (.cons (.var 8) (.nil))) (.cons (.bi .sum (.cons (.var 9) (.nil))) (.nil)))) (.bin .Mult (.lst false (.cons (.var 7) (.nil))) (.lit (.int 2))))) (.cons (.ret (.lit (.bool false))) (.nil)) (.nil)) [some (.obj l), some (.py (offs asks)), some (.py (offs bids)), none, none, none, some (.i P), some (.i W), some (.py t1), some (.py t2), none, none] h = .ok (.nx [some (.obj l), some (.py (offs asks)), some (.py (offs bids)), none, none, none, some (.i P), some (.i W), some (.py t1), some (.py t2), none, none]) h := by
    simp only [ex, ev, evs, R.bind_ok, List.getElem?_cons_zero, List.getElem?_cons_succ, mkTup, pys, e2, isNot_tt, Option.map_some, rO_some, biD, toPys, toPy, u1, u2, mul2, ne_two]
  have c3 : ex (callN F (k + 5)) (.sif (.cmp .NotEq (.bi .min (.cons (.call i_supply (.cons (.var 1) (.cons (.var 6) (.nil)))) (.cons (.call i_demand (.cons (.var 2) (.cons (.var 6) (.nil)))) (.nil)))) (.var 7)) (.cons (.ret (.lit (.bool false))) (.nil)) (.nil)) [some (.obj l), some (.py (offs asks)), some (.py (offs bids)), none, none, none, some (.i P), some (.i W), some (.py t1), some (.py t2), none, none] h = .ok (.nx [some (.obj l), some (.py (offs asks)), some (.py (offs bids)), none, none, none, some (.i P), some (.i W), some (.py t1), some (.py t2), none, none]) h := by
    simp only [ex, ev, evs, R.bind_ok, List.getElem?_cons_zero, List.getElem?_cons_succ, e3a, e3b, biD, toPys, toPy, e3c, rO_some, ne_sameI, Option.map_some]
  have c4 : ex (callN F (k + 5)) (.asg (.var 3) (.call i_bar_of (.cons (.var 1) (.cons (.var 2) (.nil))))) [some (.obj l), some (.py (offs asks)), some (.py (offs bids)), none, none, none, some (.i P), some (.i W), some (.py t1), some (.py t2), none, none] h = .ok (.nx [some (.obj l), some (.py (offs asks)), some (.py (offs bids)), some (.i q), none, none, some (.i P), some (.i W), some (.py t1), some (.py t2), none, none]) h := by
    simp only [ex, ev, evs, asg, R.bind_ok, List.getElem?_cons_zero, List.getElem?_cons_succ, List.set_cons_succ, List.set_cons_zero, e4]
  have c5 : ex (callN F (k + 5)) (.sif (.disj (.cmp .IsNot (.call i_bar_holds (.cons (.var 1) (.cons (.var 2) (.cons (.var 7) (.cons (.var 3) (.nil)))))) (.lit (.bool true))) (.conj (.cmp .Gt (.var 7) (.lit (.int 0))) (.cmp .Is (.call i_bar_holds (.cons (.var 1) (.cons (.var 2) (.cons (.bin .Sub (.var 7) (.lit (.int 1))) (.cons (.var 3) (.nil)))))) (.lit (.bool true))))) (.cons (.ret (.lit (.bool false))) (.nil)) (.nil)) [some (.obj l), some (.py (offs asks)), some (.py (offs bids)), some (.i q), none, none, some (.i P), some (.i W), some (.py t1), some (.py t2), none, none] h = .ok (.nx [some (.obj l), some (.py (offs asks)), some (.py (offs bids)), some (.i q), none, none, some (.i P), some (.i W), some (.py t1), some (.py t2), none, none]) h := by
    by_cases hpos : 0 < W
    · simp only [ex, ev, evs, R.bind_ok, List.getElem?_cons_zero, List.getElem?_cons_succ, e5, isNot_tt, Option.map_some, rO_some, cmpD_int, cmp_gtI, decide_eq_true hpos, bin_sub, e6 hpos, is_ft]
    · simp only [ex, ev, evs, R.bind_ok, List.getElem?_cons_zero, List.getElem?_cons_succ, e5, isNot_tt, Option.map_some, rO_some, cmpD_int, cmp_gtI, decide_eq_false hpos]
  obtain ⟨a4, c6⟩ := kr3 k asks bids va vb ha hb P W p0 p1 hL h (some (.obj l)) (some (.i q)) none none (some (.py t1)) (some (.py t2)) none none
  obtain ⟨y, a4', a5, a10, a11, c7⟩ := kr1 k asks bids va vb ha hb P W p0 p1 hW h l x f hx (some (.i q)) a4 none (some (.py t1)) (some (.py t2)) none none
  have va' : ∀ o ∈ asks.reverse, Val o := fun o ho => va o (List.mem_reverse.mp ho)
  have vb' : ∀ o ∈ bids.reverse, Val o := fun o ho => vb o (List.mem_reverse.mp ho)
  have e8 := c_settled k asks.reverse bids.reverse va' vb' (by rw [List.length_reverse]; exact ha) (by rw [List.length_reverse]; exact hb) (h.set l (PO y f))
  rw [best_rev, eb] at e8
  obtain ⟨r1, hr1⟩ : ∃ t : PyData, t = .tuple ((fil asks.reverse ((rowS asks.reverse P).map (·.2)) W).map .int) := ⟨_, rfl⟩
  obtain ⟨r2, hr2⟩ : ∃ t : PyData, t = .tuple ((fil bids.reverse ((rowB 0 bids.reverse P).map (·.2)) W).map .int) := ⟨_, rfl⟩
  have est2 : stl asks.reverse bids.reverse (W, P) = .tuple [.int P, .int W, r1, r2] := by rw [hr1, hr2]; rfl
  rw [est2] at e8
  have sl : sliP (.tuple [.int P, .int W, r1, r2]) none (some 2) = some (.tuple [.int P, .int W]) := rfl
  refine ⟨y, ?_⟩
  have body : ex (callN F (k + 5)) b_law_right [some (.obj l), some (.py (offs asks)), some (.py (offs bids)), none, none, none, none, none, none, none, none, none] h = .ok (.rt (.b true)) (h.set l (PO y f)) := by
    unfold b_law_right
    rw [ex_cons c1, ex_cons c2, ex_cons c3, ex_cons c4, ex_cons c5, ex_cons c6, ex_cons c7, ex, ex, ev, ev, ev, evs, rev_offs _ 1 asks _ rfl, R.bind_ok, evs, rev_offs _ 2 bids _ rfl]
    simp only [evs, evp, ev, partD, R.bind_ok, e8, toPy, sl, Option.map_some, rO_some, List.getElem?_cons_zero, List.getElem?_cons_succ, mkTup, pys, eq_two]
  unfold runF
  rw [if_pos (show [D.obj l, D.py (offs asks), D.py (offs bids)].length = f_law_right.np from rfl)]
  show (ex (callN F (k + 5)) b_law_right [some (.obj l), some (.py (offs asks)), some (.py (offs bids)), none, none, none, none, none, none, none, none, none] h).bind _ = _
  rw [body, R.bind_ok]
  exact leave_chg0 (chg_set (PO_plain y f))
theorem kx0 (k : Nat) (h : AH) (l : Nat) (x f : Int) (hx : h[l]? = some (PO x f)) (s0 s1 s3 s4 : Option D) :
    ∃ y a4, ex (callN F (k + 6)) b_law_0 [s0, s1, some (.obj l), s3, s4] h = .ok (.nx [s0, s1, some (.obj l), s3, a4]) (h.set l (PO y f)) := by
  obtain ⟨y1, asks, e1, la, va⟩ := c_law_offers (k + 4) [] (by simp) h l x f hx
  obtain ⟨y2, bids, e2, lb, vb⟩ := c_law_offers (k + 4) asks la (h.set l (PO y1 f)) l y1 f (set_get hx)
  rw [List.set_set] at e2
  obtain ⟨y3, e3⟩ := c_law_right k asks bids va vb la lb (h.set l (PO y2 f)) l y2 f (set_get hx)
  rw [List.set_set] at e3
  refine ⟨y3, some (.py (offs asks)), ?_⟩
  have e4 : mkTup [] = .py (offs []) := rfl
  simp only [b_law_0, ex, ev, evs, asg, R.bind_ok, List.getElem?_cons_zero, List.getElem?_cons_succ, List.set_cons_succ, List.set_cons_zero, e4, e1, e2, e3, Bool.not_true]
theorem kx1 (k : Nat) (h : AH) (l : Nat) (x f : Int) (hx : h[l]? = some (PO x f)) (s0 s1 s3 s4 : Option D) :
    ∃ h' a3 a4, ex (callN F (k + 6)) b_law_1 [s0, s1, some (.obj l), s3, s4] h = .ok (.nx [s0, s1, some (.obj l), a3, a4]) h' := by
  have key := forL_inv (asg := asg (callN F (k + 6)) (.var 3)) (body := ex (callN F (k + 6)) b_law_0) (ok := okS ⟨rangeL 0 2, none⟩)
    (fun j σ H => ∃ (y : Int) (a3 a4 : Option D), H[l]? = some (PO y f) ∧ σ = [s0, s1, some (.obj l), a3, a4])
    (rangeL 0 2) 0 [s0, s1, some (.obj l), s3, s4] h ⟨x, s3, s4, hx, rfl⟩ (fun _ _ _ _ => okS_none _ _) (fun j z σ H hz hI => by
      obtain ⟨y, a3, a4, hy, rfl⟩ := hI
      obtain ⟨y', b4, e⟩ := kx0 k H l y f hy s0 s1 (some z) a4
      have ea : asg (callN F (k + 6)) (.var 3) z [s0, s1, some (.obj l), a3, a4] H = .ok [s0, s1, some (.obj l), some z, a4] H := by simp only [asg, List.set_cons_succ, List.set_cons_zero]
      exact ⟨_, _, ea, _, _, e, y', some z, b4, set_get hy, rfl⟩)
  obtain ⟨σ', H', e, y, a3, a4, hy, rfl⟩ := key
  refine ⟨H', a3, a4, ?_⟩
  have e0 : evi (callN F (k + 6)) (.rng1 (.lit (.int 2))) [s0, s1, some (.obj l), s3, s4] h = .ok ⟨rangeL 0 2, none⟩ h := evi_rng1 (n := 2) (by simp only [ev]; rfl) (by decide)
  rw [b_law_1, ex, e0, R.bind_ok]
  exact e
theorem kx2 (k : Nat) (n : Int) (h : AH) (s0 s2 s3 s4 : Option D) :
    ∃ h' a2 a3 a4, ex (callN F (k + 6)) b_law_2 [s0, some (.i n), s2, s3, s4] h = .ok (.nx [s0, some (.i n), a2, a3, a4]) h' := by
  obtain ⟨x, f, e1⟩ := pen_spec (F := F) (j := i_law_pen) rfl (k + 5) n h
  obtain ⟨h', a3, a4, e2⟩ := kx1 k (h ++ [PO x f]) h.length x f (get_end _ _) s0 (some (.i n)) s3 s4
  refine ⟨h', some (.obj h.length), a3, a4, ?_⟩
  simp only [b_law_2, ex, ev, evs, asg, R.bind_ok, List.getElem?_cons_zero, List.getElem?_cons_succ, List.set_cons_succ, List.set_cons_zero, e1, e2]
theorem law_ok (ns : List Int) (hl : ns.length ≤ 63) : ∃ h', callN F 12 i_law [.py (.list (ns.map .int))] [] = .ok (.b true) h' := by
  have e1 := cell_spec (F := F) (j := i_law_cell) rfl 10 ns []
  have e2 := cells_evi (C := callN F 11) (σ := [some (.py (.list (ns.map .int))), none, none, none, none]) e1 rfl hl 1 3
  have key := forL_inv (asg := asg (callN F 11) (.var 1)) (body := ex (callN F 11) b_law_2) (ok := okS ⟨(ns.getD 0 0 :: cutP ns (some 1) (some 3)).map D.i, none⟩)
    (fun j σ H => ∃ a1 a2 a3 a4, σ = [some (.py (.list (ns.map .int))), a1, a2, a3, a4])
    ((ns.getD 0 0 :: cutP ns (some 1) (some 3)).map D.i) 0 [some (.py (.list (ns.map .int))), none, none, none, none] [] ⟨none, none, none, none, rfl⟩ (fun _ _ _ _ => okS_none _ _) (fun j z σ H hz hI => by
      obtain ⟨a1, a2, a3, a4, rfl⟩ := hI
      have hn : ∃ n : Int, z = .i n := by
        have := List.mem_of_getElem? hz
        obtain ⟨n, _, e⟩ := List.mem_map.mp this
        exact ⟨n, e.symm⟩
      obtain ⟨n, rfl⟩ := hn
      obtain ⟨h', b2, b3, b4, e⟩ := kx2 5 n H (some (.py (.list (ns.map .int)))) a2 a3 a4
      exact ⟨_, _, (by simp only [asg, List.set_cons_succ, List.set_cons_zero]), _, _, e, some (.i n), b2, b3, b4, rfl⟩)
  obtain ⟨σ', H', e, a1, a2, a3, a4, rfl⟩ := key
  have e3 : ex (callN F 11) b_law_3 [some (.py (.list (ns.map .int))), none, none, none, none] [] = .ok (.nx [some (.py (.list (ns.map .int))), a1, a2, a3, a4]) H' := by
    rw [b_law_3, ex, e2, R.bind_ok]
    exact e
  refine ⟨[], ?_⟩
  rw [callN_succ F 11 i_law f_law rfl]
  have e4 : leave .pure [] (.py (.bool true)) H' = .ok (.py (.bool true)) [] := by
    have := leave_chg (p := .bool true) (chg_refl []) H'
    rwa [List.nil_append] at this
  simp only [runF, f_law, b_law, initS, ex, ev, R.bind_ok, List.map_cons, List.map_nil, List.cons_append, List.nil_append, List.length_cons, List.length_nil, List.replicate, if_true, Nat.reduceAdd, Nat.reduceSub, e3, e4]
end Zl
open PySem PySem.W PySem.Calls PyProof.Rows
theorem PySem.Challenge.cw_showbells_k55_whole_nothing_clears_more_holds : PySem.Challenge.rw_showbells_k55_whole_nothing_clears_more.Holds := by
  w_on; o_law
  refine HandSHeadRun.head_any (r := OpenLaw.row PySem.Challenge.rw_showbells_k55_whole_nothing_clears_more) (q := view (OpenLaw.row PySem.Challenge.rw_showbells_k55_whole_nothing_clears_more).prog [34]) (H := Zl.hHk) (ob := Zl.hOb) (M := 8000) (loose := Zl.hnames) (d := HandSHeadRun.topDef (OpenLaw.row PySem.Challenge.rw_showbells_k55_whole_nothing_clears_more).prog 34) (kwd := []) Zl.hOb_eq
    (by kernel_rfl) (fun s => by kernel_rfl) Zl.hRun (by kernel_rfl) (by kernel_rfl) (by kernel_rfl) (by rfl) (by first | assumption | decide +kernel) (by decide +kernel) ⟨rfl, rfl, rfl, rfl, rfl, by decide +kernel⟩ ?hw ?hc
  case hw => w_witness2
  case hc =>
    refine Zm.walkZ (l := PySem.Challenge.rw_showbells_k55_whole_nothing_clears_more) (n := 63) (k := 12) (φ := Zl.hPhi) rfl (by decide) (by kernel_rfl) ⟨rfl, by decide, by decide⟩ rfl ?F fun ns hl => Zl.law_ok ns hl
    intro w mg fa h Y G hmg0
    obtain ⟨K, KX, c⟩ := Y
    have hmg : mg ("law" : PySem.Str) = some (.ref fa) := by
      have e : (HandSHeadRun.topDef (OpenLaw.row PySem.Challenge.rw_showbells_k55_whole_nothing_clears_more).prog 34).name = ("law" : PySem.Str) := by kernel_rfl
      rw [← e]
      exact hmg0
    have M := Zm.md_of KX G c (by kernel_rfl)
    have e := hmg.symm.trans (M.fn 23 "law" (by rfl)).1
    cases e
    refine ⟨K, KX, fun base _ _ => ?_⟩
    exact Zm.levels (F := Zl.F) (fns := Zl.fns) (gl := Zl.gl) (ad := Zm.adr K Zl.fns) (by rfl) (fun j fn e => by
      have q := (Zl.ds_ (P := PySem.Challenge.rw_showbells_k55_whole_nothing_clears_more.prog) (w := w) (base := base) M c).get j fn e
      rw [Nat.zero_add] at q
      exact q) 12 23 _ (by rfl)
