import PyProof.Rows.All
import Wide.All
import OpenK.AllK
import Wide.FinOn
import HandS.ForMost
import HandS.TupAny
import HandS.TupMul
import HandS.IsInst
import HandS.Flow
import HandS.Conv
import HandS.CallLocal
import HandS.Defaults
import HandS.Style
import HandS.Zip
import KE.DataEq
import KE.KTupSum
import HandS.SortInts
import HandS.Rev
import HandS.Codes
import HandS.Head0
import HandS.Head1
import HandS.Head2
import HandS.HeadEnd
import HandS.HeadHook1
import HandS.HeadHook2
import KE.KStateDown
import HandS.Ends
import HandS.More
import HandS.Words
import HandS.WordsExc
import PySem.Challenge.RW_everystore_k69_whole_sieves
set_option Elab.async false
set_option linter.all false
set_option maxRecDepth 100000
set_option maxHeartbeats 4000000
/-! Ev1: the values, the small language, its evaluator. -/
namespace Ev
open PySem L2
/-- values as the evaluator has them -/
inductive D where
  | non | bl (b : Bool) | int (i : Int) | str (s : Str)
  | tup (l : List D) | lst (l : List D) | dct (l : List (Key × D)) | tab (n : Nat) | fn (n : Nat) | pool | scr (l : List Int)
/-- a slot's value: shared from now on, or a list (a dict) that the def alone holds -/
inductive Sl where
  | val (d : D) | own (d : D)
abbrev Rho := List (Option Sl)
abbrev Pl := List D
inductive Exc where
  | mk (c : Nat) (fs : List D)
inductive Out (α : Type) where
  | ok (a : α) (pl : Pl) | ex (x : Exc) (pl : Pl)
abbrev R (α : Type) := Option (Out α)
def bnd {α β : Type} (r : R α) (f : α → Pl → R β) : R β := match r with
  | none => none
  | some (.ok a pl) => f a pl
  | some (.ex x pl) => some (.ex x pl)
def lift {α : Type} (o : Option α) (pl : Pl) : R α := match o with
  | none => none
  | some a => some (.ok a pl)
inductive SOut where
  | nx (ρ : Rho) (pl : Pl) | rt (d : D) (pl : Pl) | bk (ρ : Rho) (pl : Pl) | ct (ρ : Rho) (pl : Pl) | ex (x : Exc) (pl : Pl)
abbrev RS := Option SOut
def bndS {α : Type} (r : R α) (f : α → Pl → RS) : RS := match r with
  | none => none
  | some (.ok a pl) => f a pl
  | some (.ex x pl) => some (.ex x pl)
abbrev Call := Nat → List D → Pl → R D
/-! ### the language -/
inductive Ty where
  | int | bool | str | tuple | list
  deriving DecidableEq
/-- built-ins of one argument -/
inductive Bi where
  | len | all | any | sum | int | tuple | list | sorted | min | max | abs | dict
  deriving DecidableEq
/-- built-ins of two arguments -/
inductive Bi2 where
  | max | min
  deriving DecidableEq
inductive Tg where
  | nm (i : Nat) | tp (l : List Nat)
mutual
inductive E where
  | non | bl (b : Bool) | int (i : Int) | str (s : Str)
  | var (i : Nat) | pk (i : Nat) | glo (x : Str) (d : D)
  | tup (es : Es) | lst (es : Es) | dnew
  | bin (op : Operator) (a b : E) | cmp (op : CmpOp) (a b : E) | chain (o1 o2 : CmpOp) (a b c : E)
  | neg (a : E) | nt (a : E) | an (a b : E) | orr (a b : E) | ite (c a b : E)
  | call (x : Str) (n : Nat) (es : Es) | callv (i : Nat) (es : Es)
  | bi (f : Bi) (a : E) | bi2 (f : Bi2) (a b : E) | isin (a : E) (t : Ty)
  | ix (a b : E) | slc (a : E) (lo hi : Eo) | rev (a : E)
  | lc (vs : List Nat) (tg : Tg) (it : It) (c : Eo) (elt : E)
  | lc2 (vs vs1 : List Nat) (tg : Tg) (it : It) (tg1 : Tg) (it1 : It) (c1 : Eo) (elt : E)
  | cat (a b : E) | lit (it : It) | dct (ks : List Key) (es : Es) | rvt (a : E)
inductive Es where
  | nil | cons (e : E) (es : Es)
inductive Eo where
  | none | some (e : E)
inductive It where
  | seq (e : E) | r1 (a : E) | r2 (a b : E) | r3 (a b : E) (c : Int) | zip (a b : E) | enum (a : E)
end
mutual
inductive S where
  | set (i : Nat) (e : E) | setN (i : Nat) (e : E) | setT (tg : List Nat) (e : E) | par (is : List Nat) (es : Es)
  | aug (i : Nat) (op : Operator) (e : E) | app (i : Nat) (e : E) | ext (i : Nat) (e : E) | sti (i : Nat) (k e : E)
  | ret (e : E) | retN | iff (c : E) (a b : Ss) | whl (c : E) (b : Ss) | forr (tg : Tg) (it : It) (b : Ss) | ex (e : E)
  | frz (i : Nat) | brk | st2 (i : Nat) (k1 k2 e1 e2 : E)
inductive Ss where
  | nil | cons (s : S) (r : Ss)
end
/-! ### operations on values -/
def getV (ρ : Rho) (i : Nat) : Option D := match ρ[i]? with
  | some (some (.val d)) => some d
  | _ => none
def getO (ρ : Rho) (i : Nat) : Option D := match ρ[i]? with
  | some (some (.own d)) => some d
  | _ => none
def wipeR (ρ : Rho) : List Nat → Rho
  | [] => ρ
  | v :: vs => (wipeR ρ vs).set v none
/-- own lists left out -/
def noOwn (ρ : Rho) : Rho := ρ.map fun o => match o with
  | some (.own _) => none
  | o => o
mutual
def toP : D → Option PyData
  | .non => some .none
  | .bl b => some (.bool b)
  | .int i => some (.int i)
  | .str s => some (.str s)
  | .tup l => (toPs l).map .tuple
  | .lst l => (toPs l).map .list
  | _ => none
def toPs : List D → Option (List PyData)
  | [] => some []
  | d :: ds => match toP d, toPs ds with
    | some p, some ps => some (p :: ps)
    | _, _ => none
end
def mulOk (i j : Int) : Bool := decide ((-(2 ^ 64) < i ∧ i < 2 ^ 64) ∨ (-(2 ^ 64) < j ∧ j < 2 ^ 64))
def LIM : Nat := 16777216
def binS : Operator → D → D → Option D
  | .Add, .int a, .int b => some (.int (a + b))
  | .Add, .tup a, .tup b => if a.length + b.length ≤ LIM then some (.tup (a ++ b)) else none
  | .Add, .lst a, .lst b => if a.length + b.length ≤ LIM then some (.lst (a ++ b)) else none
  | .Add, .str a, .str b => if a.length + b.length ≤ LIM then some (.str (a ++ b)) else none
  | .Sub, .int a, .int b => some (.int (a - b))
  | .Mult, .int a, .int b => if mulOk a b = true then some (.int (a * b)) else none
  | .Mult, .lst a, .int k => if -(2 ^ 62) ≤ k ∧ k < 2 ^ 62 ∧ a.length * k.toNat ≤ LIM then some (.lst (List.replicate k.toNat a).flatten) else none
  | .FloorDiv, .int a, .int b => if 0 < b ∧ b < 1073741824 then some (.int (a / b)) else none
  | .Mod, .int a, .int b => if 0 < b then some (.int (a % b)) else none
  | _, _, _ => none
def augS (op : Operator) (a b : D) : Option D := match a, b with
  | .int i, .int j => binS op (.int i) (.int j)
  | _, _ => none
def dep (p q : PyData) : Bool := decide (min p.depth q.depth ≤ 180)
def eqS (a b : D) : Option Bool := match toP a, toP b with
  | some p, some q => if dep p q = true then some (PyData.eqv p q) else none
  | _, _ => none
def valD (l : List (Key × D)) (k : Key) : Option D := (l.find? fun kv => decide (kv.1 = k)).map (·.2)
def keyD : D → Option Key
  | .int i => some (.inl i)
  | .str s => some (.inr s)
  | _ => none
def inS (a b : D) : Option Bool := match b with
  | .lst l => match toP a, toPs l with
    | some p, some qs => if dep p (.tuple qs) = true then some (qs.any fun q => PyData.eqv q p) else none
    | _, _ => none
  | .tup l => match toP a, toPs l with
    | some p, some qs => if dep p (.tuple qs) = true then some (qs.any fun q => PyData.eqv q p) else none
    | _, _ => none
  | .dct l => match keyD a with
    | some k => some (valD l k).isSome
    | none => none
  | _ => none
def isNon : D → Bool
  | .non => true
  | _ => false
def cmpS : CmpOp → D → D → Option Bool
  | .Lt, .int a, .int b => some (decide (a < b))
  | .LtE, .int a, .int b => some (decide (a ≤ b))
  | .Gt, .int a, .int b => some (decide (b < a))
  | .GtE, .int a, .int b => some (decide (b ≤ a))
  | .Eq, a, b => eqS a b
  | .NotEq, a, b => (eqS a b).map (!·)
  | .In, a, b => inS a b
  | .NotIn, a, b => (inS a b).map (!·)
  | .Is, a, .non => some (isNon a)
  | .IsNot, a, .non => some (!isNon a)
  | _, _, _ => none
def boolL : List D → Option (List Bool)
  | [] => some []
  | .bl b :: r => (boolL r).map (b :: ·)
  | _ :: _ => none
def intL : List D → Option (List Int)
  | [] => some []
  | .int i :: r => (intL r).map (i :: ·)
  | _ :: _ => none
def seqOf : D → Option (List D)
  | .tup l => some l
  | .lst l => some l
  | .scr l => some (l.map .int)
  | _ => none
def minL : List Int → Option Int
  | [] => none
  | x :: r => some (r.foldl min x)
def maxL : List Int → Option Int
  | [] => none
  | x :: r => some (r.foldl max x)
/-- intL, ascending -/
def sortI (l : List Int) : List Int := l.mergeSort fun a b => decide (a ≤ b)
def biS : Bi → D → Option D
  | .len, .tup l => some (.int l.length)
  | .len, .lst l => some (.int l.length)
  | .len, .scr l => some (.int l.length)
  | .len, .dct l => some (.int l.length)
  | .len, .str s => if s.length ≤ LIM then some (.int s.length) else none
  | .all, .lst l => (boolL l).map fun bs => .bl (bs.all id)
  | .any, .lst l => (boolL l).map fun bs => .bl (bs.any id)
  | .sum, .lst l => (intL l).map fun ns => .int ns.sum
  | .sum, .tup l => (intL l).map fun ns => .int ns.sum
  | .int, .int i => some (.int i)
  | .int, .bl b => some (.int (if b then 1 else 0))
  | .tuple, .tup l => some (.tup l)
  | .tuple, .lst l => some (.tup l)
  | .list, .tup l => some (.lst l)
  | .list, .lst l => some (.lst l)
  | .list, .scr l => some (.lst (l.map .int))
  | .min, .lst l => match intL l with
    | some ns => (minL ns).map .int
    | none => none
  | .max, .lst l => match intL l with
    | some ns => (maxL ns).map .int
    | none => none
  | .abs, .int i => some (.int (if i < 0 then -i else i))
  | .sorted, .lst l => match intL l with
    | some ns => some (.lst ((sortI ns).map .int))
    | none => none
  | _, _ => none
def bi2S : Bi2 → D → D → Option D
  | .max, .int a, .int b => some (.int (if b > a then b else a))
  | .min, .int a, .int b => some (.int (if b < a then b else a))
  | _, _, _ => none
def isinS : Ty → D → Option Bool
  | .int, .int _ => some true
  | .int, .bl _ => some true
  | .int, .non => some false
  | .int, .str _ => some false
  | .int, .tup _ => some false
  | .int, .lst _ => some false
  | .int, .dct _ => some false
  | .bool, .bl _ => some true
  | .bool, .int _ => some false
  | .bool, .non => some false
  | .bool, .str _ => some false
  | .bool, .tup _ => some false
  | .bool, .lst _ => some false
  | .bool, .dct _ => some false
  | .str, .str _ => some true
  | .str, .int _ => some false
  | .str, .bl _ => some false
  | .str, .non => some false
  | .str, .tup _ => some false
  | .str, .lst _ => some false
  | .str, .dct _ => some false
  | .tuple, .tup _ => some true
  | .tuple, .int _ => some false
  | .tuple, .bl _ => some false
  | .tuple, .non => some false
  | .tuple, .str _ => some false
  | .tuple, .lst _ => some false
  | .tuple, .dct _ => some false
  | .list, .lst _ => some true
  | .list, .int _ => some false
  | .list, .bl _ => some false
  | .list, .non => some false
  | .list, .str _ => some false
  | .list, .tup _ => some false
  | .list, .dct _ => some false
  | _, _ => none
def ixS : D → D → Pl → Option D
  | .tup l, .int i, _ => atI l i
  | .lst l, .int i, _ => atI l i
  | .pool, .int i, pl => atI pl i
  | .dct l, k, _ => match keyD k with
    | some k => valD l k
    | none => none
  | _, _, _ => none
def cutD {α : Type} (xs : List α) (lo hi : Option Int) : List α := (xs.drop (HT.sIx xs.length 0 lo)).take (HT.sIx xs.length xs.length hi - HT.sIx xs.length 0 lo)
def slcS : D → Option Int → Option Int → Option D
  | .tup l, lo, hi => some (.tup (cutD l lo hi))
  | .lst l, lo, hi => some (.lst (cutD l lo hi))
  | .scr l, lo, hi => some (.lst ((cutD l lo hi).map .int))
  | _, _, _ => none
def revS : D → Option D
  | .tup l => some (.tup l.reverse)
  | .lst l => some (.lst l.reverse)
  | _ => none
def setAll : List Nat → List D → Rho → Option Rho
  | [], [], ρ => some ρ
  | i :: is, d :: ds, ρ => setAll is ds (ρ.set i (some (.val d)))
  | _, _, _ => none
def setTg : Tg → D → Rho → Option Rho
  | .nm i, d, ρ => some (ρ.set i (some (.val d)))
  | .tp l, .tup ds, ρ => setAll l ds ρ
  | _, _, _ => none
def rng (a : Int) (n : Nat) : List D := (List.range n).map fun (k : Nat) => .int (a + k)
def rngC (a c : Int) (n : Nat) : List D := (List.range n).map fun (k : Nat) => .int (a + (k : Nat) * c)
def small (a : Int) : Bool := decide (-(2 ^ 62) ≤ a ∧ a < 2 ^ 62)
def zipD : List D → List D → List D
  | a :: as, b :: bs => .tup [a, b] :: zipD as bs
  | _, _ => []
def enumD : Nat → List D → List D
  | n, a :: as => .tup [.int n, a] :: enumD (n + 1) as
  | _, [] => []
def boolOf : D → Option Bool
  | .bl b => some b
  | _ => none
def intOf : D → Option Int
  | .int i => some i
  | _ => none
def compL (f : D → Pl → R (List D)) : List D → Pl → R (List D)
  | [], pl => some (.ok [] pl)
  | x :: xs, pl => match f x pl with
    | some (.ok ys pl1) => (match compL f xs pl1 with
      | some (.ok zs pl2) => some (.ok (ys ++ zs) pl2)
      | _ => none)
    | _ => none
/-! ### the evaluator -/
mutual
def evE (cl : Call) : E → Rho → Pl → R D
  | .non, _, pl => some (.ok .non pl)
  | .bl b, _, pl => some (.ok (.bl b) pl)
  | .int i, _, pl => some (.ok (.int i) pl)
  | .str s, _, pl => some (.ok (.str s) pl)
  | .var i, ρ, pl => lift (getV ρ i) pl
  | .pk i, ρ, pl => lift (getO ρ i) pl
  | .glo _ d, _, pl => some (.ok d pl)
  | .tup es, ρ, pl => bnd (evEs cl es ρ pl) fun ds pl => some (.ok (.tup ds) pl)
  | .lst es, ρ, pl => bnd (evEs cl es ρ pl) fun ds pl => some (.ok (.lst ds) pl)
  | .dnew, _, pl => some (.ok (.dct []) pl)
  | .bin op a b, ρ, pl => bnd (evE cl a ρ pl) fun x pl => bnd (evE cl b ρ pl) fun y pl => lift (binS op x y) pl
  | .cmp op a b, ρ, pl => bnd (evE cl a ρ pl) fun x pl => bnd (evE cl b ρ pl) fun y pl => lift ((cmpS op x y).map .bl) pl
  | .chain o1 o2 a b c, ρ, pl => bnd (evE cl a ρ pl) fun x pl => bnd (evE cl b ρ pl) fun y pl => match cmpS o1 x y with
    | some true => bnd (evE cl c ρ pl) fun z pl => lift ((cmpS o2 y z).map .bl) pl
    | some false => some (.ok (.bl false) pl)
    | none => none
  | .neg a, ρ, pl => bnd (evE cl a ρ pl) fun x pl => lift ((intOf x).map fun i => .int (-i)) pl
  | .nt a, ρ, pl => bnd (evE cl a ρ pl) fun x pl => lift ((boolOf x).map fun b => .bl (!b)) pl
  | .an a b, ρ, pl => bnd (evE cl a ρ pl) fun x pl => match boolOf x with
    | some true => evE cl b ρ pl
    | some false => some (.ok (.bl false) pl)
    | none => none
  | .orr a b, ρ, pl => bnd (evE cl a ρ pl) fun x pl => match boolOf x with
    | some false => evE cl b ρ pl
    | some true => some (.ok (.bl true) pl)
    | none => none
  | .ite c a b, ρ, pl => bnd (evE cl c ρ pl) fun x pl => match boolOf x with
    | some true => evE cl a ρ pl
    | some false => evE cl b ρ pl
    | none => none
  | .call _ n es, ρ, pl => bnd (evEs cl es ρ pl) fun ds pl => cl n ds pl
  | .callv i es, ρ, pl => match getV ρ i with
    | some (.fn n) => bnd (evEs cl es ρ pl) fun ds pl => cl n ds pl
    | _ => none
  | .bi f a, ρ, pl => bnd (evE cl a ρ pl) fun x pl => lift (biS f x) pl
  | .bi2 f a b, ρ, pl => bnd (evE cl a ρ pl) fun x pl => bnd (evE cl b ρ pl) fun y pl => lift (bi2S f x y) pl
  | .isin a t, ρ, pl => bnd (evE cl a ρ pl) fun x pl => lift ((isinS t x).map .bl) pl
  | .ix a b, ρ, pl => bnd (evE cl a ρ pl) fun x pl => bnd (evE cl b ρ pl) fun y pl => lift (ixS x y pl) pl
  | .slc a lo hi, ρ, pl => bnd (evE cl a ρ pl) fun x pl => bnd (evO cl lo ρ pl) fun l pl => bnd (evO cl hi ρ pl) fun h pl => lift (slcS x l h) pl
  | .rev a, ρ, pl => bnd (evE cl a ρ pl) fun x pl => lift (revS x) pl
  | .lc vs tg it c elt, ρ, pl => bnd (evIt cl it ρ pl) fun xs pl => bnd (compL (fun x pl => match setTg tg x (wipeR ρ vs) with
      | none => none
      | some ρ2 => bnd (evC cl c ρ2 pl) fun b pl => match b with
        | true => bnd (evE cl elt ρ2 pl) fun y pl => some (.ok [y] pl)
        | false => some (.ok [] pl)) xs pl) fun ys pl => some (.ok (.lst ys) pl)
  | .lc2 vs vs1 tg it tg1 it1 c1 elt, ρ, pl => bnd (evIt cl it ρ pl) fun xs pl => bnd (compL (fun x pl => match setTg tg x (noOwn (wipeR ρ vs)) with
      | none => none
      | some ρ2 => bnd (evIt cl it1 ρ2 pl) fun xs1 pl => compL (fun x1 pl => match setTg tg1 x1 (wipeR ρ2 vs1) with
        | none => none
        | some ρ3 => bnd (evC cl c1 ρ3 pl) fun b pl => match b with
          | true => bnd (evE cl elt ρ3 pl) fun y pl => some (.ok [y] pl)
          | false => some (.ok [] pl)) xs1 pl) xs pl) fun ys pl => if ys.length ≤ LIM then some (.ok (.lst ys) pl) else none
  | .cat a b, ρ, pl => bnd (evE cl a ρ pl) fun x pl => bnd (evE cl b ρ pl) fun y pl => match x, y with
    | .lst l, .lst m => if l.length + m.length ≤ LIM then some (.ok (.lst (l ++ m)) pl) else none
    | _, _ => none
  | .lit it, ρ, pl => bnd (evIt cl it ρ pl) fun xs pl => some (.ok (.lst xs) pl)
  | .dct ks es, ρ, pl => bnd (evEs cl es ρ pl) fun ds pl => if ds.length = ks.length ∧ ks.Nodup then some (.ok (.dct (ks.zip ds)) pl) else none
  | .rvt a, ρ, pl => bnd (evE cl a ρ pl) fun x pl => match x with
    | .tup l => some (.ok (.tup l.reverse) pl)
    | .lst l => some (.ok (.tup l.reverse) pl)
    | _ => none
def evEs (cl : Call) : Es → Rho → Pl → R (List D)
  | .nil, _, pl => some (.ok [] pl)
  | .cons e es, ρ, pl => bnd (evE cl e ρ pl) fun x pl => bnd (evEs cl es ρ pl) fun xs pl => some (.ok (x :: xs) pl)
def evO (cl : Call) : Eo → Rho → Pl → R (Option Int)
  | .none, _, pl => some (.ok none pl)
  | .some e, ρ, pl => bnd (evE cl e ρ pl) fun x pl => match intOf x with
    | some i => some (.ok (some i) pl)
    | none => none
def evC (cl : Call) : Eo → Rho → Pl → R Bool
  | .none, _, pl => some (.ok true pl)
  | .some e, ρ, pl => bnd (evE cl e ρ pl) fun x pl => lift (boolOf x) pl
def evIt (cl : Call) : It → Rho → Pl → R (List D)
  | .seq e, ρ, pl => bnd (evE cl e ρ pl) fun x pl => lift (seqOf x) pl
  | .r1 a, ρ, pl => bnd (evE cl a ρ pl) fun x pl => match intOf x with
    | some n => if small n = true ∧ n.toNat ≤ LIM then some (.ok (rng 0 n.toNat) pl) else none
    | none => none
  | .r2 a b, ρ, pl => bnd (evE cl a ρ pl) fun x pl => bnd (evE cl b ρ pl) fun y pl => match intOf x, intOf y with
    | some i, some j => if small i = true ∧ small j = true ∧ (j - i).toNat ≤ LIM then some (.ok (rng i (j - i).toNat) pl) else none
    | _, _ => none
  | .r3 a b c, ρ, pl => bnd (evE cl a ρ pl) fun x pl => bnd (evE cl b ρ pl) fun y pl => match intOf x, intOf y with
    | some i, some j => if c ≠ 0 ∧ c.natAbs < 1073741824 ∧ Builtin.Range.small i j c = true ∧ 0 ≤ Builtin.Range.rangeSize i j c ∧ (Builtin.Range.rangeSize i j c).toNat ≤ LIM then some (.ok (rngC i c (Builtin.Range.rangeSize i j c).toNat) pl) else none
    | _, _ => none
  | .zip a b, ρ, pl => bnd (evE cl a ρ pl) fun x pl => bnd (evE cl b ρ pl) fun y pl => match x, y with
    | .tup l, .tup r => some (.ok (zipD l r) pl)
    | _, _ => none
  | .enum a, ρ, pl => bnd (evE cl a ρ pl) fun x pl => match x with
    | .tup l => some (.ok (enumD 0 l) pl)
    | _ => none
end
def forL (body : D → Rho → Pl → RS) : List D → Rho → Pl → RS
  | [], ρ, pl => some (.nx ρ pl)
  | x :: xs, ρ, pl => match body x ρ pl with
    | some (.nx ρ' pl') => forL body xs ρ' pl'
    | some (.ct ρ' pl') => forL body xs ρ' pl'
    | some (.bk ρ' pl') => some (.nx ρ' pl')
    | o => o
def whlL (c : Rho → Pl → R Bool) (body : Rho → Pl → RS) : Nat → Rho → Pl → RS
  | 0, _, _ => none
  | n + 1, ρ, pl => bndS (c ρ pl) fun b pl => match b with
    | true => (match body ρ pl with
      | some (.nx ρ' pl') => whlL c body n ρ' pl'
      | some (.ct ρ' pl') => whlL c body n ρ' pl'
      | some (.bk ρ' pl') => some (.nx ρ' pl')
      | o => o)
    | false => some (.nx ρ pl)
/-- the most turns of a while -/
def WF : Nat := 1000000
mutual
def evS (cl : Call) : S → Rho → Pl → RS
  | .set i e, ρ, pl => bndS (evE cl e ρ pl) fun d pl => some (.nx (ρ.set i (some (.val d))) pl)
  | .setN i e, ρ, pl => bndS (evE cl e ρ pl) fun d pl => some (.nx (ρ.set i (some (.own d))) pl)
  | .setT tg e, ρ, pl => bndS (evE cl e ρ pl) fun d pl => match setTg (.tp tg) d ρ with
    | some ρ' => some (.nx ρ' pl)
    | none => none
  | .par is es, ρ, pl => bndS (evEs cl es ρ pl) fun ds pl => match setAll is ds ρ with
    | some ρ' => some (.nx ρ' pl)
    | none => none
  | .aug i op e, ρ, pl => match getV ρ i with
    | some x => bndS (evE cl e ρ pl) fun y pl => match augS op x y with
      | some z => some (.nx (ρ.set i (some (.val z))) pl)
      | none => none
    | none => none
  | .app i e, ρ, pl => bndS (evE cl e ρ pl) fun d pl => match getO ρ i with
    | some (.lst l) => if l.length < LIM then some (.nx (ρ.set i (some (.own (.lst (l ++ [d]))))) pl) else none
    | _ => none
  | .ext i e, ρ, pl => bndS (evE cl e ρ pl) fun d pl => match getO ρ i, d with
    | some (.lst l), .lst m => if l.length + m.length ≤ LIM then some (.nx (ρ.set i (some (.own (.lst (l ++ m))))) pl) else none
    | _, _ => none
  | .sti i k e, ρ, pl => bndS (evE cl e ρ pl) fun d pl => bndS (evE cl k ρ pl) fun x pl => match getO ρ i, getV ρ i, x with
    | some (.lst l), _, .int z => (match ixN l.length z with
      | some j => some (.nx (ρ.set i (some (.own (.lst (l.set j d))))) pl)
      | none => none)
    | none, some .pool, .int z => (match ixN pl.length z with
      | some j => some (.nx ρ (pl.set j d))
      | none => none)
    | _, _, _ => none
  | .ret e, ρ, pl => bndS (evE cl e ρ pl) fun d pl => some (.rt d pl)
  | .retN, _, pl => some (.rt .non pl)
  | .iff c a b, ρ, pl => bndS (evE cl c ρ pl) fun x pl => match boolOf x with
    | some true => evSs cl a ρ pl
    | some false => evSs cl b ρ pl
    | none => none
  | .whl c b, ρ, pl => whlL (fun ρ pl => bnd (evE cl c ρ pl) fun x pl => lift (boolOf x) pl) (fun ρ pl => evSs cl b ρ pl) WF ρ pl
  | .forr tg it b, ρ, pl => bndS (evIt cl it ρ pl) fun xs pl => forL (fun x ρ pl => match setTg tg x ρ with
    | some ρ' => evSs cl b ρ' pl
    | none => none) xs ρ pl
  | .ex e, ρ, pl => bndS (evE cl e ρ pl) fun _ pl => some (.nx ρ pl)
  | .frz i, ρ, pl => match getO ρ i with
    | some d => some (.nx (ρ.set i (some (.val d))) pl)
    | none => none
  | .brk, ρ, pl => some (.bk ρ pl)
  | .st2 i k1 k2 e1 e2, ρ, pl => bndS (evE cl e1 ρ pl) fun d1 pl => bndS (evE cl e2 ρ pl) fun d2 pl => bndS (evE cl k1 ρ pl) fun x1 pl => match getO ρ i, x1 with
    | some (.lst l), .int z1 => (match ixN l.length z1 with
      | some j1 => bndS (evE cl k2 (ρ.set i (some (.own (.lst (l.set j1 d1))))) pl) fun x2 pl => (match x2 with
        | .int z2 => (match ixN l.length z2 with
          | some j2 => some (.nx (ρ.set i (some (.own (.lst ((l.set j1 d1).set j2 d2))))) pl)
          | none => none)
        | _ => none)
      | none => none)
    | _, _ => none
def evSs (cl : Call) : Ss → Rho → Pl → RS
  | .nil, ρ, pl => some (.nx ρ pl)
  | .cons s r, ρ, pl => match evS cl s ρ pl with
    | some (.nx ρ' pl') => evSs cl r ρ' pl'
    | o => o
end
/-- a def: its parameters, all its names, its body -/
structure DefI where
  ps : List Str
  N : List Str
  body : Ss
def retS : RS → R D
  | some (.rt d pl) => some (.ok d pl)
  | some (.nx _ pl) => some (.ok .non pl)
  | some (.ex x pl) => some (.ex x pl)
  | _ => none
def startR (n : Nat) (ds : List D) : Rho := ds.map (fun d => some (.val d)) ++ List.replicate (n - ds.length) none
def evF (P : List DefI) : Nat → Call
  | 0 => fun _ _ _ => none
  | k + 1 => fun n ds pl => match P[n]? with
    | some d => if ds.length = d.ps.length then retS (evSs (evF P k) d.body (startR d.N.length ds) pl) else none
    | none => none

def E.notPk : E → Bool
  | .pk _ => false
  | _ => true
/-- what it walks isn't an own list -/
def It.frozen : It → Bool
  | .seq e => e.notPk
  | .zip a b => a.notPk && b.notPk
  | .enum a => a.notPk
  | _ => true
end Ev

set_option Elab.async false
set_option linter.all false
set_option maxRecDepth 100000
set_option maxHeartbeats 4000000
/-! Ev2: how the model's values stand for the evaluator's. -/
namespace Ev
open PySem PySem.Spec PyProof.Rows L2
structure Tb where
  P : Program
  w : World
  K : PySem.W.Frag
  mg : Str → Option Value
  base : Heap
  fa : Nat → Addr
abbrev Sub (F H : Hp) : Prop := ∀ a o, F a = some o → H a = some o
def KT (K : PySem.W.Frag) (a : Addr) (vs : List V) : Prop := ∃ (o : Obj) (its : Array Value) (n : Nat), K.lookup a = some o ∧ o.cls = .type "tuple" ∧ o.data = .seq its n ∧ its.size ≤ sizeLine ∧ Vals vs its.toList
def TQ (K : PySem.W.Frag) (F : Hp) (a : Addr) (vs : List V) : Prop := F a = some (.tup vs) ∨ KT K a vs
theorem TQ.mono {K : PySem.W.Frag} {F H : Hp} {a : Addr} {vs : List V} (h : TQ K F a vs) (s : Sub F H) : TQ K H a vs := h.imp (s _ _) id
theorem TQ.seq {K : PySem.W.Frag} {H : Hp} {a : Addr} {vs : List V} (h : TQ K H a vs) : SqT K H a vs := h.imp (fun e => .inl e) id
theorem rdMono {F H : Hp} {a : Addr} {u : HO} (h : L2.Rd F a u) (s : Sub F H) : L2.Rd H a u := h.imp (s _ _) fun ⟨o, e⟩ => ⟨o, s _ _ e⟩
theorem sqlMono {K : PySem.W.Frag} {F H : Hp} {a : Addr} {vs : List V} (h : SqL K F a vs) (s : Sub F H) : SqL K H a vs := h.imp (fun r => rdMono r s) id
mutual
def RV (T : Tb) (pa : Option Addr) (F : Hp) : D → V → Prop
  | .non, v => v = .non
  | .bl b, v => v = .bl b
  | .int i, v => v = .int i
  | .str s, v => v = .str s
  | .tup l, v => ∃ a vs, v = .ref a ∧ TQ T.K F a vs ∧ RVs T pa F l vs
  | .lst l, v => ∃ a vs, v = .ref a ∧ F a = some (.lst vs) ∧ RVs T pa F l vs
  | .dct l, v => ∃ a kvs, v = .ref a ∧ L2.Rd F a (.dK kvs) ∧ RVk T pa F l kvs
  | .tab _, _ => False
  | .fn n, v => v = .ref (T.fa n)
  | .pool, v => ∃ a, pa = some a ∧ v = .ref a
  | .scr l, v => ∃ a, v = .ref a ∧ SqL T.K F a (l.map V.int)
def RVs (T : Tb) (pa : Option Addr) (F : Hp) : List D → List V → Prop
  | [], vs => vs = []
  | d :: ds, vs => ∃ v r, vs = v :: r ∧ RV T pa F d v ∧ RVs T pa F ds r
def RVk (T : Tb) (pa : Option Addr) (F : Hp) : List (Key × D) → List (Key × V) → Prop
  | [], vs => vs = []
  | d :: ds, vs => ∃ v r, vs = (d.1, v) :: r ∧ RV T pa F d.2 v ∧ RVk T pa F ds r
end
section
variable {T : Tb} {pa pa' : Option Addr} {F F' H H' : Hp}
mutual
theorem RV.mono (s : Sub F F') (hp : pa = none ∨ pa' = pa) : ∀ (d : D) (v : V), RV T pa F d v → RV T pa' F' d v
  | .non, _, h => h
  | .bl _, _, h => h
  | .int _, _, h => h
  | .str _, _, h => h
  | .tup l, v, h => by
    obtain ⟨a, vs, e, t, r⟩ := h
    exact ⟨a, vs, e, t.mono s, RVs.mono s hp l vs r⟩
  | .lst l, v, h => by
    obtain ⟨a, vs, e, t, r⟩ := h
    exact ⟨a, vs, e, s _ _ t, RVs.mono s hp l vs r⟩
  | .dct l, v, h => by
    obtain ⟨a, vs, e, t, r⟩ := h
    exact ⟨a, vs, e, rdMono t s, RVk.mono s hp l vs r⟩
  | .tab _, _, h => h
  | .fn _, _, h => h
  | .pool, _, h => by
    obtain ⟨a, e, r⟩ := h
    rcases hp with hp | hp
    · rw [hp] at e; cases e
    · exact ⟨a, hp.trans e, r⟩
  | .scr _, _, h => by
    obtain ⟨a, e, r⟩ := h
    exact ⟨a, e, sqlMono r s⟩
theorem RVs.mono (s : Sub F F') (hp : pa = none ∨ pa' = pa) : ∀ (ds : List D) (vs : List V), RVs T pa F ds vs → RVs T pa' F' ds vs
  | [], _, h => h
  | d :: ds, vs, h => by
    obtain ⟨v, r, e, h1, h2⟩ := h
    exact ⟨v, r, e, RV.mono s hp d v h1, RVs.mono s hp ds r h2⟩
theorem RVk.mono (s : Sub F F') (hp : pa = none ∨ pa' = pa) : ∀ (ds : List (Key × D)) (vs : List (Key × V)), RVk T pa F ds vs → RVk T pa' F' ds vs
  | [], _, h => h
  | d :: ds, vs, h => by
    obtain ⟨v, r, e, h1, h2⟩ := h
    exact ⟨v, r, e, RV.mono s hp d.2 v h1, RVk.mono s hp ds r h2⟩
end
theorem RVs.nil : RVs T pa F [] [] := rfl
theorem RVs.cons {d : D} {v : V} {ds : List D} {vs : List V} (h : RV T pa F d v) (r : RVs T pa F ds vs) : RVs T pa F (d :: ds) (v :: vs) := ⟨v, vs, rfl, h, r⟩
theorem RVs.len : ∀ {ds : List D} {vs : List V}, RVs T pa F ds vs → vs.length = ds.length
  | [], _, h => by cases (show _ = [] from h); rfl
  | _ :: _, _, h => by
    obtain ⟨v, r, rfl, _, h2⟩ := h
    simp [h2.len]
theorem RVs.get : ∀ {ds : List D} {vs : List V}, RVs T pa F ds vs → ∀ {i : Nat} {d : D}, ds[i]? = some d → ∃ v, vs[i]? = some v ∧ RV T pa F d v
  | [], _, _, _, _, e => by simp at e
  | d :: ds, _, h, 0, _, e => by
    obtain ⟨v, r, rfl, h1, _⟩ := h
    simp at e; subst e
    exact ⟨v, rfl, h1⟩
  | d :: ds, _, h, i + 1, _, e => by
    obtain ⟨v, r, rfl, _, h2⟩ := h
    obtain ⟨u, e1, e2⟩ := RVs.get h2 (i := i) (by simpa using e)
    exact ⟨u, by simpa using e1, e2⟩
theorem RVs.of_get : ∀ {ds : List D} {vs : List V}, vs.length = ds.length → (∀ (i : Nat) (d : D) (v : V), ds[i]? = some d → vs[i]? = some v → RV T pa F d v) → RVs T pa F ds vs
  | [], [], _, _ => rfl
  | [], _ :: _, e, _ => by simp at e
  | _ :: _, [], e, _ => by simp at e
  | d :: ds, v :: vs, e, h => RVs.cons (h 0 d v rfl rfl) (RVs.of_get (by simpa using e) fun i d v h1 h2 => h (i + 1) d v (by simpa using h1) (by simpa using h2))
theorem RVs.at {ds : List D} {vs : List V} (h : RVs T pa F ds vs) {i : Nat} {d : D} {v : V} (e : ds[i]? = some d) (e2 : vs[i]? = some v) : RV T pa F d v := by
  obtain ⟨u, e3, r⟩ := h.get e
  rw [e2] at e3; cases e3; exact r
theorem RVs.append {ds es : List D} {vs us : List V} (h : RVs T pa F ds vs) (g : RVs T pa F es us) : RVs T pa F (ds ++ es) (vs ++ us) := by
  induction ds generalizing vs with
  | nil => cases (show _ = [] from h); exact g
  | cons d ds ih =>
    obtain ⟨v, r, rfl, h1, h2⟩ := h
    exact .cons h1 (ih h2)
theorem RVs.drop {ds : List D} {vs : List V} (h : RVs T pa F ds vs) (n : Nat) : RVs T pa F (ds.drop n) (vs.drop n) :=
  .of_get (by simp [h.len]) fun i d v e1 e2 => h.at (i := n + i) (by simpa using e1) (by simpa using e2)
theorem RVs.take {ds : List D} {vs : List V} (h : RVs T pa F ds vs) (n : Nat) : RVs T pa F (ds.take n) (vs.take n) := by
  refine .of_get (by simp [h.len]) fun i d v e1 e2 => ?_
  by_cases hi : i < n
  · rw [List.getElem?_take, if_pos hi] at e1 e2
    exact h.at e1 e2
  · rw [List.getElem?_take, if_neg hi] at e1
    cases e1
theorem RVs.cut {ds : List D} {vs : List V} (h : RVs T pa F ds vs) (lo hi : Option Int) : RVs T pa F (cutD ds lo hi) (cutV vs lo hi) := by
  unfold cutD cutV
  rw [h.len]
  exact (h.drop _).take _
theorem RVs.set {ds : List D} {vs : List V} (h : RVs T pa F ds vs) {d : D} {v : V} (r : RV T pa F d v) (n : Nat) : RVs T pa F (ds.set n d) (vs.set n v) := by
  refine .of_get (by simp [h.len]) fun i d' v' e1 e2 => ?_
  rw [List.getElem?_set] at e1 e2
  by_cases hi : n = i
  · rw [if_pos hi] at e1 e2
    split at e1
    · split at e2
      · cases e1; cases e2; exact r
      · cases e2
    · cases e1
  · rw [if_neg hi] at e1 e2
    exact h.at e1 e2
theorem RVs.reverse {ds : List D} {vs : List V} (h : RVs T pa F ds vs) : RVs T pa F ds.reverse vs.reverse := by
  induction ds generalizing vs with
  | nil => cases (show _ = [] from h); exact rfl
  | cons d ds ih =>
    obtain ⟨v, r, rfl, h1, h2⟩ := h
    rw [List.reverse_cons, List.reverse_cons]
    exact (ih h2).append (.cons h1 .nil)
theorem RVs.rep {ds : List D} {vs : List V} (h : RVs T pa F ds vs) : ∀ n : Nat, RVs T pa F (List.replicate n ds).flatten (List.replicate n vs).flatten
  | 0 => rfl
  | n + 1 => by
    rw [List.replicate_succ, List.replicate_succ, List.flatten_cons, List.flatten_cons]
    exact h.append (h.rep n)
theorem RVs.atI {ds : List D} {vs : List V} (h : RVs T pa F ds vs) {i : Int} {d : D} (e : L2.atI ds i = some d) : ∃ v, L2.atI vs i = some v ∧ RV T pa F d v := by
  unfold L2.atI at e ⊢
  rw [h.len]
  cases q : ixN ds.length i with
  | none => rw [q] at e; cases e
  | some j =>
    rw [q] at e
    exact h.get e
theorem RVs.scr {l : List Int} : RVs T pa F (l.map D.int) (l.map V.int) := by
  induction l with
  | nil => rfl
  | cons x r ih => exact .cons rfl ih
theorem RVs.of_scr {l : List Int} : ∀ {vs : List V}, RVs T pa F (l.map D.int) vs → vs = l.map V.int := by
  induction l with
  | nil => intro vs h; exact h
  | cons x r ih =>
    intro vs h
    obtain ⟨v, q, rfl, h1, h2⟩ := h
    cases (show v = .int x from h1)
    rw [ih h2]; rfl
theorem RVs.intL : ∀ {ds : List D} {vs : List V} {ns : List Int}, RVs T pa F ds vs → Ev.intL ds = some ns → vs = ns.map V.int
  | [], _, _, h, e => by
    cases (show _ = [] from h)
    simp [Ev.intL] at e; subst e; rfl
  | d :: ds, _, _, h, e => by
    obtain ⟨v, r, rfl, h1, h2⟩ := h
    cases d <;> simp [Ev.intL] at e
    obtain ⟨ms, e1, rfl⟩ := e
    cases (show v = .int _ from h1)
    rw [RVs.intL h2 e1]; rfl
theorem RVs.boolL : ∀ {ds : List D} {vs : List V} {ns : List Bool}, RVs T pa F ds vs → Ev.boolL ds = some ns → vs = ns.map V.bl
  | [], _, _, h, e => by
    cases (show _ = [] from h)
    simp [Ev.boolL] at e; subst e; rfl
  | d :: ds, _, _, h, e => by
    obtain ⟨v, r, rfl, h1, h2⟩ := h
    cases d <;> simp [Ev.boolL] at e
    obtain ⟨ms, e1, rfl⟩ := e
    cases (show v = .bl _ from h1)
    rw [RVs.boolL h2 e1]; rfl
theorem RVs.ofInts {ns : List Int} : RVs T pa F (ns.map D.int) (ns.map V.int) := RVs.scr
/-! ### data -/
theorem toPs_len : ∀ {ds : List D} {ps : List PyData}, toPs ds = some ps → ps.length = ds.length
  | [], _, e => by simp [toPs] at e; subst e; rfl
  | d :: ds, _, e => by
    rw [toPs] at e
    split at e
    · rename_i p ps h1 h2
      cases e
      simp [toPs_len h2]
    · cases e
mutual
theorem toP_plain : ∀ (d : D) (p : PyData), toP d = some p → p.plain = true
  | .non, p, e => by simp [toP] at e; subst e; rfl
  | .bl _, p, e => by simp [toP] at e; subst e; rfl
  | .int _, p, e => by simp [toP] at e; subst e; rfl
  | .str _, p, e => by simp [toP] at e; subst e; rfl
  | .tup l, p, e => by
    rw [toP] at e
    cases q : toPs l with
    | none => rw [q] at e; cases e
    | some ps =>
      rw [q] at e; cases e
      rw [PyData.plain]; exact toPs_plain l ps q
  | .lst l, p, e => by
    rw [toP] at e
    cases q : toPs l with
    | none => rw [q] at e; cases e
    | some ps =>
      rw [q] at e; cases e
      rw [PyData.plain]; exact toPs_plain l ps q
  | .dct _, p, e => by simp [toP] at e
  | .tab _, p, e => by simp [toP] at e
  | .fn _, p, e => by simp [toP] at e
  | .pool, p, e => by simp [toP] at e
  | .scr _, p, e => by simp [toP] at e
theorem toPs_plain : ∀ (ds : List D) (ps : List PyData), toPs ds = some ps → PyData.plainAll ps = true
  | [], ps, e => by simp [toPs] at e; subst e; rfl
  | d :: ds, ps, e => by
    rw [toPs] at e
    split at e
    · rename_i p qs h1 h2
      cases e
      rw [PyData.plainAll, toP_plain d p h1, toPs_plain ds qs h2]; rfl
    · cases e
end
mutual
theorem RV.dp : ∀ (d : D) (p : PyData) (v : V), toP d = some p → RV T pa F d v → Dp T.K F v p
  | .non, p, v, e, h => by
    simp [toP] at e; subst e
    cases (show v = _ from h); exact .non
  | .bl _, p, v, e, h => by
    simp [toP] at e; subst e
    cases (show v = _ from h); exact .bl _
  | .int _, p, v, e, h => by
    simp [toP] at e; subst e
    cases (show v = _ from h); exact .int _
  | .str _, p, v, e, h => by
    simp [toP] at e; subst e
    cases (show v = _ from h); exact .str _
  | .tup l, p, v, e, h => by
    obtain ⟨a, vs, rfl, t, r⟩ := h
    rw [toP] at e
    cases q : toPs l with
    | none => rw [q] at e; cases e
    | some ps =>
      rw [q] at e; cases e
      exact .tup t.seq (RVs.dp l ps vs q r)
  | .lst l, p, v, e, h => by
    obtain ⟨a, vs, rfl, t, r⟩ := h
    rw [toP] at e
    cases q : toPs l with
    | none => rw [q] at e; cases e
    | some ps =>
      rw [q] at e; cases e
      exact .lst (SqL.of t) (RVs.dp l ps vs q r)
  | .dct _, p, v, e, h => by simp [toP] at e
  | .tab _, p, v, e, h => by simp [toP] at e
  | .fn _, p, v, e, h => by simp [toP] at e
  | .pool, p, v, e, h => by simp [toP] at e
  | .scr _, p, v, e, h => by simp [toP] at e
theorem RVs.dp : ∀ (ds : List D) (ps : List PyData) (vs : List V), toPs ds = some ps → RVs T pa F ds vs → DpAll T.K F vs ps
  | [], ps, vs, e, h => by
    simp [toPs] at e; subst e
    cases (show vs = [] from h); exact .nil
  | d :: ds, ps, vs, e, h => by
    obtain ⟨v, r, rfl, h1, h2⟩ := h
    rw [toPs] at e
    split at e
    · rename_i p qs e1 e2
      cases e
      exact .cons (RV.dp d p v e1 h1) (RVs.dp ds qs r e2 h2)
    · cases e
end
mutual
theorem dpMono {K : PySem.W.Frag} (s : Sub F H) : ∀ (p : PyData) (v : V), Dp K F v p → Dp K H v p
  | _, _, .non => .non
  | _, _, .bl b => .bl b
  | _, _, .int b => .int b
  | _, _, .str b => .str b
  | _, _, .lst h r => .lst (sqlMono h s) (dpsMono s _ _ r)
  | _, _, .tup h r => .tup (h.imp (fun r => rdMono r s) id) (dpsMono s _ _ r)
theorem dpsMono {K : PySem.W.Frag} (s : Sub F H) : ∀ (ps : List PyData) (vs : List V), DpAll K F vs ps → DpAll K H vs ps
  | _, _, .nil => .nil
  | _, _, .cons h r => .cons (dpMono s _ _ h) (dpsMono s _ _ r)
end
/-! ### states -/
/-- from F, H to F', H': all is kept but the pool's list; what is newly shared is new -/
structure Ext (pa : Option Addr) (F H F' H' : Hp) : Prop where
  keep : ∀ a o, H a = some o → pa ≠ some a → H' a = some o
  sub : Sub F F'
  fresh : ∀ a o, F' a = some o → F a = some o ∨ H a = none
theorem Ext.refl : Ext pa F H F H := ⟨fun _ _ h _ => h, fun _ _ h => h, fun _ _ h => .inl h⟩
theorem Ext.trans {F1 H1 F2 H2 : Hp} (a : Ext pa F H F1 H1) (b : Ext pa F1 H1 F2 H2) (hf : ∀ x, pa = some x → F2 x = none) : Ext pa F H F2 H2 where
  keep := fun x o h n => b.keep x o (a.keep x o h n) n
  sub := fun x o h => b.sub x o (a.sub x o h)
  fresh := fun x o h => by
    rcases b.fresh x o h with h1 | h1
    · exact a.fresh x o h1
    · cases q : H x with
      | none => exact .inr rfl
      | some u =>
        by_cases n : pa = some x
        · rw [hf x n] at h; cases h
        · rw [a.keep x u q n] at h1; cases h1
/-- the state: what is shared stands, the pool's list holds the pool -/
structure Sit (T : Tb) (pa : Option Addr) (F H : Hp) (pl : Pl) : Prop where
  sub : Sub F H
  out : ∀ a, pa = some a → F a = none
  pool : ∀ a, pa = some a → ∃ vs, H a = some (.lst vs) ∧ RVs T pa F pl vs
theorem Ext.tr {F1 H1 F2 H2 : Hp} {pl : Pl} (a : Ext pa F H F1 H1) (b : Ext pa F1 H1 F2 H2) (s : Sit T pa F2 H2 pl) : Ext pa F H F2 H2 := a.trans b s.out
/-- what an own list's (dict's) address holds -/
def RO (T : Tb) (pa : Option Addr) (F H : Hp) : D → Addr → Prop
  | .lst l, a => ∃ vs, H a = some (.lst vs) ∧ RVs T pa F l vs
  | .dct l, a => ∃ kvs, H a = some (.dK kvs) ∧ RVk T pa F l kvs
  | _, _ => False
/-- shared, or an own one -/
def RP (T : Tb) (pa : Option Addr) (F H : Hp) (d : D) (v : V) : Prop := RV T pa F d v ∨ ∃ a, v = .ref a ∧ F a = none ∧ pa ≠ some a ∧ RO T pa F H d a
structure Gd (T : Tb) (pa : Option Addr) (F : Hp) (ρ : Rho) (pl : Pl) (σ : L2.St) (H : Hp) : Prop where
  sit : Sit T pa F H pl
  len : ρ.length = σ.length
  val : ∀ (i : Nat) (d : D), ρ[i]? = some (some (Sl.val d)) → ∃ v, σ[i]? = some (some v) ∧ RV T pa F d v
  own : ∀ (i : Nat) (d : D), ρ[i]? = some (some (Sl.own d)) → ∃ a, σ[i]? = some (some (V.ref a)) ∧ F a = none ∧ pa ≠ some a ∧ RO T pa F H d a
  apart : ∀ (i j : Nat) (d d' : D) (a : Addr), ρ[i]? = some (some (Sl.own d)) → ρ[j]? = some (some (Sl.own d')) → σ[i]? = some (some (V.ref a)) → σ[j]? = some (some (V.ref a)) → i = j
theorem RO.ext {d : D} {a : Addr} {pl : Pl} (h : RO T pa F H d a) (e : Ext pa F H F' H') (n : pa ≠ some a) : RO T pa F' H' d a := by
  cases d <;> simp only [RO] at h ⊢
  · obtain ⟨vs, h1, h2⟩ := h
    exact ⟨vs, e.keep _ _ h1 n, RVs.mono e.sub (.inr rfl) _ _ h2⟩
  · obtain ⟨vs, h1, h2⟩ := h
    exact ⟨vs, e.keep _ _ h1 n, RVk.mono e.sub (.inr rfl) _ _ h2⟩
theorem RO.there {d : D} {a : Addr} (h : RO T pa F H d a) : ∃ o, H a = some o := by
  cases d <;> simp only [RO] at h
  · obtain ⟨vs, h1, _⟩ := h; exact ⟨_, h1⟩
  · obtain ⟨vs, h1, _⟩ := h; exact ⟨_, h1⟩
theorem own_out {a : Addr} {o : HO} (e : Ext pa F H F' H') (h : H a = some o) (n : F a = none) : F' a = none := by
  cases q : F' a with
  | none => rfl
  | some u =>
    rcases e.fresh a u q with h1 | h1
    · rw [n] at h1; cases h1
    · rw [h] at h1; cases h1
theorem RP.ext {d : D} {v : V} {pl : Pl} (h : RP T pa F H d v) (e : Ext pa F H F' H') : RP T pa F' H' d v := by
  rcases h with h | ⟨a, e1, n, m, r⟩
  · exact .inl (RV.mono e.sub (.inr rfl) _ _ h)
  · obtain ⟨o, ho⟩ := r.there
    exact .inr ⟨a, e1, own_out e ho n, m, RO.ext (pl := pl) r e m⟩
theorem Gd.ext {ρ : Rho} {pl pl' : Pl} {σ : L2.St} (g : Gd T pa F ρ pl σ H) (e : Ext pa F H F' H') (s : Sit T pa F' H' pl') : Gd T pa F' ρ pl' σ H' where
  sit := s
  len := g.len
  val := fun i d h => by
    obtain ⟨v, h1, h2⟩ := g.val i d h
    exact ⟨v, h1, RV.mono e.sub (.inr rfl) _ _ h2⟩
  own := fun i d h => by
    obtain ⟨a, h1, n, m, r⟩ := g.own i d h
    obtain ⟨o, ho⟩ := r.there
    exact ⟨a, h1, own_out e ho n, m, RO.ext (pl := pl) r e m⟩
  apart := g.apart
/-- one new object, shared from now on -/
theorem Ext.new {p : Addr} {o : HO} {pl : Pl} (s : Sit T pa F H pl) (hp : H p = none) : Ext pa F H (upd F p o) (upd H p o) where
  keep := fun a u h _ => by rw [upd_ne (ne_of_none h hp)]; exact h
  sub := fun a u h => by rw [upd_ne (ne_of_none (s.sub a u h) hp)]; exact h
  fresh := fun a u h => by
    by_cases e : a = p
    · subst e; exact .inr hp
    · rw [upd_ne e] at h; exact .inl h
theorem Ext.newH {p : Addr} {o : HO} {pl : Pl} (s : Sit T pa F H pl) (hp : H p = none) : Ext pa F H F (upd H p o) where
  keep := fun a u h _ => by rw [upd_ne (ne_of_none h hp)]; exact h
  sub := fun a u h => h
  fresh := fun a u h => .inl h
theorem Sit.ne {p a : Addr} {pl : Pl} (s : Sit T pa F H pl) (hp : H p = none) (e : pa = some a) : a ≠ p := by
  obtain ⟨vs, h, _⟩ := s.pool a e
  exact ne_of_none h hp
theorem Sit.new {p : Addr} {o : HO} {pl : Pl} (s : Sit T pa F H pl) (hp : H p = none) : Sit T pa (upd F p o) (upd H p o) pl where
  sub := fun a u h => by
    by_cases e : a = p
    · subst e; rw [upd_same] at h ⊢; exact h
    · rw [upd_ne e] at h ⊢; exact s.sub a u h
  out := fun a e => by rw [upd_ne (s.ne hp e)]; exact s.out a e
  pool := fun a e => by
    obtain ⟨vs, h1, h2⟩ := s.pool a e
    exact ⟨vs, by rw [upd_ne (s.ne hp e)]; exact h1, RVs.mono (Ext.new s hp).sub (.inr rfl) _ _ h2⟩
theorem Sit.newH {p : Addr} {o : HO} {pl : Pl} (s : Sit T pa F H pl) (hp : H p = none) : Sit T pa F (upd H p o) pl where
  sub := fun a u h => by rw [upd_ne (ne_of_none (s.sub a u h) hp)]; exact s.sub a u h
  out := s.out
  pool := fun a e => by
    obtain ⟨vs, h1, h2⟩ := s.pool a e
    exact ⟨vs, by rw [upd_ne (s.ne hp e)]; exact h1, h2⟩
/-- what is to follow a value -/
def Fin (T : Tb) (pa : Option Addr) (F H : Hp) (pl : Pl) (d : D) (Q : VK) : Prop := ∀ v F' H', Ext pa F H F' H' → Sit T pa F' H' pl → RV T pa F' d v → Q v H'
def FinP (T : Tb) (pa : Option Addr) (F H : Hp) (pl : Pl) (d : D) (Q : VK) : Prop := ∀ v F' H', Ext pa F H F' H' → Sit T pa F' H' pl → RP T pa F' H' d v → Q v H'
theorem Fin.shift {pl : Pl} {d : D} {Q : VK} (f : Fin T pa F H pl d Q) (e : Ext pa F H F' H') : Fin T pa F' H' pl d Q :=
  fun v F2 H2 e2 s r => f v F2 H2 (e.tr e2 s) s r
theorem Fin.here {pl : Pl} {d : D} {Q : VK} {v : V} (f : Fin T pa F H pl d Q) (s : Sit T pa F H pl) (r : RV T pa F d v) : Q v H := f v F H .refl s r
theorem Fin.laid {pl : Pl} {l : List D} {vs : List V} {Q : VK} {p : Addr} (f : Fin T pa F H pl (.tup l) Q) (s : Sit T pa F H pl) (r : RVs T pa F l vs) (hp : H p = none) : Q (.ref p) (upd H p (.tup vs)) :=
  f _ _ _ (Ext.new s hp) (Sit.new s hp) ⟨p, vs, rfl, .inl upd_same, RVs.mono (Ext.new s hp).sub (.inr rfl) _ _ r⟩
theorem Fin.laidL {pl : Pl} {l : List D} {vs : List V} {Q : VK} {p : Addr} (f : Fin T pa F H pl (.lst l) Q) (s : Sit T pa F H pl) (r : RVs T pa F l vs) (hp : H p = none) : Q (.ref p) (upd H p (.lst vs)) :=
  f _ _ _ (Ext.new s hp) (Sit.new s hp) ⟨p, vs, rfl, upd_same, RVs.mono (Ext.new s hp).sub (.inr rfl) _ _ r⟩
/-! ### what stands on top of a value -/
theorem RP.lst {l : List D} {v : V} {pl : Pl} (h : RP T pa F H (.lst l) v) (s : Sit T pa F H pl) : ∃ a vs, v = .ref a ∧ H a = some (.lst vs) ∧ RVs T pa F l vs := by
  rcases h with ⟨a, vs, e, h1, h2⟩ | ⟨a, e, _, _, vs, h1, h2⟩
  · exact ⟨a, vs, e, s.sub _ _ h1, h2⟩
  · exact ⟨a, vs, e, h1, h2⟩
theorem RP.tup {l : List D} {v : V} {pl : Pl} (h : RP T pa F H (.tup l) v) (s : Sit T pa F H pl) : ∃ a vs, v = .ref a ∧ SqT T.K H a vs ∧ TQ T.K F a vs ∧ RVs T pa F l vs := by
  rcases h with ⟨a, vs, e, h1, h2⟩ | ⟨a, e, _, _, h1⟩
  · exact ⟨a, vs, e, (h1.mono s.sub).seq, h1, h2⟩
  · exact h1.elim
theorem RP.dct {l : List (Key × D)} {v : V} {pl : Pl} (h : RP T pa F H (.dct l) v) (s : Sit T pa F H pl) : ∃ a vs, v = .ref a ∧ L2.Rd H a (.dK vs) ∧ RVk T pa F l vs := by
  rcases h with ⟨a, vs, e, h1, h2⟩ | ⟨a, e, _, _, vs, h1, h2⟩
  · exact ⟨a, vs, e, rdMono h1 s.sub, h2⟩
  · exact ⟨a, vs, e, .inl h1, h2⟩
theorem RP.int {i : Int} {v : V} (h : RP T pa F H (.int i) v) : v = .int i := by
  rcases h with h | ⟨_, _, _, _, h⟩
  · exact h
  · exact h.elim
theorem RP.bl {i : Bool} {v : V} (h : RP T pa F H (.bl i) v) : v = .bl i := by
  rcases h with h | ⟨_, _, _, _, h⟩
  · exact h
  · exact h.elim
theorem RP.str {i : Str} {v : V} (h : RP T pa F H (.str i) v) : v = .str i := by
  rcases h with h | ⟨_, _, _, _, h⟩
  · exact h
  · exact h.elim
theorem RP.non {v : V} (h : RP T pa F H .non v) : v = .non := by
  rcases h with h | ⟨_, _, _, _, h⟩
  · exact h
  · exact h.elim
theorem RP.scr {l : List Int} {v : V} {pl : Pl} (h : RP T pa F H (.scr l) v) (s : Sit T pa F H pl) : ∃ a, v = .ref a ∧ SqL T.K H a (l.map V.int) := by
  rcases h with ⟨a, e, h1⟩ | ⟨_, _, _, _, h⟩
  · exact ⟨a, e, sqlMono h1 s.sub⟩
  · exact h.elim
theorem RP.pool {v : V} (h : RP T pa F H .pool v) : ∃ a, pa = some a ∧ v = .ref a := by
  rcases h with h | ⟨_, _, _, _, h⟩
  · exact h
  · exact h.elim
theorem RP.dp {d : D} {p : PyData} {v : V} {pl : Pl} (h : RP T pa F H d v) (s : Sit T pa F H pl) (e : toP d = some p) : Dp T.K H v p := by
  rcases h with h | ⟨a, rfl, _, _, h⟩
  · exact dpMono s.sub _ _ (RV.dp d p v e h)
  · cases d <;> simp only [RO] at h
    · obtain ⟨vs, h1, h2⟩ := h
      rw [toP] at e
      rename_i l
      cases q : toPs l with
      | none => rw [q] at e; cases e
      | some ps =>
        rw [q] at e; cases e
        exact .lst (SqL.of h1) (dpsMono s.sub _ _ (RVs.dp l ps vs q h2))
    · simp [toP] at e
end
end Ev

set_option Elab.async false
set_option linter.all false
set_option maxRecDepth 100000
set_option maxHeartbeats 4000000
/-! Ev3: the operations keep to the evaluator. -/
namespace Ev
open PySem PySem.Spec PyProof.Rows L2
def rB (T : Tb) (g : D → D → Pl → Option D) : R2 := fun x y H Q => ∃ pa F pl d1 d2 d, Sit T pa F H pl ∧ RP T pa F H d1 x ∧ RP T pa F H d2 y ∧ g d1 d2 pl = some d ∧ Fin T pa F H pl d Q
def rU1 (T : Tb) (g : D → Option D) : V → Hp → VK → Prop := fun x H Q => ∃ pa F pl d1 d, Sit T pa F H pl ∧ RP T pa F H d1 x ∧ g d1 = some d ∧ Fin T pa F H pl d Q
def rCl1 (T : Tb) (g : D → Option D) : List V → Hp → VK → Prop := fun xs H Q => ∃ x, xs = [x] ∧ rU1 T g x H Q
def rCl2 (T : Tb) (g : D → D → Pl → Option D) : List V → Hp → VK → Prop := fun xs H Q => ∃ x y, xs = [x, y] ∧ rB T g x y H Q
theorem lim_eq : LIM = sizeLine := by rw [sizeLine_eq]; rfl
theorem rvv {T : Tb} {pa : Option Addr} {F : Hp} : ∀ (l : List (Key × D)) (kvs : List (Key × V)), RVk T pa F l kvs → ∀ k : Key, (valD l k = none ∧ valV kvs k = none) ∨ ∃ d v, valD l k = some d ∧ valV kvs k = some v ∧ RV T pa F d v
  | [], kvs, h, k => by
    cases (show kvs = [] from h)
    exact .inl ⟨rfl, valV_nil⟩
  | (j, d) :: l, _, h, k => by
    obtain ⟨v, r, rfl, h1, h2⟩ := h
    by_cases e : j = k
    · refine .inr ⟨d, v, ?_, valV_pos e, h1⟩
      simp [valD, List.find?_cons, e]
    · rcases rvv l r h2 k with ⟨a, b⟩ | ⟨d', v', a, b, c⟩
      · refine .inl ⟨?_, by rw [valV_neg e]; exact b⟩
        simp only [valD, List.find?_cons, e, decide_false] at a ⊢
        exact a
      · refine .inr ⟨d', v', ?_, by rw [valV_neg e]; exact b, c⟩
        simp only [valD, List.find?_cons, e, decide_false] at a ⊢
        exact a
theorem keyD_rv {T : Tb} {pa : Option Addr} {F H : Hp} {d : D} {k : Key} {v : V} (h : RP T pa F H d v) (e : keyD d = some k) : v = kV k := by
  cases d <;> simp [keyD] at e
  · subst e; exact h.int
  · subst e; exact h.str
section
variable {X : Cx} {T : Tb}
theorem opB (hK : X.K = T.K) (op : Operator) : OpR X (binaryOp op) (rB T fun a b _ => binS op a b) := by
  intro pins s σ H x y v u Q I rx ry h
  obtain ⟨pa, F, pl, d1, d2, d, st, h1, h2, e, f⟩ := h
  simp only at e
  unfold binS at e
  split at e
  · cases e
    exact op_add pins s σ H x y v u Q I rx ry ⟨_, _, h1.int, h2.int, f.here st rfl⟩
  · split at e
    · rename_i hl
      cases e
      obtain ⟨p, vs, rfl, s1, t1, r1⟩ := h1.tup st
      obtain ⟨q, us, rfl, s2, t2, r2⟩ := h2.tup st
      rw [← hK] at s1 s2
      refine op_catA pins s σ H _ _ v u Q I rx ry ⟨p, q, vs, us, rfl, rfl, s1, s2, ?_, ?_, ?_, ?_⟩
      · rw [r1.len, r2.len, ← lim_eq]; exact hl
      · intro e
        subst e
        cases List.length_eq_zero_iff.mp r1.len.symm
        exact f.here st ⟨q, us, rfl, t2, r2⟩
      · intro _ e
        subst e
        cases List.length_eq_zero_iff.mp r2.len.symm
        rw [List.append_nil] at f
        exact f.here st ⟨p, vs, rfl, t1, r1⟩
      · intro _ _ z hz
        exact f.laid st (r1.append r2) hz
    · cases e
  · split at e
    · rename_i hl
      cases e
      obtain ⟨p, vs, rfl, s1, r1⟩ := h1.lst st
      obtain ⟨q, us, rfl, s2, r2⟩ := h2.lst st
      refine op_cat pins s σ H _ _ v u Q I rx ry ⟨p, q, vs, us, rfl, rfl, s1, s2, ?_, fun z hz => f.laidL st (r1.append r2) hz⟩
      rw [r1.len, r2.len, ← lim_eq]; exact hl
    · cases e
  · split at e
    · rename_i hl
      cases e
      exact op_add_str pins s σ H x y v u Q I rx ry ⟨_, _, h1.str, h2.str, lim_eq ▸ hl, f.here st rfl⟩
    · cases e
  · cases e
    exact op_sub pins s σ H x y v u Q I rx ry ⟨_, _, h1.int, h2.int, f.here st rfl⟩
  · split at e
    · rename_i hm
      cases e
      exact op_mul pins s σ H x y v u Q I rx ry ⟨_, _, h1.int, h2.int, by simpa [mulOk, CMul] using hm, f.here st rfl⟩
    · cases e
  · split at e
    · rename_i hm
      cases e
      obtain ⟨p, vs, rfl, s1, r1⟩ := h1.lst st
      refine op_rep pins s σ H _ _ v u Q I rx ry ⟨p, _, vs, rfl, h2.int, s1, by omega, by omega, ?_, fun z hz => f.laidL st (r1.rep _) hz⟩
      rw [r1.len, ← lim_eq]; exact hm.2.2
    · cases e
  · split at e
    · rename_i hm
      cases e
      exact op_fdiv pins s σ H x y v u Q I rx ry ⟨_, _, h1.int, h2.int, hm, f.here st rfl⟩
    · cases e
  · split at e
    · rename_i hm
      cases e
      exact op_mod pins s σ H x y v u Q I rx ry ⟨_, _, h1.int, h2.int, hm, f.here st rfl⟩
    · cases e
  · cases e
/-- += and its like, where it makes a new value -/
theorem opI' (hK : X.K = T.K) (op : Operator) (ho : op = .Add ∨ op = .Sub ∨ op = .FloorDiv) : OpR X (inplaceOp op) (rB T fun a b _ => augS op a b) := by
  intro pins s σ H x y v u Q I rx ry h
  obtain ⟨pa, F, pl, d1, d2, d, st, h1, h2, e, f⟩ := h
  simp only [augS] at e
  split at e
  · rcases ho with rfl | rfl | rfl
    · simp only [binS] at e; cases e
      exact iop_add pins s σ H x y v u Q I rx ry ⟨_, _, h1.int, h2.int, f.here st rfl⟩
    · simp only [binS] at e; cases e
      exact iop_sub pins s σ H x y v u Q I rx ry ⟨_, _, h1.int, h2.int, f.here st rfl⟩
    · simp only [binS] at e
      split at e
      · rename_i hm
        cases e
        exact iop_fdiv pins s σ H x y v u Q I rx ry ⟨_, _, h1.int, h2.int, hm, f.here st rfl⟩
      · cases e
  · cases e
theorem min_depth_le {p q : PyData} (h : dep p q = true) : min p.depth q.depth ≤ 180 := of_decide_eq_true h
theorem opEq (hK : X.K = T.K) (hu : X.A.units + 190 < cLine) : OpR X (compareOp .Eq) (rB T fun a b _ => (eqS a b).map .bl) := by
  intro pins s σ H x y v u Q I rx ry h
  obtain ⟨pa, F, pl, d1, d2, d, st, h1, h2, e, f⟩ := h
  simp only [eqS] at e
  split at e
  · rename_i p q e1 e2
    split at e
    · rename_i hd
      cases e
      obtain ⟨as, r1⟩ := Dp.reads I p x v (hK ▸ h1.dp st e1) rx
      obtain ⟨bs, r2⟩ := Dp.reads I q y u (hK ▸ h2.dp st e2) ry
      have := min_depth_le hd
      exact SeqAt.eq_plain r1 r2 (toP_plain _ _ e1) (toP_plain _ _ e2) (by omega) ⟨.bl _, H, I, rfl, f.here st rfl⟩
    · cases e
  · cases e
theorem opNe (hK : X.K = T.K) (hu : X.A.units + 190 < cLine) : OpR X (compareOp .NotEq) (rB T fun a b _ => ((eqS a b).map (!·)).map .bl) := by
  intro pins s σ H x y v u Q I rx ry h
  obtain ⟨pa, F, pl, d1, d2, d, st, h1, h2, e, f⟩ := h
  simp only [eqS] at e
  split at e
  · rename_i p q e1 e2
    split at e
    · rename_i hd
      cases e
      obtain ⟨as, r1⟩ := Dp.reads I p x v (hK ▸ h1.dp st e1) rx
      obtain ⟨bs, r2⟩ := Dp.reads I q y u (hK ▸ h2.dp st e2) ry
      have := min_depth_le hd
      exact SeqAt.ne_plain r1 r2 (toP_plain _ _ e1) (toP_plain _ _ e2) (by omega) ⟨.bl _, H, I, rfl, f.here st rfl⟩
    · cases e
  · cases e
theorem depth_list (ps : List PyData) : (PyData.list ps).depth = PyData.depthAll ps + 1 := by rw [PyData.depth]; try omega
theorem depth_tuple (ps : List PyData) : (PyData.tuple ps).depth = PyData.depthAll ps + 1 := by rw [PyData.depth]; try omega
theorem opIn (hK : X.K = T.K) (hu : X.A.units + 190 < cLine) : OpR X (compareOp .In) (rB T fun a b _ => (inS a b).map .bl) := by
  intro pins s σ H x y v u Q I rx ry h
  obtain ⟨pa, F, pl, d1, d2, d, st, h1, h2, e, f⟩ := h
  unfold inS at e
  dsimp only at e
  split at e
  · rename_i l
    split at e
    · rename_i p qs e1 e2
      split at e
      · rename_i hd
        cases e
        have z2 : toP (D.lst l) = some (PyData.list qs) := by rw [toP, e2]; rfl
        obtain ⟨as, r1⟩ := Dp.reads I p x v (hK ▸ h1.dp st e1) rx
        obtain ⟨bs, r2⟩ := Dp.reads I _ y u (hK ▸ h2.dp st z2) ry
        have hm := min_depth_le hd
        rw [depth_tuple] at hm
        exact SeqAt.in_list_data r2 r1 (toPs_plain _ _ e2) (toP_plain _ _ e1) (by omega) ⟨.bl _, H, I, rfl, f.here st rfl⟩
      · cases e
    · cases e
  · rename_i l
    split at e
    · rename_i p qs e1 e2
      split at e
      · rename_i hd
        cases e
        have z2 : toP (D.tup l) = some (PyData.tuple qs) := by rw [toP, e2]; rfl
        obtain ⟨as, r1⟩ := Dp.reads I p x v (hK ▸ h1.dp st e1) rx
        obtain ⟨bs, r2⟩ := Dp.reads I _ y u (hK ▸ h2.dp st z2) ry
        have hm := min_depth_le hd
        rw [depth_tuple] at hm
        exact SeqAt.in_tuple_data r2 r1 (toPs_plain _ _ e2) (toP_plain _ _ e1) (by omega) ⟨.bl _, H, I, rfl, f.here st rfl⟩
      · cases e
    · cases e
  · split at e
    · rename_i l k ek
      cases e
      obtain ⟨a, kvs, rfl, hr, rk⟩ := h2.dct st
      have hx := keyD_rv h1 ek
      have g : DGet H a x (valV kvs k) := .inl ⟨kvs, k, hr, hx, rfl⟩
      cases (show u = .ref a from ry)
      refine d_in (by omega) I g rx fun s' I' => ⟨.bl _, H, I', rfl, ?_⟩
      rcases rvv _ _ rk k with ⟨e1, e2⟩ | ⟨d', v', e1, e2, _⟩
      · rw [e1] at f; rw [e2]; exact f.here st rfl
      · rw [e1] at f; rw [e2]; exact f.here st rfl
    · cases e
  · cases e
theorem opNotIn (hK : X.K = T.K) (hu : X.A.units + 190 < cLine) : OpR X (compareOp .NotIn) (rB T fun a b _ => ((inS a b).map (!·)).map .bl) := by
  intro pins s σ H x y v u Q I rx ry h
  obtain ⟨pa, F, pl, d1, d2, d, st, h1, h2, e, f⟩ := h
  unfold inS at e
  dsimp only at e
  split at e
  · rename_i l
    split at e
    · rename_i p qs e1 e2
      split at e
      · rename_i hd
        cases e
        have z2 : toP (D.lst l) = some (PyData.list qs) := by rw [toP, e2]; rfl
        obtain ⟨as, r1⟩ := Dp.reads I p x v (hK ▸ h1.dp st e1) rx
        obtain ⟨bs, r2⟩ := Dp.reads I _ y u (hK ▸ h2.dp st z2) ry
        have hm := min_depth_le hd
        rw [depth_tuple] at hm
        exact SeqAt.notIn_list_data r2 r1 (toPs_plain _ _ e2) (toP_plain _ _ e1) (by omega) ⟨.bl _, H, I, rfl, f.here st rfl⟩
      · cases e
    · cases e
  · rename_i l
    split at e
    · rename_i p qs e1 e2
      split at e
      · rename_i hd
        cases e
        have z2 : toP (D.tup l) = some (PyData.tuple qs) := by rw [toP, e2]; rfl
        obtain ⟨as, r1⟩ := Dp.reads I p x v (hK ▸ h1.dp st e1) rx
        obtain ⟨bs, r2⟩ := Dp.reads I _ y u (hK ▸ h2.dp st z2) ry
        have hm := min_depth_le hd
        rw [depth_tuple] at hm
        exact SeqAt.notIn_tuple_data r2 r1 (toPs_plain _ _ e2) (toP_plain _ _ e1) (by omega) ⟨.bl _, H, I, rfl, f.here st rfl⟩
      · cases e
    · cases e
  · split at e
    · rename_i l k ek
      cases e
      obtain ⟨a, kvs, rfl, hr, rk⟩ := h2.dct st
      have hx := keyD_rv h1 ek
      have g : DGet H a x (valV kvs k) := .inl ⟨kvs, k, hr, hx, rfl⟩
      cases (show u = .ref a from ry)
      refine d_notIn (by omega) I g rx fun s' I' => ⟨.bl _, H, I', rfl, ?_⟩
      rcases rvv _ _ rk k with ⟨e1, e2⟩ | ⟨d', v', e1, e2, _⟩
      · rw [e1] at f; rw [e2]; exact f.here st rfl
      · rw [e1] at f; rw [e2]; exact f.here st rfl
    · cases e
  · cases e
theorem isNon_rp {pa : Option Addr} {F H : Hp} {d : D} {v : V} {pl : Pl} (h : RP T pa F H d v) (s : Sit T pa F H pl) : decide (v = .non) = isNon d := by
  cases d with
  | non => rw [h.non]; rfl
  | bl b => rw [h.bl]; rfl
  | int i => rw [h.int]; rfl
  | str x => rw [h.str]; rfl
  | tup l => obtain ⟨a, vs, rfl, _⟩ := h.tup s; rfl
  | lst l => obtain ⟨a, vs, rfl, _⟩ := h.lst s; rfl
  | dct l => obtain ⟨a, vs, rfl, _⟩ := h.dct s; rfl
  | tab n =>
    rcases h with h | ⟨_, _, _, _, h⟩
    · exact h.elim
    · exact h.elim
  | fn n =>
    rcases h with h | ⟨_, _, _, _, h⟩
    · rw [show v = _ from h]; rfl
    · exact h.elim
  | pool => obtain ⟨a, _, rfl⟩ := h.pool; rfl
  | scr l => obtain ⟨a, rfl, _⟩ := h.scr s; rfl
theorem opIs (hK : X.K = T.K) : OpR X (compareOp .Is) (rB T fun a b _ => (cmpS .Is a b).map .bl) := by
  intro pins s σ H x y v u Q I rx ry h
  obtain ⟨pa, F, pl, d1, d2, d, st, h1, h2, e, f⟩ := h
  cases d2 <;> simp [cmpS] at e
  subst e
  refine op_isN pins s σ H x y v u Q I rx ry ⟨h2.non, ?_⟩
  rw [isNon_rp h1 st]; exact f.here st rfl
theorem opIsNot (hK : X.K = T.K) : OpR X (compareOp .IsNot) (rB T fun a b _ => (cmpS .IsNot a b).map .bl) := by
  intro pins s σ H x y v u Q I rx ry h
  obtain ⟨pa, F, pl, d1, d2, d, st, h1, h2, e, f⟩ := h
  cases d2 <;> simp [cmpS] at e
  subst e
  refine op_notN pins s σ H x y v u Q I rx ry ⟨h2.non, ?_⟩
  rw [isNon_rp h1 st]; exact f.here st rfl
theorem opC (hK : X.K = T.K) (hu : X.A.units + 190 < cLine) (op : CmpOp) : OpR X (compareOp op) (rB T fun a b _ => (cmpS op a b).map .bl) := by
  cases op with
  | Eq => exact opEq hK hu
  | NotEq => exact opNe hK hu
  | In => exact opIn hK hu
  | NotIn => exact opNotIn hK hu
  | Is => exact opIs hK
  | IsNot => exact opIsNot hK
  | Lt =>
    intro pins s σ H x y v u Q I rx ry h
    obtain ⟨pa, F, pl, d1, d2, d, st, h1, h2, e, f⟩ := h
    cases d1 <;> cases d2 <;> simp [cmpS] at e
    subst e
    exact op_lt pins s σ H x y v u Q I rx ry ⟨_, _, h1.int, h2.int, f.here st rfl⟩
  | LtE =>
    intro pins s σ H x y v u Q I rx ry h
    obtain ⟨pa, F, pl, d1, d2, d, st, h1, h2, e, f⟩ := h
    cases d1 <;> cases d2 <;> simp [cmpS] at e
    subst e
    exact op_le pins s σ H x y v u Q I rx ry ⟨_, _, h1.int, h2.int, f.here st rfl⟩
  | Gt =>
    intro pins s σ H x y v u Q I rx ry h
    obtain ⟨pa, F, pl, d1, d2, d, st, h1, h2, e, f⟩ := h
    cases d1 <;> cases d2 <;> simp [cmpS] at e
    subst e
    exact op_gt pins s σ H x y v u Q I rx ry ⟨_, _, h1.int, h2.int, f.here st rfl⟩
  | GtE =>
    intro pins s σ H x y v u Q I rx ry h
    obtain ⟨pa, F, pl, d1, d2, d, st, h1, h2, e, f⟩ := h
    cases d1 <;> cases d2 <;> simp [cmpS] at e
    subst e
    exact op_ge pins s σ H x y v u Q I rx ry ⟨_, _, h1.int, h2.int, f.here st rfl⟩
theorem opNeg (hK : X.K = T.K) : UnR X (unaryOp .USub) (rU1 T fun a => (intOf a).map fun i => .int (-i)) := by
  intro pins s σ H x v Q I rx h
  obtain ⟨pa, F, pl, d1, d, st, h1, e, f⟩ := h
  cases d1 <;> simp [intOf] at e
  subst e
  exact un_neg pins s σ H x v Q I rx ⟨_, h1.int, f.here st rfl⟩
end
end Ev

set_option Elab.async false
set_option linter.all false
set_option maxRecDepth 100000
set_option maxHeartbeats 4000000
/-! Ev4: built-ins, places, slices. -/
namespace Ev
open PySem PySem.Spec PyProof.Rows L2
theorem foldl_min (l : List Int) : ∀ a : Int, (l.foldl min a ∈ a :: l) ∧ l.foldl min a ≤ a ∧ ∀ x ∈ l, l.foldl min a ≤ x := by
  induction l with
  | nil => intro a; exact ⟨List.mem_cons_self, Int.le_refl _, fun x h => by cases h⟩
  | cons b r ih =>
    intro a
    obtain ⟨h1, h2, h3⟩ := ih (min a b)
    have e : (b :: r).foldl min a = r.foldl min (min a b) := rfl
    rw [e]
    refine ⟨?_, by omega, fun x hx => ?_⟩
    · rcases List.mem_cons.mp h1 with h | h
      · rw [h]
        rcases Int.le_total a b with q | q
        · rw [Int.min_eq_left q]; exact List.mem_cons_self
        · rw [Int.min_eq_right q]; exact List.mem_cons_of_mem _ List.mem_cons_self
      · exact List.mem_cons_of_mem _ (List.mem_cons_of_mem _ h)
    · rcases List.mem_cons.mp hx with rfl | h
      · omega
      · exact h3 x h
theorem foldl_max (l : List Int) : ∀ a : Int, (l.foldl max a ∈ a :: l) ∧ a ≤ l.foldl max a ∧ ∀ x ∈ l, x ≤ l.foldl max a := by
  induction l with
  | nil => intro a; exact ⟨List.mem_cons_self, Int.le_refl _, fun x h => by cases h⟩
  | cons b r ih =>
    intro a
    obtain ⟨h1, h2, h3⟩ := ih (max a b)
    have e : (b :: r).foldl max a = r.foldl max (max a b) := rfl
    rw [e]
    refine ⟨?_, by omega, fun x hx => ?_⟩
    · rcases List.mem_cons.mp h1 with h | h
      · rw [h]
        rcases Int.le_total a b with q | q
        · rw [Int.max_eq_right q]; exact List.mem_cons_of_mem _ List.mem_cons_self
        · rw [Int.max_eq_left q]; exact List.mem_cons_self
      · exact List.mem_cons_of_mem _ (List.mem_cons_of_mem _ h)
    · rcases List.mem_cons.mp hx with rfl | h
      · omega
      · exact h3 x h
theorem minL_spec {l : List Int} {m : Int} (h : minL l = some m) : m ∈ l ∧ ∀ x ∈ l, m ≤ x := by
  cases l with
  | nil => cases h
  | cons a r =>
    cases h
    obtain ⟨h1, h2, h3⟩ := foldl_min r a
    refine ⟨h1, fun x hx => ?_⟩
    rcases List.mem_cons.mp hx with rfl | h
    · exact h2
    · exact h3 x h
theorem maxL_spec {l : List Int} {m : Int} (h : maxL l = some m) : m ∈ l ∧ ∀ x ∈ l, x ≤ m := by
  cases l with
  | nil => cases h
  | cons a r =>
    cases h
    obtain ⟨h1, h2, h3⟩ := foldl_max r a
    refine ⟨h1, fun x hx => ?_⟩
    rcases List.mem_cons.mp hx with rfl | h
    · exact h2
    · exact h3 x h
theorem sortI_perm (l : List Int) : (sortI l).Perm l := List.mergeSort_perm l _
theorem sortI_sorted (l : List Int) : (sortI l).Pairwise (· ≤ ·) := by
  have h := List.pairwise_mergeSort (le := fun a b : Int => decide (a ≤ b)) (fun a b c h1 h2 => by simp at h1 h2 ⊢; omega) (fun a b => by simp; omega) l
  exact h.imp fun h => by simpa using h
theorem sorted_unique : ∀ {l m : List Int}, l.Perm m → l.Pairwise (· ≤ ·) → m.Pairwise (· ≤ ·) → l = m := by
  intro l m p h1 h2
  exact p.eq_of_pairwise (fun a b _ _ h3 h4 => Int.le_antisymm h3 h4) h1 h2
section
variable {X : Cx} {T : Tb}
theorem clAll (hK : X.K = T.K) (hc : X.calm = true) : CallR X (.builtin "all") (rCl1 T (biS .all)) := by
  intro pins s σ H vs us Q I r h
  obtain ⟨x, rfl, pa, F, pl, d1, d, st, h1, e, f⟩ := h
  cases d1 <;> simp only [biS] at e <;> try cases e
  rename_i l
  cases q : boolL l with
  | none => rw [q] at e; cases e
  | some bs =>
    rw [q] at e; cases e
    obtain ⟨a, ws, rfl, h2, h3⟩ := h1.lst st
    cases h3.boolL q
    exact cr_all hc pins s σ H _ us Q I r ⟨a, bs, rfl, SqL.of h2, f.here st rfl⟩
theorem clAny (hK : X.K = T.K) (hc : X.calm = true) : CallR X (.builtin "any") (rCl1 T (biS .any)) := by
  intro pins s σ H vs us Q I r h
  obtain ⟨x, rfl, pa, F, pl, d1, d, st, h1, e, f⟩ := h
  cases d1 <;> simp only [biS] at e <;> try cases e
  rename_i l
  cases q : boolL l with
  | none => rw [q] at e; cases e
  | some bs =>
    rw [q] at e; cases e
    obtain ⟨a, ws, rfl, h2, h3⟩ := h1.lst st
    cases h3.boolL q
    exact cr_any hc pins s σ H _ us Q I r ⟨a, bs, rfl, SqL.of h2, f.here st rfl⟩
theorem clLen (hK : X.K = T.K) : CallR X (.builtin "len") (rCl1 T (biS .len)) := by
  intro pins s σ H vs us Q I r h
  obtain ⟨x, rfl, pa, F, pl, d1, d, st, h1, e, f⟩ := h
  cases d1 with
  | tup l =>
    cases e
    obtain ⟨a, ws, rfl, h2, _, h3⟩ := h1.tup st
    refine call_len_seq pins s σ H _ us Q I r ⟨a, ws, rfl, .inr (hK ▸ h2), ?_⟩
    rw [h3.len]; exact f.here st rfl
  | lst l =>
    cases e
    obtain ⟨a, ws, rfl, h2, h3⟩ := h1.lst st
    refine call_len_seq pins s σ H _ us Q I r ⟨a, ws, rfl, .inl (SqL.of h2), ?_⟩
    rw [h3.len]; exact f.here st rfl
  | scr l =>
    cases e
    obtain ⟨a, rfl, h2⟩ := h1.scr st
    refine call_len_seq pins s σ H _ us Q I r ⟨a, _, rfl, .inl (hK ▸ h2), ?_⟩
    rw [List.length_map]; exact f.here st rfl
  | dct l =>
    cases e
    obtain ⟨a, ws, rfl, h2, h3⟩ := h1.dct st
    cases Vals.ref1 r
    refine d_len I h2 fun t s' I' => ⟨.int _, H, I', ⟨t, rfl⟩, ?_⟩
    have : ws.length = l.length := by
      clear f h1 h2
      induction l generalizing ws with
      | nil => cases (show ws = [] from h3); rfl
      | cons p l ih =>
        obtain ⟨v, q, rfl, _, h5⟩ := h3
        simp [ih q h5]
    rw [this]; exact f.here st rfl
  | str z =>
    simp only [biS] at e
    split at e
    · rename_i hl
      cases e
      cases h1.str
      exact call_len_str pins s σ H _ us Q I r ⟨z, rfl, lim_eq ▸ hl, f.here st rfl⟩
    · cases e
  | _ => cases e
theorem clSum (hK : X.K = T.K) (hc : X.calm = true) : CallR X (.builtin "sum") (rCl1 T (biS .sum)) := by
  intro pins s σ H vs us Q I r h
  obtain ⟨x, rfl, pa, F, pl, d1, d, st, h1, e, f⟩ := h
  cases d1 with
  | lst l =>
    simp only [biS] at e
    cases q : intL l with
    | none => rw [q] at e; cases e
    | some ns =>
      rw [q] at e; cases e
      obtain ⟨a, ws, rfl, h2, h3⟩ := h1.lst st
      cases h3.intL q
      exact cr_sum hc pins s σ H _ us Q I r ⟨a, ns, rfl, SqL.of h2, f.here st rfl⟩
  | tup l =>
    simp only [biS] at e
    cases q : intL l with
    | none => rw [q] at e; cases e
    | some ns =>
      rw [q] at e; cases e
      obtain ⟨a, ws, rfl, h2, _, h3⟩ := h1.tup st
      cases h3.intL q
      obtain ⟨its, rv, hl, _⟩ := I.tuple (hK ▸ h2)
      cases Vals.ref1 r
      have hi := rv.ints
      obtain ⟨xs, ex⟩ := hi.allInts.items
      have hn : numsOf (intItems xs).toList = ns := by rw [← ex]; exact hi.numsOf
      rw [nums_intItems] at hn
      have hl' : s.heap.IsTuple a (intItems xs) := by rw [← ex]; exact hl
      refine PySem.W.ktm_sumG (I.ok.hd hc) hl' fun h' tk t' hk => ?_
      rw [preSum_eq, List.take_of_length_le (by simp), hn]
      exact ⟨.int _, H, I.kept hk, ⟨_, rfl⟩, f.here st rfl⟩
  | _ => cases e
theorem clInt : CallR X (.type "int") (rCl1 T (biS .int)) := by
  intro pins s σ H vs us Q I r h
  obtain ⟨x, rfl, pa, F, pl, d1, d, st, h1, e, f⟩ := h
  cases d1 with
  | int i => cases e; cases h1.int; exact call_int1 pins s σ H _ us Q I r (.inl ⟨i, rfl, f.here st rfl⟩)
  | bl i => cases e; cases h1.bl; exact call_int1 pins s σ H _ us Q I r (.inr ⟨i, rfl, f.here st rfl⟩)
  | _ => cases e
theorem clTuple (hK : X.K = T.K) : CallR X (.type "tuple") (rCl1 T (biS .tuple)) := by
  intro pins s σ H vs us Q I r h
  obtain ⟨x, rfl, pa, F, pl, d1, d, st, h1, e, f⟩ := h
  cases d1 with
  | tup l =>
    cases e
    obtain ⟨a, ws, rfl, h2, t2, h3⟩ := h1.tup st
    exact call_tuple_of pins s σ H _ us Q I r ⟨a, ws, rfl, .inr ⟨hK ▸ h2, f.here st ⟨a, ws, rfl, t2, h3⟩⟩⟩
  | lst l =>
    cases e
    obtain ⟨a, ws, rfl, h2, h3⟩ := h1.lst st
    exact call_tuple_of pins s σ H _ us Q I r ⟨a, ws, rfl, .inl ⟨SqL.of h2, fun z hz => f.laid st h3 hz⟩⟩
  | _ => cases e
/-- a new list: what follows it, whether it is shared or not -/
def FinN (T : Tb) (pa : Option Addr) (F H : Hp) (pl : Pl) (d : D) (Q : VK) : Prop := ∀ p F' H', Ext pa F H F' H' → Sit T pa F' H' pl → F' p = none → pa ≠ some p → H p = none → RO T pa F' H' d p → Q (.ref p) H'
theorem FinN.shift {pa : Option Addr} {F H F' H' : Hp} {pl : Pl} {d : D} {Q : VK} (f : FinN T pa F H pl d Q) (e : Ext pa F H F' H') (hs : ∀ x, pa = some x → H x ≠ none) : FinN T pa F' H' pl d Q := by
  intro p F2 H2 e2 s n m h r
  refine f p F2 H2 (e.tr e2 s) s n m ?_ r
  cases q : H p with
  | none => rfl
  | some u => rw [e.keep p u q m] at h; cases h
theorem FinN.laidL {pa : Option Addr} {F H : Hp} {pl : Pl} {l : List D} {vs : List V} {Q : VK} {p : Addr} (f : FinN T pa F H pl (.lst l) Q) (s : Sit T pa F H pl) (r : RVs T pa F l vs) (hp : H p = none) : Q (.ref p) (upd H p (.lst vs)) := by
  refine f p F _ (Ext.newH s hp) (Sit.newH s hp) ?_ ?_ hp ⟨vs, upd_same, r⟩
  · cases q : F p with
    | none => rfl
    | some u => rw [s.sub p u q] at hp; cases hp
  · intro e
    obtain ⟨us, h, _⟩ := s.pool p e
    rw [hp] at h; cases h
/-- a new list is shared -/
theorem FinN.of {pa : Option Addr} {F H : Hp} {pl : Pl} {l : List D} {Q : VK} (f : Fin T pa F H pl (.lst l) Q) : FinN T pa F H pl (.lst l) Q := by
  intro p F' H' e s n m hp r
  obtain ⟨vs, h1, h2⟩ := r
  have hu : Sub F' (upd F' p (.lst vs)) := fun a u h => by rw [upd_ne (fun z => by subst z; rw [n] at h; cases h)]; exact h
  refine f (.ref p) (upd F' p (.lst vs)) H' ⟨e.keep, fun a u h => hu a u (e.sub a u h), fun a u h => ?_⟩ ⟨fun a u h => ?_, fun a h => ?_, fun a h => ?_⟩ ⟨p, vs, rfl, upd_same, RVs.mono hu (.inr rfl) _ _ h2⟩
  · by_cases z : a = p
    · subst z; exact .inr hp
    · rw [upd_ne z] at h; exact e.fresh a u h
  · by_cases z : a = p
    · subst z; rw [upd_same] at h; rw [← h]; exact h1
    · rw [upd_ne z] at h; exact s.sub a u h
  · rw [upd_ne (fun z => by subst z; exact m h)]; exact s.out a h
  · obtain ⟨us, q1, q2⟩ := s.pool a h
    exact ⟨us, q1, RVs.mono hu (.inr rfl) _ _ q2⟩
def rUN (T : Tb) (g : D → Option D) : V → Hp → VK → Prop := fun x H Q => ∃ pa F pl d1 d, Sit T pa F H pl ∧ RP T pa F H d1 x ∧ g d1 = some d ∧ FinN T pa F H pl d Q
def rClN (T : Tb) (g : D → Option D) : List V → Hp → VK → Prop := fun xs H Q => ∃ x, xs = [x] ∧ rUN T g x H Q
theorem clList (hK : X.K = T.K) : CallR X (.type "list") (rClN T (biS .list)) := by
  intro pins s σ H vs us Q I r h
  obtain ⟨x, rfl, pa, F, pl, d1, d, st, h1, e, f⟩ := h
  cases d1 with
  | tup l =>
    cases e
    obtain ⟨a, ws, rfl, h2, t2, h3⟩ := h1.tup st
    exact call_list_of pins s σ H _ us Q I r ⟨a, ws, rfl, .inr (hK ▸ h2), fun z hz => f.laidL st h3 hz⟩
  | lst l =>
    cases e
    obtain ⟨a, ws, rfl, h2, h3⟩ := h1.lst st
    exact call_list_of pins s σ H _ us Q I r ⟨a, ws, rfl, .inl (SqL.of h2), fun z hz => f.laidL st h3 hz⟩
  | scr l =>
    cases e
    obtain ⟨a, rfl, h2⟩ := h1.scr st
    exact call_list_of pins s σ H _ us Q I r ⟨a, _, rfl, .inl (hK ▸ h2), fun z hz => f.laidL st RVs.scr hz⟩
  | _ => cases e
theorem clSorted (hK : X.K = T.K) : CallR X (.builtin "sorted") (rClN T (biS .sorted)) := by
  intro pins s σ H vs us Q I r h
  obtain ⟨x, rfl, pa, F, pl, d1, d, st, h1, e, f⟩ := h
  cases d1 with
  | lst l =>
    simp only [biS] at e
    cases q : intL l with
    | none => rw [q] at e; cases e
    | some ns =>
      rw [q] at e; cases e
      obtain ⟨a, ws, rfl, h2, h3⟩ := h1.lst st
      cases h3.intL q
      refine cr_sortedI pins s σ H _ us Q I r ⟨a, ns, rfl, SqL.of h2, fun ns' p hp hs hz => ?_⟩
      cases sorted_unique (hp.trans (sortI_perm ns).symm) hs (sortI_sorted ns)
      exact f.laidL st RVs.scr hz
  | _ => cases e
theorem clMin (hK : X.K = T.K) (hc : X.calm = true) : CallR X (.builtin "min") (rCl1 T (biS .min)) := by
  intro pins s σ H vs us Q I r h
  obtain ⟨x, rfl, pa, F, pl, d1, d, st, h1, e, f⟩ := h
  cases d1 with
  | lst l =>
    simp only [biS] at e
    cases q : intL l with
    | none => rw [q] at e; cases e
    | some ns =>
      rw [q] at e
      simp only at e
      cases q2 : minL ns with
      | none => rw [q2] at e; cases e
      | some m =>
        rw [q2] at e; cases e
        obtain ⟨a, ws, rfl, h2, h3⟩ := h1.lst st
        cases h3.intL q
        obtain ⟨m1, m2⟩ := minL_spec q2
        refine cr_min hc pins s σ H _ us Q I r ⟨a, ns, rfl, SqL.of h2, List.length_pos_of_mem m1, fun k k1 k2 => ?_⟩
        cases Int.le_antisymm (m2 k k1) (k2 m m1)
        exact f.here st rfl
  | _ => cases e
theorem clMax (hK : X.K = T.K) (hc : X.calm = true) : CallR X (.builtin "max") (rCl1 T (biS .max)) := by
  intro pins s σ H vs us Q I r h
  obtain ⟨x, rfl, pa, F, pl, d1, d, st, h1, e, f⟩ := h
  cases d1 with
  | lst l =>
    simp only [biS] at e
    cases q : intL l with
    | none => rw [q] at e; cases e
    | some ns =>
      rw [q] at e
      simp only at e
      cases q2 : maxL ns with
      | none => rw [q2] at e; cases e
      | some m =>
        rw [q2] at e; cases e
        obtain ⟨a, ws, rfl, h2, h3⟩ := h1.lst st
        cases h3.intL q
        obtain ⟨m1, m2⟩ := maxL_spec q2
        refine cr_max hc pins s σ H _ us Q I r ⟨a, ns, rfl, SqL.of h2, List.length_pos_of_mem m1, fun k k1 k2 => ?_⟩
        cases Int.le_antisymm (k2 m m1) (m2 k k1)
        exact f.here st rfl
  | _ => cases e
theorem clAbs : CallR X (.builtin "abs") (rCl1 T (biS .abs)) := by
  intro pins s σ H vs us Q I r h
  obtain ⟨x, rfl, pa, F, pl, d1, d, st, h1, e, f⟩ := h
  cases d1 with
  | int i => cases e; cases h1.int; exact call_abs pins s σ H _ us Q I r ⟨i, rfl, f.here st rfl⟩
  | _ => cases e
theorem clMax2 (hc : X.calm = true) : CallR X (.builtin "max") (rCl2 T fun a b _ => bi2S .max a b) := by
  intro pins s σ H vs us Q I r h
  obtain ⟨x, y, rfl, pa, F, pl, d1, d2, d, st, h1, h2, e, f⟩ := h
  cases d1 <;> cases d2 <;> simp only [bi2S] at e <;> cases e
  cases h1.int; cases h2.int
  exact call_max2 hc pins s σ H _ us Q I r ⟨_, _, rfl, f.here st rfl⟩
theorem clMin2 (hc : X.calm = true) : CallR X (.builtin "min") (rCl2 T fun a b _ => bi2S .min a b) := by
  intro pins s σ H vs us Q I r h
  obtain ⟨x, y, rfl, pa, F, pl, d1, d2, d, st, h1, h2, e, f⟩ := h
  cases d1 <;> cases d2 <;> simp only [bi2S] at e <;> cases e
  cases h1.int; cases h2.int
  exact call_min2 hc pins s σ H _ us Q I r ⟨_, _, rfl, f.here st rfl⟩
/-! ### isinstance -/
def tyN : Ty → String
  | .int => "int"
  | .bool => "bool"
  | .str => "str"
  | .tuple => "tuple"
  | .list => "list"
def dN : D → Option String
  | .non => some "NoneType"
  | .bl _ => some "bool"
  | .int _ => some "int"
  | .str _ => some "str"
  | .tup _ => some "tuple"
  | .lst _ => some "list"
  | .dct _ => some "dict"
  | _ => none
theorem kitT : ∀ t : Ty, kitB "NoneType" (tyN t) = some false ∧ kitB "bool" (tyN t) = some (t == .int || t == .bool) ∧ kitB "int" (tyN t) = some (t == .int) ∧ kitB "str" (tyN t) = some (t == .str) ∧
    kitB "tuple" (tyN t) = some (t == .tuple) ∧ kitB "list" (tyN t) = some (t == .list) ∧ kitB "dict" (tyN t) = some false := by
  intro t
  cases t <;> decide +kernel
theorem tyx {pa : Option Addr} {F H : Hp} {d : D} {v : V} {pl : Pl} {n : String} (h : RP T pa F H d v) (s : Sit T pa F H pl) (e : dN d = some n) : TyX T.K H v (.type n) := by
  cases d <;> simp only [dN] at e <;> cases e
  · rw [h.non]; exact .base .non
  · rw [h.bl]; exact .base (.bl _)
  · rw [h.int]; exact .base (.int _)
  · rw [h.str]; exact .base (.str _)
  · obtain ⟨a, vs, rfl, _, t, _⟩ := h.tup s
    rcases t with t | ⟨o, its, k, h1, h2, _⟩
    · exact .base (.tup (s.sub _ _ t))
    · exact .kTuple h1 h2
  · obtain ⟨a, vs, rfl, h1, _⟩ := h.lst s
    exact .base (.lst h1)
  · obtain ⟨a, vs, rfl, h1, _⟩ := h.dct s
    rcases h1 with h1 | ⟨o, h1⟩
    · exact .base (.dK h1)
    · exact .fDict h1
def rIsE (T : Tb) (t : Ty) : List V → Hp → VK → Prop := fun xs H Q => ∃ x, xs = [x, .ty (tyN t)] ∧ rU1 T (fun d => (isinS t d).map .bl) x H Q
theorem clIsi (hK : X.K = T.K) (t : Ty) : CallR X (.builtin "isinstance") (rIsE T t) := by
  intro pins s σ H vs us Q I r h
  obtain ⟨x, rfl, pa, F, pl, d1, d, st, h1, e, f⟩ := h
  obtain ⟨k1, k2, k3, k4, k5, k6, k7⟩ := kitT t
  have go : ∀ n b, dN d1 = some n → kitB n (tyN t) = some b → isinS t d1 = some b → wpAny (model X.prog X.w) X.A (call (.builtin "isinstance") us) (EP X pins σ Q) X.xe s := by
    intro n b e1 e2 e3
    have e' : (isinS t d1).map D.bl = some d := e
    rw [e3] at e'; cases e'
    exact call_isi pins s σ H _ us Q I r ⟨x, _, _, _, b, rfl, .ty _, hK ▸ tyx h1 st e1, kit_ty e2, f.here st rfl⟩
  cases d1 with
  | non => exact go _ _ rfl k1 (by cases t <;> rfl)
  | bl b => exact go _ _ rfl k2 (by cases t <;> rfl)
  | int b => exact go _ _ rfl k3 (by cases t <;> rfl)
  | str b => exact go _ _ rfl k4 (by cases t <;> rfl)
  | tup b => exact go _ _ rfl k5 (by cases t <;> rfl)
  | lst b => exact go _ _ rfl k6 (by cases t <;> rfl)
  | dct b => exact go _ _ rfl k7 (by cases t <;> rfl)
  | tab b => cases t <;> cases e
  | fn b => cases t <;> cases e
  | pool => cases t <;> cases e
  | scr b => cases t <;> cases e
/-! ### places -/
theorem ixE (hK : X.K = T.K) (hu : X.A.units + 190 < cLine) : IxR X (rB T ixS) := by
  intro value slice pins s σ H x y v u Q I rx ry h hs
  obtain ⟨pa, F, pl, d1, d2, d, st, h1, h2, e, f⟩ := h
  cases d1 with
  | tup l =>
    cases d2 <;> simp only [ixS] at e <;> try cases e
    obtain ⟨a, ws, rfl, q, _, h3⟩ := h1.tup st
    obtain ⟨z, e1, e2⟩ := h3.atI e
    exact ix_tup value slice pins s σ H _ y v u Q I rx ry ⟨a, ws, _, z, rfl, h2.int, hK ▸ q, e1, f.here st e2⟩ hs
  | lst l =>
    cases d2 <;> simp only [ixS] at e <;> try cases e
    obtain ⟨a, ws, rfl, q, h3⟩ := h1.lst st
    obtain ⟨z, e1, e2⟩ := h3.atI e
    exact ix_list value slice pins s σ H _ y v u Q I rx ry ⟨a, ws, _, z, rfl, h2.int, SqL.of q, e1, f.here st e2⟩ hs
  | pool =>
    cases d2 <;> simp only [ixS] at e <;> try cases e
    obtain ⟨a, ea, rfl⟩ := h1.pool
    obtain ⟨ws, q, h3⟩ := st.pool a ea
    obtain ⟨z, e1, e2⟩ := h3.atI e
    exact ix_list value slice pins s σ H _ y v u Q I rx ry ⟨a, ws, _, z, rfl, h2.int, SqL.of q, e1, f.here st e2⟩ hs
  | dct l =>
    simp only [ixS] at e
    cases ek : keyD d2 with
    | none => rw [ek] at e; cases e
    | some k =>
      rw [ek] at e
      simp only at e
      obtain ⟨a, kvs, rfl, hr, rk⟩ := h1.dct st
      have hx := keyD_rv h2 ek
      rcases rvv _ _ rk k with ⟨e1, e2⟩ | ⟨d', v', e1, e2, rv'⟩
      · rw [e] at e1; cases e1
      · rw [e] at e1; cases e1
        have g : DGet H a y (some v') := .inl ⟨kvs, k, hr, hx, e2.symm⟩
        cases (show v = .ref a from rx)
        exact tail_any (dict_typeIs I g) PySem.F.slot_dict_getitem.lookup (d_getItem (by omega) I g ry fun w' s3 I3 rw' => ⟨v', H, I3, rw', f.here st rv'⟩) hs
  | _ => cases d2 <;> cases e
/-! ### slices -/
theorem cutV_mapI (l : List Int) (lo hi : Option Int) : cutV (l.map V.int) lo hi = (cutD l lo hi).map V.int := by
  unfold cutV cutD
  rw [List.length_map, List.map_take, List.map_drop]
def rSlE (T : Tb) : V → Option Int → Option Int → Hp → VK → Prop := fun x lo hi H Q => ∃ pa F pl d1 d, Sit T pa F H pl ∧ RP T pa F H d1 x ∧ slcS d1 lo hi = some d ∧ Fin T pa F H pl d Q
theorem slE (hK : X.K = T.K) : SlR X (rSlE T) := by
  intro pins s σ H x v vl vu lo hi sl Q I rx hs pl pu h
  obtain ⟨pa, F, pl', d1, d, st, h1, e, f⟩ := h
  cases d1 with
  | tup l =>
    cases e
    obtain ⟨a, ws, rfl, q, t, h3⟩ := h1.tup st
    refine sl_tupA pins s σ H _ v vl vu lo hi sl Q I rx hs pl pu ⟨a, ws, rfl, hK ▸ q, fun z => ?_, fun _ p hp => f.laid st (h3.cut lo hi) hp⟩
    refine f.here st ⟨a, ws, rfl, t, ?_⟩
    have : cutV ws lo hi = ws := by
      unfold cutV; rw [z.1, z.2]; simp
    have h4 := h3.cut lo hi
    rw [this] at h4; exact h4
  | lst l =>
    cases e
    obtain ⟨a, ws, rfl, q, h3⟩ := h1.lst st
    exact sl_list pins s σ H _ v vl vu lo hi sl Q I rx hs pl pu ⟨a, ws, rfl, SqL.of q, fun p hp => f.laidL st (h3.cut lo hi) hp⟩
  | scr l =>
    cases e
    obtain ⟨a, rfl, q⟩ := h1.scr st
    refine sl_list pins s σ H _ v vl vu lo hi sl Q I rx hs pl pu ⟨a, _, rfl, hK ▸ q, fun p hp => ?_⟩
    rw [cutV_mapI]
    exact f.laidL st RVs.scr hp
  | _ => cases e
end
end Ev

set_option Elab.async false
set_option linter.all false
set_option maxRecDepth 100000
set_option maxHeartbeats 4000000
/-! Ev5: the check of the language against the row's own syntax. -/
namespace Ev
open PySem PySem.Spec PyProof.Rows L2
mutual
def beqD : D → D → Bool
  | .non, .non => true
  | .bl a, .bl b => a == b
  | .int a, .int b => decide (a = b)
  | .str a, .str b => decide (a = b)
  | .tup a, .tup b => beqDs a b
  | .fn a, .fn b => decide (a = b)
  | _, _ => false
def beqDs : List D → List D → Bool
  | [], [] => true
  | a :: as, b :: bs => beqD a b && beqDs as bs
  | _, _ => false
end
mutual
theorem beqD_eq : ∀ a b : D, beqD a b = true → a = b
  | .non, b, h => by cases b <;> simp [beqD] at h ⊢
  | .bl a, b, h => by cases b <;> simp [beqD] at h ⊢; exact h
  | .int a, b, h => by cases b <;> simp [beqD] at h ⊢; exact h
  | .str a, b, h => by cases b <;> simp [beqD] at h ⊢; exact h
  | .tup a, b, h => by
    cases b <;> simp [beqD] at h ⊢
    exact beqDs_eq _ _ h
  | .fn a, b, h => by cases b <;> simp [beqD] at h ⊢; exact h
  | .lst a, b, h => by cases b <;> simp [beqD] at h
  | .dct a, b, h => by cases b <;> simp [beqD] at h
  | .tab a, b, h => by cases b <;> simp [beqD] at h
  | .pool, b, h => by cases b <;> simp [beqD] at h
  | .scr a, b, h => by cases b <;> simp [beqD] at h
theorem beqDs_eq : ∀ a b : List D, beqDs a b = true → a = b
  | [], b, h => by cases b <;> simp [beqDs] at h ⊢
  | a :: as, b, h => by
    cases b with
    | nil => simp [beqDs] at h
    | cons b bs =>
      simp [beqDs] at h
      rw [beqD_eq a b h.1, beqDs_eq as bs h.2]
end
/-- what the program's top says, and the def's (or the block's) names -/
structure Ck where
  g : List (Str × D)
  fr : List Str
  N : List Str
  sc : Scope
def gGet (g : List (Str × D)) (x : Str) : Option D := g.lookup x
def nameOk (x : Str) : Bool := !(x == ("__debug__" : Str)) && !(x == ("__classdict__" : Str))
def Ck.vis (c : Ck) (i : Nat) (x : Str) : Bool := decide (c.N[i]? = some x) && nameOk x && (match c.sc.names.lookup x with
  | some .local => true
  | some .cell => true
  | some .free => true
  | _ => false)
/-- stored by the def itself -/
def Ck.loc (c : Ck) (i : Nat) (x : Str) : Bool := decide (c.N[i]? = some x) && (match c.sc.names.lookup x with
  | some .local => true
  | some .cell => true
  | _ => false)
/-- stored by the def itself, not kept in a cell -/
def Ck.lc (c : Ck) (i : Nat) (x : Str) : Bool := c.loc i x && decide (c.sc.names.lookup x = some .local)
def Ck.glob (c : Ck) (x : Str) : Bool := nameOk x && (match c.sc.names.lookup x with
  | some .globalImplicit => true
  | _ => false)
def Ck.free (c : Ck) (x : Str) : Bool := c.glob x && c.fr.contains x && !decide (x = "__name__")
def notStar : Expr → Bool
  | .Starred _ _ => false
  | _ => true
def notSet : Expr → Bool
  | .Set _ _ _ => false
  | _ => true
def notSlice : Expr → Bool
  | .Slice _ _ _ _ => false
  | _ => true
def notComp : Expr → Bool
  | .ListComp _ _ _ _ => false
  | .SetComp _ _ _ _ => false
  | .DictComp _ _ _ _ _ => false
  | _ => true
def biN : Bi → Str
  | .len => "len" | .all => "all" | .any => "any" | .sum => "sum" | .int => "int" | .tuple => "tuple" | .list => "list" | .sorted => "sorted" | .min => "min" | .max => "max" | .abs => "abs" | .dict => "dict"
def bi2N : Bi2 → Str
  | .max => "max" | .min => "min"
def tyS : Ty → Str
  | .int => "int" | .bool => "bool" | .str => "str" | .tuple => "tuple" | .list => "list"
def E.isPk : E → Bool
  | .pk _ => true
  | _ => false
/-- makes a new list -/
def E.isN : E → Bool
  | .lst _ => true
  | .lc _ _ _ _ _ => true
  | .lc2 _ _ _ _ _ _ _ _ => true
  | .bi .list _ => true
  | .bi .sorted _ => true
  | .cat _ _ => true
  | .lit _ => true
  | .dct _ _ => true
  | _ => false
def isKey : Key → Option Expr → Bool
  | .inl i, some (.Constant (.int j) _ _) => decide (i = j)
  | .inr s, some (.Constant (.str z) _ _) => decide (s = z)
  | _, _ => false
def areKeys : List Key → List (Option Expr) → Bool
  | [], [] => true
  | k :: ks, e :: es => isKey k e && areKeys ks es
  | _, _ => false
def ownOf (N : List Str) (vs : List Nat) : List (Str × Nat) := vs.map fun i => (N.getD i ⟨#[]⟩, i)
def Tg.slots : Tg → List Nat
  | .nm i => [i]
  | .tp l => l
def chkNames (c : Ck) : List Nat → List Expr → Bool
  | [], [] => true
  | i :: is, .Name x _ :: es => c.loc i x && chkNames c is es
  | _, _ => false
def chkTg (c : Ck) : Tg → Expr → Bool
  | .nm i, .Name x _ => c.loc i x
  | .tp is, .Tuple es _ _ => chkNames c is es
  | _, _ => false
def isTup : Expr → Bool
  | .Tuple _ _ _ => true
  | _ => false
mutual
def chkE (c : Ck) : E → Expr → Bool
  | .non, a => (match a with
    | .Constant .none _ _ => true
    | _ => false)
  | .bl b, a => (match a with
    | .Constant (.bool b') _ _ => b == b'
    | _ => false)
  | .int i, a => (match a with
    | .Constant (.int j) _ _ => decide (i = j)
    | _ => false)
  | .str s, a => (match a with
    | .Constant (.str s') _ _ => decide (s = s')
    | _ => false)
  | .var i, a => (match a with
    | .Name x _ => c.vis i x
    | _ => false)
  | .pk i, a => (match a with
    | .Name x _ => c.vis i x
    | _ => false)
  | .glo x d, a => (match a with
    | .Name y _ => decide (x = y) && c.glob x && (match gGet c.g x with
      | some d' => beqD d d'
      | none => false)
    | _ => false)
  | .tup es, a => (match a with
    | .Tuple xs _ _ => chkEs c es xs && decide (xs.length ≤ 1000)
    | _ => false)
  | .lst es, a => (match a with
    | .List xs _ => chkEs c es xs && decide (xs.length ≤ 1000)
    | _ => false)
  | .dnew, _ => false
  | .bin op p q, a => (match a with
    | .BinOp x o y _ => decide (op = o) && (chkE c p x && chkE c q y)
    | _ => false)
  | .cmp op p q, a => (match a with
    | .Compare x [o] [y] _ => decide (op = o) && (chkE c p x && chkE c q y && !behindInMarks o y)
    | _ => false)
  | .chain o1 o2 p q r, a => (match a with
    | .Compare x [u, v] [y, z] _ => decide (o1 = u) && decide (o2 = v) && (chkE c p x && chkE c q y && chkE c r z && !lastMarks [u, v] [y, z])
    | _ => false)
  | .neg p, a => (match a with
    | .UnaryOp .USub x _ => chkE c p x
    | _ => false)
  | .nt p, a => (match a with
    | .UnaryOp .Not x _ => chkE c p x && !p.isPk
    | _ => false)
  | .an p q, a => (match a with
    | .BoolOp .And (x :: y :: rest) pos => chkE c p x && (match rest with
      | [] => chkE c q y
      | _ :: _ => chkE c q (.BoolOp .And (y :: rest) pos)) && !p.isPk && !q.isPk
    | _ => false)
  | .orr p q, a => (match a with
    | .BoolOp .Or (x :: y :: rest) pos => chkE c p x && (match rest with
      | [] => chkE c q y
      | _ :: _ => chkE c q (.BoolOp .Or (y :: rest) pos)) && !p.isPk && !q.isPk
    | _ => false)
  | .ite t p q, a => (match a with
    | .IfExp x y z _ => chkE c t x && chkE c p y && chkE c q z && !p.isPk && !q.isPk && !t.isPk
    | _ => false)
  | .call x n es, a => (match a with
    | .Call (.Name y _) as [] _ => decide (x = y) && c.glob x && chkEs c es as && (match gGet c.g x with
      | some (.fn m) => decide (n = m)
      | _ => false)
    | _ => false)
  | .callv i es, a => (match a with
    | .Call (.Name x _) (y :: ys) [] _ => c.vis i x && chkEs c es (y :: ys)
    | _ => false)
  | .bi f p, a => (match a with
    | .Call (.Name x _) [y] [] _ => decide (x = biN f) && c.free x && chkE c p y && notStar y && decide (f ≠ .dict)
    | _ => false)
  | .bi2 f p q, a => (match a with
    | .Call (.Name x _) [y, z] [] _ => decide (x = bi2N f) && c.free x && chkE c p y && notStar y && chkE c q z && notStar z
    | _ => false)
  | .isin p t, a => (match a with
    | .Call (.Name x _) [y, .Name z _] [] _ => decide (x = "isinstance") && c.free x && chkE c p y && notStar y && decide (z = tyS t) && c.free z
    | _ => false)
  | .ix p q, a => (match a with
    | .Subscript x y _ => chkE c p x && chkE c q y && notSlice y
    | _ => false)
  | .slc p lo hi, a => (match a with
    | .Subscript x (.Slice l u none _) _ => chkE c p x && chkO c lo l && chkO c hi u
    | _ => false)
  | .rev _, _ => false
  | .cat p q, a => (match a with
    | .BinOp x .Add y _ => chkE c p x && chkE c q y
    | _ => false)
  | .lit it, a => (match a with
    | .Call (.Name x _) [y] [] _ => decide (x = "list") && c.free x && notStar y && (match it with
      | .r1 _ => chkIt c it y y
      | .r2 _ _ => chkIt c it y y
      | _ => false)
    | _ => false)
  | .dct ks es, a => (match a with
    | .Dict keys values _ => areKeys ks keys && chkEs c es values && decide (keys.length = values.length) && decide (keys.length ≤ 15)
    | _ => false)
  | .rvt p, a => (match a with
    | .Call (.Name x _) [.Call (.Name y _) [z] [] _] [] _ => decide (x = "tuple") && c.free x && decide (y = "reversed") && c.free y && chkE c p z && notStar z
    | _ => false)
  | .lc vs tg it t e, a => (match a with
    | .ListComp elt [⟨tgt, iter, ifs, as⟩] scope _ => decide (as = 0) && notSet iter && chkIt c it iter tgt && blkC c.N c.sc scope (ownOf c.N vs) && chkTg { c with sc := scope } tg tgt && chkCs { c with sc := scope } t ifs && chkE { c with sc := scope } e elt && !e.isPk && tg.slots.all (vs.contains ·)
    | _ => false)
  | .lc2 vs vs1 tg it tg1 it1 t e, a => (match a with
    | .ListComp elt [⟨tgt, iter, ifs, as⟩, ⟨tgt1, iter1, ifs1, as1⟩] scope _ => decide (as = 0) && decide (as1 = 0) && notSet iter && notSet iter1 && chkIt c it iter tgt && ifs.isEmpty && blkC c.N c.sc scope (ownOf c.N vs) && chkTg { c with sc := scope } tg tgt && chkIt { c with sc := scope } it1 iter1 tgt1
      && chkTg { c with sc := scope } tg1 tgt1 && chkCs { c with sc := scope } t ifs1 && chkE { c with sc := scope } e elt && !e.isPk && tg.slots.all (vs.contains ·) && tg1.slots.all (vs1.contains ·) && vs1.all (vs.contains ·) && it1.frozen
    | _ => false)
def chkEs (c : Ck) : Es → List Expr → Bool
  | .nil, as => as.isEmpty
  | .cons e es, as => (match as with
    | a :: as => chkE c e a && notStar a && !e.isPk && chkEs c es as
    | [] => false)
def chkO (c : Ck) : Eo → Option Expr → Bool
  | .none, a => a.isNone
  | .some e, a => (match a with
    | some a => chkE c e a
    | none => false)
def chkCs (c : Ck) : Eo → List Expr → Bool
  | .none, as => as.isEmpty
  | .some e, as => (match as with
    | [a] => chkE c e a && !e.isPk
    | _ => false)
/-- the third place: the target -/
def chkIt (c : Ck) : It → Expr → Expr → Bool
  | .seq e, a, _ => chkE c e a
  | .r1 p, a, _ => (match a with
    | .Call (.Name x _) [y] [] _ => decide (x = "range") && c.free x && chkE c p y && notStar y && !p.isPk
    | _ => false)
  | .r2 p q, a, _ => (match a with
    | .Call (.Name x _) [y, z] [] _ => decide (x = "range") && c.free x && chkE c p y && notStar y && chkE c q z && notStar z && !p.isPk && !q.isPk
    | _ => false)
  | .r3 p q i, a, _ => (match a with
    | .Call (.Name x _) [y, z, s] [] _ => decide (x = "range") && c.free x && chkE c p y && notStar y && chkE c q z && notStar z && !p.isPk && !q.isPk && (match s with
      | .Constant (.int j) _ _ => decide (i = j)
      | .UnaryOp .USub (.Constant (.int j) _ _) _ => decide (i = -j)
      | _ => false)
    | _ => false)
  | .zip p q, a, t => (match a with
    | .Call (.Name x _) [y, z] [] _ => decide (x = "zip") && c.free x && chkE c p y && notStar y && chkE c q z && notStar z && isTup t
    | _ => false)
  | .enum _, _, _ => false
end
/-- name = [..]: stored within the comprehension's block, or behind it -/
def compSwap (c : Ck) (x : Str) (px : Pos) (v : Expr) : Bool := match v with
  | .ListComp _ _ scope vp => decide (c.sc.names.lookup x = some .local) && (px.line == vp.line) && !(scope.names.any fun (n, k) => n == x && (k == .local || k == .cell))
  | _ => false
def compOk (c : Ck) (x : Str) (px : Pos) (v : Expr) : Bool := notComp v || (compSwap c x px v || (match v with
  | .ListComp _ _ _ _ => decide (c.sc.names.lookup x = some .cell)
  | _ => false))
mutual
def chkS (c : Ck) : S → Stmt → Bool
  | .set i e, a => (match a with
    | .Assign [.Name x px] v pos => c.loc i x && chkE c e v && !e.isPk && compOk c x px v
    | _ => false)
  | .setN i e, a => (match a with
    | .Assign [.Name x px] v pos => c.loc i x && chkE c e v && e.isN && compOk c x px v
    | _ => false)
  | .setT is e, a => (match a with
    | .Assign [.Tuple es _ _] v pos => chkNames c is es && chkE c e v && !e.isPk && notComp v && (!isTup v || (match v with
      | .Tuple vs _ _ => vs.all (foldedForSure 8) || es.any (fun
        | .Name id _ => decide (c.sc.names.lookup id = some .cell)
        | _ => false)
      | _ => false))
    | _ => false)
  | .par is es, a => (match is, a with
    | [i, j], .Assign [.Tuple [.Name x px, .Name y py] _ _] (.Tuple [va, vb] _ _) _ => c.lc i x && c.lc j y && chkEs c es [va, vb] && !decide (i = j) && !(y == x) && (py.line == px.line)
      && notStar va && notStar vb && !([va, vb].all (foldedForSure 8)) && !([va, vb].all (constantsAlone 8))
    | [i, j, l], .Assign [.Tuple [.Name x px, .Name y py, .Name z pz] _ _] (.Tuple [va, vb, vc] _ _) _ => c.lc i x && c.lc j y && c.lc l z && chkEs c es [va, vb, vc] && !decide (i = j) && !decide (i = l) && !decide (j = l) && !(y == x) && !(z == x) && !(z == y) && (py.line == px.line) && (pz.line == px.line)
      && notStar va && notStar vb && notStar vc && !([va, vb, vc].all (foldedForSure 8)) && !([va, vb, vc].all (constantsAlone 8))
    | _, _ => false)
  | .aug i op e, a => (match a with
    | .AugAssign (.Name x _) o v _ => c.loc i x && c.vis i x && chkE c e v && !e.isPk && decide (op = o) && (decide (op = .Add) || decide (op = .Sub) || decide (op = .FloorDiv))
    | _ => false)
  | .app i e, a => (match a with
    | .Expr (.Call (.Attribute (.Name x _) m ap) [v] [] cp) _ => c.vis i x && decide (m = "append") && chkE c e v && !e.isPk && notStar v && (ap.endLine == cp.line)
    | _ => false)
  | .ext i e, a => (match a with
    | .Expr (.Call (.Attribute (.Name x _) m ap) [v] [] cp) _ => c.vis i x && decide (m = "extend") && chkE c e v && !e.isPk && notStar v && (ap.endLine == cp.line)
    | _ => false)
  | .sti i k e, a => (match a with
    | .Assign [.Subscript (.Name x _) y _] v _ => c.vis i x && chkE c k y && !k.isPk && notSlice y && chkE c e v && !e.isPk && notComp v
    | _ => false)
  | .ret e, a => (match a with
    | .Return (some v) _ => chkE c e v && !e.isPk
    | _ => false)
  | .retN, a => (match a with
    | .Return none _ => true
    | _ => false)
  | .iff t p q, a => (match a with
    | .If x y z _ => chkE c t x && !t.isPk && chkSs c p y && chkSs c q z
    | _ => false)
  | .whl t b, a => (match a with
    | .While x y [] _ => chkE c t x && !t.isPk && chkSs c b y
    | _ => false)
  | .forr tg it b, a => (match a with
    | .For t iter y [] _ => chkTg c tg t && chkIt c it iter t && notSet iter && chkSs c b y && it.frozen
    | _ => false)
  | .ex e, a => (match a with
    | .Expr v _ => chkE c e v && !e.isPk && notComp v
    | _ => false)
  | .frz _, _ => false
  | .st2 i k1 k2 e1 e2, a => (match a with
    | .Assign [.Tuple [.Subscript (.Name x _) y1 _, .Subscript (.Name x2 _) y2 _] _ _] (.Tuple [v1, v2] _ _) _ => c.vis i x && c.vis i x2 && chkE c k1 y1 && !k1.isPk && notSlice y1 && chkE c k2 y2 && !k2.isPk && notSlice y2 && chkE c e1 v1 && !e1.isPk && notStar v1 && chkE c e2 v2 && !e2.isPk && notStar v2
    | _ => false)
  | .brk, a => (match a with
    | .Break _ => true
    | _ => false)
def chkSs (c : Ck) : Ss → List Stmt → Bool
  | .nil, as => as.isEmpty
  | .cons s r, as => (match s with
    | .frz _ => chkSs c r as
    | _ => (match as with
      | a :: as => chkS c s a && chkSs c r as
      | [] => false))
end
end Ev

set_option Elab.async false
set_option linter.all false
set_option maxRecDepth 100000
set_option maxHeartbeats 4000000
/-! Ev6: expressions keep to the evaluator: the readings, the plain forms. -/
namespace Ev
open PySem PySem.Spec PyProof.Rows L2
/-- the promise of a def: what the evaluator says -/
def spD (T : Tb) (cl : Call) (n : Nat) : Sp := fun vs H Q _ => ∃ pa F pl ds d pl', Sit T pa F H pl ∧ RVs T pa F ds vs ∧ cl n ds pl = some (.ok d pl') ∧ Fin T pa F H pl' d Q
structure FnK (T : Tb) (k : Nat) (cl : Call) (n : Nat) : Prop where
  ex : ∃ (fd : FuncData) (ps : List Str), FnOk T.P T.w T.K T.mg T.base CX0 k (T.fa n) fd ps (spD T cl n) ∧ PySem.W.keepIn T.K (.ref (T.fa n)) = true ∧ Binds T.K fd ps []
/-- the program's top is as said, the defs keep their promises -/
structure World0 (T : Tb) (k : Nat) (cl : Call) (g : List (Str × D)) (fr : List Str) : Prop where
  glob : ∀ x d, gGet g x = some d → ∃ u v, T.mg x = some u ∧ RelV v u ∧ RV T none (fun _ => none) d v
  free : ∀ x, fr.contains x = true → T.mg x = none
  fns : ∀ n ds pl r, cl n ds pl = some r → FnK T k cl n
structure CtxOk (T : Tb) (k : Nat) (c : Ck) (X : Cx) : Prop where
  prog : X.prog = T.P
  w : X.w = T.w
  K : X.K = T.K
  mg : X.mg = T.mg
  base : X.base = T.base
  N : X.N = c.N
  nd : c.N.Nodup
  calm : X.calm = true
  room : Room k X.A
  kind : X.env.scope.kind = .function
  sc : ∀ x kd, c.sc.names.lookup x = some kd → ∃ kd', X.env.scope.names.lookup x = some kd' ∧ (kd = kd' ∨ (kd = .free ∧ kd' = .cell))
  fn : ∀ x, c.sc.names.lookup x = some .cell → X.fn x = true
theorem CtxOk.units {T : Tb} {k : Nat} {c : Ck} {X : Cx} (h : CtxOk T k c X) : X.A.units + 190 < cLine := by
  have := h.room.un; omega
section
variable {T : Tb} {k : Nat} {c : Ck} {X : Cx}
theorem nameOk_1 {x : Str} (h : nameOk x = true) : (x == ("__debug__" : Str)) = false := by
  unfold nameOk at h
  rw [Bool.and_eq_true] at h
  simpa using h.1
theorem nameOk_2 {x : Str} (h : nameOk x = true) : (x == ("__classdict__" : Str)) = false := by
  unfold nameOk at h
  rw [Bool.and_eq_true] at h
  simpa using h.2
theorem CtxOk.vis (h : CtxOk T k c X) {i : Nat} {x : Str} (v : c.vis i x = true) : X.N[i]? = some x ∧ Vis X.env.scope x ∧ nameOk x = true := by
  unfold Ck.vis at v
  rw [Bool.and_eq_true, Bool.and_eq_true] at v
  obtain ⟨⟨h1, h2⟩, h3⟩ := v
  refine ⟨h.N ▸ of_decide_eq_true h1, ?_, h2⟩
  split at h3
  · rename_i e
    obtain ⟨kd, e1, e2⟩ := h.sc _ _ e
    rcases e2 with rfl | ⟨e2, _⟩
    · exact .inl e1
    · cases e2
  · rename_i e
    obtain ⟨kd, e1, e2⟩ := h.sc _ _ e
    rcases e2 with rfl | ⟨e2, _⟩
    · exact .inr (.inl e1)
    · cases e2
  · rename_i e
    obtain ⟨kd, e1, e2⟩ := h.sc _ _ e
    rcases e2 with rfl | ⟨_, rfl⟩
    · exact .inr (.inr e1)
    · exact .inr (.inl e1)
  · cases h3
theorem CtxOk.loc (h : CtxOk T k c X) {i : Nat} {x : Str} (v : c.loc i x = true) : X.N[i]? = some x ∧ Loc X.env.scope x ∧ (X.fn x = true ∨ X.env.scope.names.lookup x = some .local) := by
  unfold Ck.loc at v
  rw [Bool.and_eq_true] at v
  obtain ⟨h1, h3⟩ := v
  refine ⟨h.N ▸ of_decide_eq_true h1, ?_⟩
  split at h3
  · rename_i e
    obtain ⟨kd, e1, e2⟩ := h.sc _ _ e
    rcases e2 with rfl | ⟨e2, _⟩
    · exact ⟨.inl e1, .inr e1⟩
    · cases e2
  · rename_i e
    obtain ⟨kd, e1, e2⟩ := h.sc _ _ e
    rcases e2 with rfl | ⟨e2, _⟩
    · exact ⟨.inr e1, .inl (h.fn _ e)⟩
    · cases e2
  · cases h3
theorem CtxOk.gl (h : CtxOk T k c X) {x : Str} (v : c.glob x = true) : Gl X x ∧ nameOk x = true := by
  unfold Ck.glob at v
  rw [Bool.and_eq_true] at v
  obtain ⟨h2, h3⟩ := v
  split at h3
  · rename_i e
    obtain ⟨kd, e1, e2⟩ := h.sc _ _ e
    rcases e2 with rfl | ⟨e2, _⟩
    · exact ⟨e1, h2⟩
    · cases e2
  · cases h3
theorem CtxOk.fr {cl : Call} (h : CtxOk T k c X) (W : World0 T k cl c.g c.fr) {x : Str} (v : c.free x = true) : Gl X x ∧ X.mg x = none ∧ x ≠ "__name__" ∧ (x == ("__debug__" : Str)) = false := by
  unfold Ck.free at v
  rw [Bool.and_eq_true, Bool.and_eq_true] at v
  obtain ⟨⟨h1, h2⟩, h3⟩ := v
  obtain ⟨g1, g2⟩ := h.gl h1
  exact ⟨g1, h.mg ▸ W.free x h2, by simpa using h3, nameOk_1 g2⟩
end
/-! ### readings -/
section
variable (T : Tb) (cl : Call)
def tE (e : E) : TE := fun σ H Q => ∃ pa F ρ pl d pl', Gd T pa F ρ pl σ H ∧ evE cl e ρ pl = some (.ok d pl') ∧ Fin T pa F H pl' d Q
def tP (e : E) : TE := fun σ H Q => ∃ pa F ρ pl d pl', Gd T pa F ρ pl σ H ∧ evE cl e ρ pl = some (.ok d pl') ∧ FinP T pa F H pl' d Q
def tN (e : E) : TE := fun σ H Q => ∃ pa F ρ pl d pl', Gd T pa F ρ pl σ H ∧ evE cl e ρ pl = some (.ok d pl') ∧ FinN T pa F H pl' d Q
def tBo (e : E) : TT := fun σ H Q => ∃ pa F ρ pl b pl', Gd T pa F ρ pl σ H ∧ evE cl e ρ pl = some (.ok (.bl b) pl') ∧ ∀ F' H', Ext pa F H F' H' → Sit T pa F' H' pl' → Q b H'
def tA (es : Es) : TA := fun σ H Q => ∃ pa F ρ pl ds pl', Gd T pa F ρ pl σ H ∧ evEs cl es ρ pl = some (.ok ds pl') ∧ ∀ vs F' H', Ext pa F H F' H' → Sit T pa F' H' pl' → RVs T pa F' ds vs → Q vs H'
def tO (e : Eo) : TO := fun σ H Q => ∃ pa F ρ pl o pl', Gd T pa F ρ pl σ H ∧ evO cl e ρ pl = some (.ok o pl') ∧ ∀ F' H', Ext pa F H F' H' → Sit T pa F' H' pl' → Q o H'
def tCo (e : Eo) : TT := fun σ H Q => ∃ pa F ρ pl b pl', Gd T pa F ρ pl σ H ∧ evC cl e ρ pl = some (.ok b pl') ∧ ∀ F' H', Ext pa F H F' H' → Sit T pa F' H' pl' → Q b H'
end
theorem PE.of {X : Cx} {e : Expr} {t t' : TE} (h : PE X e t) (w : ∀ σ H Q, t' σ H Q → t σ H Q) : PE X e t' := ⟨fun pins s σ H Q I q => h.run pins s σ H Q I (w σ H Q q)⟩
theorem PT.of {X : Cx} {e : Expr} {t t' : TT} (h : PT X e t) (w : ∀ σ H Q, t' σ H Q → t σ H Q) : PT X e t' := ⟨fun pins s σ H Q I q => h.run pins s σ H Q I (w σ H Q q)⟩
theorem PW.of {X : Cx} {e : Expr} {t t' : TT} (h : PW X e t) (w : ∀ σ H Q, t' σ H Q → t σ H Q) : PW X e t' := ⟨fun wh pins s σ H Q I q => h.run wh pins s σ H Q I (w σ H Q q)⟩
theorem PA.of {X : Cx} {e : List Expr} {t t' : TA} (h : PA X e t) (w : ∀ σ H Q, t' σ H Q → t σ H Q) : PA X e t' := ⟨fun pos pins s σ H Q I q => h.run pos pins s σ H Q I (w σ H Q q)⟩
theorem bnd_ok {α β : Type} {r : R α} {f : α → Pl → R β} {b : β} {pl : Pl} (h : bnd r f = some (.ok b pl)) : ∃ a p, r = some (.ok a p) ∧ f a p = some (.ok b pl) := by
  unfold bnd at h
  split at h
  · cases h
  · exact ⟨_, _, rfl, h⟩
  · cases h
theorem lift_ok {α : Type} {o : Option α} {a : α} {pl p : Pl} (h : lift o pl = some (.ok a p)) : o = some a ∧ p = pl := by
  unfold lift at h
  split at h
  · cases h
  · cases h; exact ⟨rfl, rfl⟩
theorem getV_some {ρ : Rho} {i : Nat} {d : D} (h : getV ρ i = some d) : ρ[i]? = some (some (.val d)) := by
  unfold getV at h
  split at h
  · rename_i e; cases h; exact e
  · cases h
theorem getO_some {ρ : Rho} {i : Nat} {d : D} (h : getO ρ i = some d) : ρ[i]? = some (some (.own d)) := by
  unfold getO at h
  split at h
  · rename_i e; cases h; exact e
  · cases h
theorem fin_finP {T : Tb} {pa : Option Addr} {F H : Hp} {pl : Pl} {d : D} {Q : VK} (f : FinP T pa F H pl d Q) : Fin T pa F H pl d Q := fun v F' H' e s r => f v F' H' e s (.inl r)
theorem tP_tE {T : Tb} {cl : Call} {e : E} : ∀ σ H Q, tP T cl e σ H Q → tE T cl e σ H Q := fun σ H Q ⟨pa, F, ρ, pl, d, pl', g, h, f⟩ => ⟨pa, F, ρ, pl, d, pl', g, h, fin_finP f⟩
section
variable {T : Tb} {k : Nat} {cl : Call}
theorem Gd.free {pa : Option Addr} {F H : Hp} {ρ : Rho} {pl : Pl} {σ : L2.St} (g : Gd T pa F ρ pl σ H) : ∀ x, pa = some x → H x ≠ none := fun x e h => by
  obtain ⟨vs, q, _⟩ := g.sit.pool x e
  rw [h] at q; cases q
/-- the package: an expression of the language, its reading as a value, as an operand, as a new list, as a test -/
structure SE (T : Tb) (k : Nat) (cl : Call) (e : E) : Prop where
  pk : ∀ c X a, World0 T k cl c.g c.fr → CtxOk T k c X → chkE c e a = true → PE X a (tP T cl e)
  val : ∀ c X a, World0 T k cl c.g c.fr → CtxOk T k c X → chkE c e a = true → e.isPk = false → PE X a (tE T cl e)
  new : ∀ c X a, World0 T k cl c.g c.fr → CtxOk T k c X → chkE c e a = true → e.isN = true → PE X a (tN T cl e)
  tst : ∀ c X a, World0 T k cl c.g c.fr → CtxOk T k c X → chkE c e a = true → e.isPk = false → PT X a (tBo T cl e)
  pw : ∀ c X op vs pos, World0 T k cl c.g c.fr → CtxOk T k c X → chkE c e (.BoolOp op vs pos) = true → PW X (.BoolOp op vs pos) (tBo T cl e)
/-- a value is never an own list: from the value's reading -/
theorem tst_of {X : Cx} {a : Expr} {e : E} (h : PE X a (tE T cl e)) (he : ∀ whole, isTrue a X.env whole = (do let v ← whole; standAt a.pos; holding [v] (truthy v))) : PT X a (tBo T cl e) :=
  PT.of (pt_val h he) fun σ H Q ⟨pa, F, ρ, pl, b, pl', g, e1, f⟩ => ⟨pa, F, ρ, pl, .bl b, pl', g, e1, fun v F' H' ex s r => ⟨b, r, f F' H' ex s⟩⟩
/-- the usual form: a value, no new list, no chain of and, or -/
theorem SE.mk1 {e : E} (hv : ∀ c X a, World0 T k cl c.g c.fr → CtxOk T k c X → chkE c e a = true → PE X a (tE T cl e)) (hn : e.isN = false)
    (hb : ∀ c a, chkE c e a = true → (∀ env whole, isTrue a env whole = (do let v ← whole; standAt a.pos; holding [v] (truthy v))) ∧ ∀ op vs pos, a ≠ .BoolOp op vs pos) : SE T k cl e where
  pk := fun c X a W C h => PE.of (hv c X a W C h) tP_tE
  val := fun c X a W C h _ => hv c X a W C h
  new := fun c X a W C h n => by rw [hn] at n; cases n
  tst := fun c X a W C h _ => tst_of (hv c X a W C h) ((hb c a h).1 X.env)
  pw := fun c X op vs pos W C h => ((hb c _ h).2 op vs pos rfl).elim
theorem SE.mkN {e : E} (hN : ∀ c X a, World0 T k cl c.g c.fr → CtxOk T k c X → chkE c e a = true → PE X a (tN T cl e)) (hl : ∀ ρ pl d pl', evE cl e ρ pl = some (.ok d pl') → ∃ l, d = .lst l)
    (hb : ∀ c a, chkE c e a = true → (∀ env whole, isTrue a env whole = (do let v ← whole; standAt a.pos; holding [v] (truthy v))) ∧ ∀ op vs pos, a ≠ .BoolOp op vs pos) : SE T k cl e := by
  have hv : ∀ c X a, World0 T k cl c.g c.fr → CtxOk T k c X → chkE c e a = true → PE X a (tE T cl e) := fun c X a W C h =>
    PE.of (hN c X a W C h) fun σ H Q ⟨pa, F, ρ, pl, d, pl', g, e1, f⟩ => by
      obtain ⟨l, rfl⟩ := hl _ _ _ _ e1
      exact ⟨pa, F, ρ, pl, _, pl', g, e1, FinN.of f⟩
  exact ⟨fun c X a W C h => PE.of (hv c X a W C h) tP_tE, fun c X a W C h _ => hv c X a W C h, fun c X a W C h _ => hN c X a W C h, fun c X a W C h _ => tst_of (hv c X a W C h) ((hb c a h).1 X.env), fun c X op vs pos W C h => ((hb c _ h).2 op vs pos rfl).elim⟩
/-! ### constants, names -/
theorem rv0 {pa : Option Addr} {F : Hp} {d : D} {v : V} (h : RV T none (fun _ => none) d v) : RV T pa F d v := RV.mono (fun _ _ h => by cases h) (.inl rfl) d v h
theorem s_const {e : E} {d : D} {v : V} (he : ∀ ρ pl, evE cl e ρ pl = some (.ok d pl)) (hr : ∀ pa F, RV T pa F d v) (hn : e.isN = false)
    (ha : ∀ c a, chkE c e a = true → (∃ x j pos, a = .Constant x j pos) ∧ ∀ X : Cx, PE X a (L2.tC v)) : SE T k cl e := by
  refine SE.mk1 (fun c X a W C h => PE.of ((ha c a h).2 X) fun σ H Q ⟨pa, F, ρ, pl, d', pl', g, e1, f⟩ => ?_) hn fun c a h => ?_
  · rw [he] at e1; cases e1
    exact f.here g.sit (hr pa F)
  · obtain ⟨⟨x, j, pos, rfl⟩, _⟩ := ha c a h
    exact ⟨fun _ _ => rfl, fun _ _ _ z => by cases z⟩
theorem s_non : SE T k cl .non := by
  refine s_const (d := .non) (v := .non) (fun _ _ => rfl) (fun _ _ => rfl) rfl fun c a h => ?_
  unfold chkE at h
  split at h
  · exact ⟨⟨_, _, _, rfl⟩, fun X => pe_non⟩
  · cases h
theorem s_bl {b : Bool} : SE T k cl (.bl b) := by
  refine s_const (d := .bl b) (v := .bl b) (fun _ _ => rfl) (fun _ _ => rfl) rfl fun c a h => ?_
  unfold chkE at h
  split at h
  · cases eq_of_beq h
    exact ⟨⟨_, _, _, rfl⟩, fun X => pe_bl⟩
  · cases h
theorem s_int {b : Int} : SE T k cl (.int b) := by
  refine s_const (d := .int b) (v := .int b) (fun _ _ => rfl) (fun _ _ => rfl) rfl fun c a h => ?_
  unfold chkE at h
  split at h
  · cases of_decide_eq_true h
    exact ⟨⟨_, _, _, rfl⟩, fun X => pe_int⟩
  · cases h
theorem s_str {b : Str} : SE T k cl (.str b) := by
  refine s_const (d := .str b) (v := .str b) (fun _ _ => rfl) (fun _ _ => rfl) rfl fun c a h => ?_
  unfold chkE at h
  split at h
  · cases of_decide_eq_true h
    exact ⟨⟨_, _, _, rfl⟩, fun X => pe_str⟩
  · cases h
theorem s_var {i : Nat} : SE T k cl (.var i) := by
  refine SE.mk1 (fun c X a W C h => ?_) rfl fun c a h => ?_
  · unfold chkE at h
    split at h
    · obtain ⟨h1, h2, h3⟩ := C.vis h
      refine PE.of (pe_var (i := i) h1 h2 (nameOk_1 h3) (nameOk_2 h3)) fun σ H Q ⟨pa, F, ρ, pl, d, pl', g, e1, f⟩ => ?_
      obtain ⟨e2, rfl⟩ := lift_ok e1
      obtain ⟨v, q1, q2⟩ := g.val i d (getV_some e2)
      exact ⟨v, q1, f.here g.sit q2⟩
    · cases h
  · unfold chkE at h
    split at h
    · exact ⟨fun _ _ => rfl, fun _ _ _ z => by cases z⟩
    · cases h
theorem s_pk {i : Nat} : SE T k cl (.pk i) where
  pk := fun c X a W C h => by
    unfold chkE at h
    split at h
    · obtain ⟨h1, h2, h3⟩ := C.vis h
      refine PE.of (pe_var (i := i) h1 h2 (nameOk_1 h3) (nameOk_2 h3)) fun σ H Q ⟨pa, F, ρ, pl, d, pl', g, e1, f⟩ => ?_
      obtain ⟨e2, rfl⟩ := lift_ok e1
      obtain ⟨b, q1, q2, q3, q4⟩ := g.own i d (getO_some e2)
      exact ⟨.ref b, q1, f _ F H .refl g.sit (.inr ⟨b, rfl, q2, q3, q4⟩)⟩
    · cases h
  val := fun c X a W C h z => by cases z
  new := fun c X a W C h z => by cases z
  tst := fun c X a W C h z => by cases z
  pw := fun c X op vs pos W C h => by unfold chkE at h; cases h
theorem s_glo {x : Str} {d : D} : SE T k cl (.glo x d) := by
  refine SE.mk1 (fun c X a W C h => ?_) rfl fun c a h => ?_
  · unfold chkE at h
    split at h
    · rw [Bool.and_eq_true, Bool.and_eq_true] at h
      obtain ⟨⟨h0, h1⟩, h2⟩ := h
      cases of_decide_eq_true h0
      obtain ⟨g1, g2⟩ := C.gl h1
      split at h2
      · rename_i d' hd
        cases beqD_eq _ _ h2
        obtain ⟨u, v, m1, m2, m3⟩ := W.glob _ _ hd
        refine PE.of (pe_glob (v := v) (u := u) g1 (C.mg ▸ m1) m2 (nameOk_1 g2)) fun σ H Q ⟨pa, F, ρ, pl, d2, pl', g, e1, f⟩ => ?_
        have e1' : some (Out.ok d pl) = some (Out.ok d2 pl') := e1
        cases e1'
        exact f.here g.sit (rv0 m3)
      · cases h2
    · cases h
  · unfold chkE at h
    split at h
    · exact ⟨fun _ _ => rfl, fun _ _ _ z => by cases z⟩
    · cases h
/-! ### argument lists -/
theorem star_of {a : Expr} {as : List Expr} {env : Env} (h : notStar a = true) : starEach (a :: as) env = (false, eval a env) :: starEach as env := by
  cases a <;> first | rfl | (simp [notStar] at h)
def SEs (T : Tb) (k : Nat) (cl : Call) (es : Es) : Prop := ∀ c X as, World0 T k cl c.g c.fr → CtxOk T k c X → chkEs c es as = true → PA X as (tA T cl es) ∧ (∀ env pos, (backTo pos (starEach as env)).any (·.1) = false)
theorem s_nil : SEs T k cl .nil := fun c X as W C h => by
  unfold chkEs at h
  cases List.isEmpty_iff.mp h
  refine ⟨PA.of pa_nil fun σ H Q ⟨pa, F, ρ, pl, ds, pl', g, e1, f⟩ => ?_, fun _ _ => rfl⟩
  have e1' : some (Out.ok ([] : List D) pl) = some (Out.ok ds pl') := e1
  cases e1'
  exact f [] F H .refl g.sit rfl
theorem s_cons {e : E} {es : Es} (he : SE T k cl e) (hs : SEs T k cl es) : SEs T k cl (.cons e es) := fun c X as W C h => by
  unfold chkEs at h
  split at h
  · rename_i a as
    rw [Bool.and_eq_true, Bool.and_eq_true, Bool.and_eq_true] at h
    obtain ⟨⟨⟨h1, h2⟩, h3⟩, h4⟩ := h
    obtain ⟨p1, p2⟩ := hs c X as W C h4
    refine ⟨PA.of (pa_cons (he.val c X a W C h1 (by simpa using h3)) p1 (star_of h2)) fun σ H Q ⟨pa, F, ρ, pl, ds, pl', g, e1, f⟩ => ?_, fun env pos => ?_⟩
    · obtain ⟨d, q, e2, e3⟩ := bnd_ok e1
      obtain ⟨ds', q', e4, e5⟩ := bnd_ok e3
      cases e5
      refine ⟨pa, F, ρ, pl, d, q, g, e2, fun v F1 H1 x1 s1 r1 => ⟨pa, F1, ρ, q, ds', pl', g.ext x1 s1, e4, fun vs F2 H2 x2 s2 r2 => ?_⟩⟩
      exact f (v :: vs) F2 H2 (x1.tr x2 s2) s2 (.cons (RV.mono x2.sub (.inr rfl) _ _ r1) r2)
    · rw [star_of h2]
      simp only [backTo, List.map_cons, List.any_cons]
      have := p2 env pos
      simp only [backTo] at this
      rw [this]; rfl
  · cases h
theorem evEs_len : ∀ {es : Es} {ρ : Rho} {pl : Pl} {ds : List D} {pl' : Pl} {c : Ck} {as : List Expr}, evEs cl es ρ pl = some (.ok ds pl') → chkEs c es as = true → ds.length = as.length
  | .nil, _, _, _, _, _, _, e, h => by
    unfold chkEs at h
    cases List.isEmpty_iff.mp h
    simp [evEs] at e
    rw [e.1]; rfl
  | .cons x es, _, _, _, _, _, _, e, h => by
    unfold chkEs at h
    split at h
    · rw [Bool.and_eq_true] at h
      rw [evEs] at e
      obtain ⟨d, q, e2, e3⟩ := bnd_ok e
      obtain ⟨ds', q', e4, e5⟩ := bnd_ok e3
      cases e5
      simp [evEs_len e4 h.2]
    · cases h
theorem le1000 {n : Nat} (h : n ≤ 1000) : n ≤ sizeLine := Nat.le_of_lt (small1000 h)
theorem s_tup {es : Es} (hs : SEs T k cl es) : SE T k cl (.tup es) := by
  refine SE.mk1 (fun c X a W C h => ?_) rfl fun c a h => ?_
  · unfold chkE at h
    split at h
    · rw [Bool.and_eq_true] at h
      refine PE.of (pe_tup (hs c X _ W C h.1).1) fun σ H Q ⟨pa, F, ρ, pl, d, pl', g, e1, f⟩ => ?_
      rw [evE] at e1
      obtain ⟨ds, q, e2, e3⟩ := bnd_ok e1
      cases e3
      refine ⟨pa, F, ρ, pl, ds, pl', g, e2, fun vs F1 H1 x1 s1 r1 => ⟨?_, fun p hp => (f.shift x1).laid s1 r1 hp⟩⟩
      rw [r1.len, evEs_len e2 h.1]
      exact le1000 (of_decide_eq_true h.2)
    · cases h
  · unfold chkE at h
    split at h
    · exact ⟨fun _ _ => rfl, fun _ _ _ z => by cases z⟩
    · cases h
theorem s_lst {es : Es} (hs : SEs T k cl es) : SE T k cl (.lst es) := by
  refine SE.mkN (fun c X a W C h => ?_) (fun ρ pl d pl' e => ?_) fun c a h => ?_
  · unfold chkE at h
    split at h
    · rw [Bool.and_eq_true] at h
      refine PE.of (pe_lst (hs c X _ W C h.1).1) fun σ H Q ⟨pa, F, ρ, pl, d, pl', g, e1, f⟩ => ?_
      rw [evE] at e1
      obtain ⟨ds, q, e2, e3⟩ := bnd_ok e1
      cases e3
      refine ⟨pa, F, ρ, pl, ds, pl', g, e2, fun vs F1 H1 x1 s1 r1 => ⟨?_, fun p hp => (f.shift x1 g.free).laidL s1 r1 hp⟩⟩
      rw [r1.len, evEs_len e2 h.1]
      exact le1000 (of_decide_eq_true h.2)
    · cases h
  · rw [evE] at e
    obtain ⟨ds, q, e2, e3⟩ := bnd_ok e
    cases e3
    exact ⟨_, rfl⟩
  · unfold chkE at h
    split at h
    · exact ⟨fun _ _ => rfl, fun _ _ _ z => by cases z⟩
    · cases h
/-! ### operators -/
theorem s_bin {op : Operator} {p q : E} (hp : SE T k cl p) (hq : SE T k cl q) : SE T k cl (.bin op p q) := by
  refine SE.mk1 (fun c X a W C h => ?_) rfl fun c a h => ?_
  · unfold chkE at h
    split at h
    · rw [Bool.and_eq_true, Bool.and_eq_true] at h
      obtain ⟨h0, h1, h2⟩ := h
      cases of_decide_eq_true h0
      refine PE.of (pe_op (opB C.K op) (hp.pk c X _ W C h1) (hq.pk c X _ W C h2)) fun σ H Q ⟨pa, F, ρ, pl, d, pl', g, e1, f⟩ => ?_
      rw [evE] at e1
      obtain ⟨d1, q1, e2, e3⟩ := bnd_ok e1
      obtain ⟨d2, q2, e4, e5⟩ := bnd_ok e3
      obtain ⟨e6, rfl⟩ := lift_ok e5
      exact ⟨pa, F, ρ, pl, d1, q1, g, e2, fun v F1 H1 x1 s1 r1 => ⟨pa, F1, ρ, q1, d2, pl', g.ext x1 s1, e4, fun u F2 H2 x2 s2 r2 =>
        ⟨pa, F2, pl', d1, d2, d, s2, r1.ext (pl := q1) x2, r2, e6, f.shift (x1.tr x2 s2)⟩⟩⟩
    · cases h
  · unfold chkE at h
    split at h
    · exact ⟨fun _ _ => rfl, fun _ _ _ z => by cases z⟩
    · cases h
end
end Ev

set_option Elab.async false
set_option linter.all false
set_option maxRecDepth 100000
set_option maxHeartbeats 4000000
/-! Ev7: expressions keep to the evaluator: tests, calls, built-ins, places, slices. -/
namespace Ev
open PySem PySem.Spec PyProof.Rows L2
section
variable {T : Tb} {k : Nat} {cl : Call}
theorem SE.mk2 {e : E} (hv : ∀ c X a, World0 T k cl c.g c.fr → CtxOk T k c X → chkE c e a = true → PE X a (tE T cl e)) (hn : e.isN = false)
    (ht : ∀ c X a, World0 T k cl c.g c.fr → CtxOk T k c X → chkE c e a = true → PT X a (tBo T cl e)) (hb : ∀ c op vs pos, chkE c e (.BoolOp op vs pos) = true → False) : SE T k cl e where
  pk := fun c X a W C h => PE.of (hv c X a W C h) tP_tE
  val := fun c X a W C h _ => hv c X a W C h
  new := fun c X a W C h n => by rw [hn] at n; cases n
  tst := fun c X a W C h _ => ht c X a W C h
  pw := fun c X op vs pos W C h => (hb c op vs pos h).elim
theorem evE_bl {o : Option Bool} {d : D} (h : o.map D.bl = some d) : ∃ b, o = some b ∧ d = .bl b := by
  cases o with
  | none => cases h
  | some b => cases h; exact ⟨b, rfl, rfl⟩
theorem s_cmp {op : CmpOp} {p q : E} (hp : SE T k cl p) (hq : SE T k cl q) : SE T k cl (.cmp op p q) := by
  refine SE.mk2 (fun c X a W C h => ?_) rfl (fun c X a W C h => ?_) fun c op vs pos h => by unfold chkE at h; cases h
  · unfold chkE at h
    split at h
    · rw [Bool.and_eq_true, Bool.and_eq_true, Bool.and_eq_true] at h
      obtain ⟨h0, ⟨h1, h2⟩, h3⟩ := h
      cases of_decide_eq_true h0
      refine PE.of (pe_cmpR (opC C.K C.units op) (hp.pk c X _ W C h1) (hq.pk c X _ W C h2) (by simpa using h3)) fun σ H Q ⟨pa, F, ρ, pl, d, pl', g, e1, f⟩ => ?_
      rw [evE] at e1
      obtain ⟨d1, q1, e2, e3⟩ := bnd_ok e1
      obtain ⟨d2, q2, e4, e5⟩ := bnd_ok e3
      obtain ⟨e6, rfl⟩ := lift_ok e5
      exact ⟨pa, F, ρ, pl, d1, q1, g, e2, fun v F1 H1 x1 s1 r1 => ⟨pa, F1, ρ, q1, d2, pl', g.ext x1 s1, e4, fun u F2 H2 x2 s2 r2 =>
        ⟨pa, F2, pl', d1, d2, d, s2, r1.ext (pl := q1) x2, r2, e6, f.shift (x1.tr x2 s2)⟩⟩⟩
    · cases h
  · unfold chkE at h
    split at h
    · rw [Bool.and_eq_true, Bool.and_eq_true, Bool.and_eq_true] at h
      obtain ⟨h0, ⟨h1, h2⟩, h3⟩ := h
      cases of_decide_eq_true h0
      refine PT.of (pt_cmpR (opC C.K C.units op) (hp.pk c X _ W C h1) (hq.pk c X _ W C h2) (by simpa using h3)) fun σ H Q ⟨pa, F, ρ, pl, b, pl', g, e1, f⟩ => ?_
      rw [evE] at e1
      obtain ⟨d1, q1, e2, e3⟩ := bnd_ok e1
      obtain ⟨d2, q2, e4, e5⟩ := bnd_ok e3
      obtain ⟨e6, rfl⟩ := lift_ok e5
      exact ⟨pa, F, ρ, pl, d1, q1, g, e2, fun v F1 H1 x1 s1 r1 => ⟨pa, F1, ρ, q1, d2, pl', g.ext x1 s1, e4, fun u F2 H2 x2 s2 r2 =>
        ⟨pa, F2, pl', d1, d2, .bl b, s2, r1.ext (pl := q1) x2, r2, e6, fun z F3 H3 x3 s3 r3 => ⟨b, r3, f F3 H3 ((x1.tr x2 s2).tr x3 s3) s3⟩⟩⟩⟩
    · cases h
theorem s_chain {o1 o2 : CmpOp} {p q r : E} (hp : SE T k cl p) (hq : SE T k cl q) (hr : SE T k cl r) : SE T k cl (.chain o1 o2 p q r) := by
  have key : ∀ {pa : Option Addr} {F : Hp} {ρ : Rho} {pl : Pl} {d : D} {pl' : Pl} {σ : L2.St} {H : Hp} {Q : VK} {X : Cx}, Gd T pa F ρ pl σ H → evE cl (.chain o1 o2 p q r) ρ pl = some (.ok d pl') → Fin T pa F H pl' d Q →
      tChain (rB T fun a b _ => (cmpS o1 a b).map .bl) (rB T fun a b _ => (cmpS o2 a b).map .bl) (tP T cl p) (tP T cl q) (tP T cl r) σ H Q := by
    intro pa F ρ pl d pl' σ H Q X g e1 f
    rw [evE] at e1
    obtain ⟨d1, q1, e2, e3⟩ := bnd_ok e1
    obtain ⟨d2, q2, e4, e5⟩ := bnd_ok e3
    refine ⟨pa, F, ρ, pl, d1, q1, g, e2, fun v F1 H1 x1 s1 r1 => ⟨pa, F1, ρ, q1, d2, q2, g.ext x1 s1, e4, fun u F2 H2 x2 s2 r2 => ?_⟩⟩
    cases ec : cmpS o1 d1 d2 with
    | none => rw [ec] at e5; cases e5
    | some b =>
      rw [ec] at e5
      refine ⟨pa, F2, q2, d1, d2, .bl b, s2, r1.ext (pl := q1) x2, r2, by show (cmpS o1 d1 d2).map D.bl = _; rw [ec]; rfl, fun z F3 H3 x3 s3 r3 => ⟨b, r3, ?_⟩⟩
      have x03 := (x1.tr x2 s2).tr x3 s3
      cases b with
      | false =>
        cases e5
        exact (f.shift x03).here s3 rfl
      | true =>
        simp only at e5
        obtain ⟨d3, q3, e6, e7⟩ := bnd_ok e5
        obtain ⟨e8, rfl⟩ := lift_ok e7
        exact ⟨pa, F3, ρ, q2, d3, pl', g.ext x03 s3, e6, fun y F4 H4 x4 s4 r4 => ⟨pa, F4, pl', d2, d3, d, s4, (r2.ext (pl := q1) x3).ext (pl := q1) x4, r4, e8, f.shift (x03.tr x4 s4)⟩⟩
  refine SE.mk2 (fun c X a W C h => ?_) rfl (fun c X a W C h => ?_) fun c op vs pos h => by unfold chkE at h; cases h
  · unfold chkE at h
    split at h
    · simp only [Bool.and_eq_true] at h
      obtain ⟨⟨h0, h0'⟩, ⟨⟨h1, h2⟩, h3⟩, h4⟩ := h
      cases of_decide_eq_true h0; cases of_decide_eq_true h0'
      exact PE.of (pe_chain (opC C.K C.units o1) (opC C.K C.units o2) (hp.pk c X _ W C h1) (hq.pk c X _ W C h2) (hr.pk c X _ W C h3) (by simpa using h4)) fun σ H Q ⟨pa, F, ρ, pl, d, pl', g, e1, f⟩ => key (X := X) g e1 f
    · cases h
  · unfold chkE at h
    split at h
    · simp only [Bool.and_eq_true] at h
      obtain ⟨⟨h0, h0'⟩, ⟨⟨h1, h2⟩, h3⟩, h4⟩ := h
      cases of_decide_eq_true h0; cases of_decide_eq_true h0'
      exact PT.of (pt_chain (opC C.K C.units o1) (opC C.K C.units o2) (hp.pk c X _ W C h1) (hq.pk c X _ W C h2) (hr.pk c X _ W C h3) (by simpa using h4)) fun σ H Q ⟨pa, F, ρ, pl, b, pl', g, e1, f⟩ =>
        key (X := X) (Q := fun x H' => ∃ k, x = .bl k ∧ Q k H') g e1 fun z F3 H3 x3 s3 r3 => ⟨b, r3, f F3 H3 x3 s3⟩
    · cases h
theorem intOf_some {d : D} {i : Int} (h : intOf d = some i) : d = .int i := by
  cases d <;> simp [intOf] at h
  rw [h]
theorem boolOf_some {d : D} {i : Bool} (h : boolOf d = some i) : d = .bl i := by
  cases d <;> simp [boolOf] at h
  rw [h]
theorem s_neg {p : E} (hp : SE T k cl p) : SE T k cl (.neg p) := by
  refine SE.mk1 (fun c X a W C h => ?_) rfl fun c a h => ?_
  · unfold chkE at h
    split at h
    · refine PE.of (pe_un (opNeg (T := T) C.K) (hp.pk c X _ W C h)) fun σ H Q ⟨pa, F, ρ, pl, d, pl', g, e1, f⟩ => ?_
      rw [evE] at e1
      obtain ⟨d1, q1, e2, e3⟩ := bnd_ok e1
      obtain ⟨e6, rfl⟩ := lift_ok e3
      exact ⟨pa, F, ρ, pl, d1, pl', g, e2, fun v F1 H1 x1 s1 r1 => ⟨pa, F1, pl', d1, d, s1, r1, e6, f.shift x1⟩⟩
    · cases h
  · unfold chkE at h
    split at h
    · exact ⟨fun _ _ => rfl, fun _ _ _ z => by cases z⟩
    · cases h
/-- an operand that must be True or False -/
theorem tBo_of {X : Cx} {p : E} {c : Ck} {a : Expr} (hp : SE T k cl p) (W : World0 T k cl c.g c.fr) (C : CtxOk T k c X) (h : chkE c p a = true) : PE X a (fun σ H Q => tBo T cl p σ H fun b H' => Q (.bl b) H') :=
  PE.of (hp.pk c X a W C h) fun σ H Q ⟨pa, F, ρ, pl, b, pl', g, e1, f⟩ => ⟨pa, F, ρ, pl, .bl b, pl', g, e1, fun v F' H' x s r => by cases r.bl; exact f F' H' x s⟩
theorem s_nt {p : E} (hp : SE T k cl p) : SE T k cl (.nt p) := by
  refine SE.mk2 (fun c X a W C h => ?_) rfl (fun c X a W C h => ?_) fun c op vs pos h => by unfold chkE at h; cases h
  · unfold chkE at h
    split at h
    · rw [Bool.and_eq_true] at h
      refine PE.of (pe_not (tBo_of hp W C h.1)) fun σ H Q ⟨pa, F, ρ, pl, d, pl', g, e1, f⟩ => ?_
      rw [evE] at e1
      obtain ⟨d1, q1, e2, e3⟩ := bnd_ok e1
      obtain ⟨e6, rfl⟩ := lift_ok e3
      cases eb : boolOf d1 with
      | none => rw [eb] at e6; cases e6
      | some b =>
        rw [eb] at e6; cases e6
        cases boolOf_some eb
        exact ⟨pa, F, ρ, pl, b, pl', g, e2, fun F1 H1 x1 s1 => ⟨b, rfl, (f.shift x1).here s1 rfl⟩⟩
    · cases h
  · unfold chkE at h
    split at h
    · rw [Bool.and_eq_true] at h
      refine PT.of (pt_not (hp.tst c X _ W C h.1 (by simpa using h.2))) fun σ H Q ⟨pa, F, ρ, pl, d, pl', g, e1, f⟩ => ?_
      rw [evE] at e1
      obtain ⟨d1, q1, e2, e3⟩ := bnd_ok e1
      obtain ⟨e6, rfl⟩ := lift_ok e3
      cases eb : boolOf d1 with
      | none => rw [eb] at e6; cases e6
      | some b =>
        rw [eb] at e6
        cases e6
        cases boolOf_some eb
        exact ⟨pa, F, ρ, pl, b, pl', g, e2, fun F1 H1 x1 s1 => f F1 H1 x1 s1⟩
    · cases h
/-- and, or: what the evaluator does -/
theorem an_ok {p q : E} {ρ : Rho} {pl pl' : Pl} {d : D} (e : evE cl (.an p q) ρ pl = some (.ok d pl')) : ∃ b q1, evE cl p ρ pl = some (.ok (.bl b) q1) ∧ ((b = true ∧ evE cl q ρ q1 = some (.ok d pl')) ∨ (b = false ∧ d = .bl false ∧ pl' = q1)) := by
  rw [evE] at e
  obtain ⟨d1, q1, e2, e3⟩ := bnd_ok e
  cases eb : boolOf d1 with
  | none => rw [eb] at e3; cases e3
  | some b =>
    rw [eb] at e3
    cases boolOf_some eb
    refine ⟨b, q1, e2, ?_⟩
    cases b with
    | true => exact .inl ⟨rfl, e3⟩
    | false => cases e3; exact .inr ⟨rfl, rfl, rfl⟩
theorem or_ok {p q : E} {ρ : Rho} {pl pl' : Pl} {d : D} (e : evE cl (.orr p q) ρ pl = some (.ok d pl')) : ∃ b q1, evE cl p ρ pl = some (.ok (.bl b) q1) ∧ ((b = false ∧ evE cl q ρ q1 = some (.ok d pl')) ∨ (b = true ∧ d = .bl true ∧ pl' = q1)) := by
  rw [evE] at e
  obtain ⟨d1, q1, e2, e3⟩ := bnd_ok e
  cases eb : boolOf d1 with
  | none => rw [eb] at e3; cases e3
  | some b =>
    rw [eb] at e3
    cases boolOf_some eb
    refine ⟨b, q1, e2, ?_⟩
    cases b with
    | false => exact .inl ⟨rfl, e3⟩
    | true => cases e3; exact .inr ⟨rfl, rfl, rfl⟩
theorem pw_plain {X : Cx} {op : BoolOp} {a : Expr} {pos : Pos} {t : TT} (h : PT X a t) : PW X (.BoolOp op [a] pos) t := by
  cases op with
  | And => exact pw_and1 h
  | Or => exact pw_or1 h
theorem an_val {X : Cx} {p q : E} {x : Expr} {rest : List Expr} {pos : Pos} (h1 : PE X x (fun σ H Q => tBo T cl p σ H fun b H' => Q (.bl b) H')) (h2 : PE X (.BoolOp .And rest pos) (tE T cl q)) (hr : rest ≠ []) : PE X (.BoolOp .And (x :: rest) pos) (tE T cl (.an p q)) := by
  cases rest with
  | nil => exact (hr rfl).elim
  | cons y rest =>
    refine PE.of (pe_and h1 h2) fun σ H Q ⟨pa, F, ρ, pl, d, pl', g, e1, f⟩ => ?_
    obtain ⟨b, q1, e2, e3⟩ := an_ok e1
    refine ⟨pa, F, ρ, pl, b, q1, g, e2, fun F1 H1 x1 s1 => ⟨b, rfl, ?_⟩⟩
    rcases e3 with ⟨rfl, e4⟩ | ⟨rfl, rfl, rfl⟩
    · exact ⟨pa, F1, ρ, q1, d, pl', g.ext x1 s1, e4, f.shift x1⟩
    · exact (f.shift x1).here s1 rfl
theorem or_val {X : Cx} {p q : E} {x : Expr} {rest : List Expr} {pos : Pos} (h1 : PE X x (fun σ H Q => tBo T cl p σ H fun b H' => Q (.bl b) H')) (h2 : PE X (.BoolOp .Or rest pos) (tE T cl q)) (hr : rest ≠ []) : PE X (.BoolOp .Or (x :: rest) pos) (tE T cl (.orr p q)) := by
  cases rest with
  | nil => exact (hr rfl).elim
  | cons y rest =>
    refine PE.of (pe_or h1 h2) fun σ H Q ⟨pa, F, ρ, pl, d, pl', g, e1, f⟩ => ?_
    obtain ⟨b, q1, e2, e3⟩ := or_ok e1
    refine ⟨pa, F, ρ, pl, b, q1, g, e2, fun F1 H1 x1 s1 => ⟨b, rfl, ?_⟩⟩
    rcases e3 with ⟨rfl, e4⟩ | ⟨rfl, rfl, rfl⟩
    · exact ⟨pa, F1, ρ, q1, d, pl', g.ext x1 s1, e4, f.shift x1⟩
    · exact (f.shift x1).here s1 rfl
theorem an_pw {X : Cx} {p q : E} {x : Expr} {rest : List Expr} {pos : Pos} (h1 : PT X x (tBo T cl p)) (h2 : PW X (.BoolOp .And rest pos) (tBo T cl q)) (hr : rest ≠ []) : PW X (.BoolOp .And (x :: rest) pos) (tBo T cl (.an p q)) := by
  cases rest with
  | nil => exact (hr rfl).elim
  | cons y rest =>
    refine PW.of (pw_and h1 h2) fun σ H Q ⟨pa, F, ρ, pl, d, pl', g, e1, f⟩ => ?_
    obtain ⟨b, q1, e2, e3⟩ := an_ok e1
    refine ⟨pa, F, ρ, pl, b, q1, g, e2, fun F1 H1 x1 s1 => ?_⟩
    rcases e3 with ⟨rfl, e4⟩ | ⟨rfl, e4, rfl⟩
    · exact ⟨pa, F1, ρ, q1, d, pl', g.ext x1 s1, e4, fun F2 H2 x2 s2 => f F2 H2 (x1.tr x2 s2) s2⟩
    · cases e4
      exact f F1 H1 x1 s1
theorem or_pw {X : Cx} {p q : E} {x : Expr} {rest : List Expr} {pos : Pos} (h1 : PT X x (tBo T cl p)) (h2 : PW X (.BoolOp .Or rest pos) (tBo T cl q)) (hr : rest ≠ []) : PW X (.BoolOp .Or (x :: rest) pos) (tBo T cl (.orr p q)) := by
  cases rest with
  | nil => exact (hr rfl).elim
  | cons y rest =>
    refine PW.of (pw_or h1 h2) fun σ H Q ⟨pa, F, ρ, pl, d, pl', g, e1, f⟩ => ?_
    obtain ⟨b, q1, e2, e3⟩ := or_ok e1
    refine ⟨pa, F, ρ, pl, b, q1, g, e2, fun F1 H1 x1 s1 => ?_⟩
    rcases e3 with ⟨rfl, e4⟩ | ⟨rfl, e4, rfl⟩
    · exact ⟨pa, F1, ρ, q1, d, pl', g.ext x1 s1, e4, fun F2 H2 x2 s2 => f F2 H2 (x1.tr x2 s2) s2⟩
    · cases e4
      exact f F1 H1 x1 s1
theorem chk_an {c : Ck} {p q : E} {a : Expr} (h : chkE c (.an p q) a = true) : ∃ x y rest pos, a = .BoolOp .And (x :: y :: rest) pos ∧ chkE c p x = true ∧ p.isPk = false ∧ q.isPk = false ∧ ((rest = [] ∧ chkE c q y = true) ∨ (rest ≠ [] ∧ chkE c q (.BoolOp .And (y :: rest) pos) = true)) := by
  unfold chkE at h
  split at h
  · rename_i x y rest pos
    simp only [Bool.and_eq_true] at h
    obtain ⟨⟨⟨h1, h2⟩, h3⟩, h4⟩ := h
    refine ⟨x, y, rest, pos, rfl, h1, by simpa using h3, by simpa using h4, ?_⟩
    cases rest with
    | nil => exact .inl ⟨rfl, h2⟩
    | cons z r => exact .inr ⟨by simp, h2⟩
  · cases h
theorem chk_or {c : Ck} {p q : E} {a : Expr} (h : chkE c (.orr p q) a = true) : ∃ x y rest pos, a = .BoolOp .Or (x :: y :: rest) pos ∧ chkE c p x = true ∧ p.isPk = false ∧ q.isPk = false ∧ ((rest = [] ∧ chkE c q y = true) ∨ (rest ≠ [] ∧ chkE c q (.BoolOp .Or (y :: rest) pos) = true)) := by
  unfold chkE at h
  split at h
  · rename_i x y rest pos
    simp only [Bool.and_eq_true] at h
    obtain ⟨⟨⟨h1, h2⟩, h3⟩, h4⟩ := h
    refine ⟨x, y, rest, pos, rfl, h1, by simpa using h3, by simpa using h4, ?_⟩
    cases rest with
    | nil => exact .inl ⟨rfl, h2⟩
    | cons z r => exact .inr ⟨by simp, h2⟩
  · cases h
theorem s_an {p q : E} (hp : SE T k cl p) (hq : SE T k cl q) : SE T k cl (.an p q) := by
  have hv : ∀ c X a, World0 T k cl c.g c.fr → CtxOk T k c X → chkE c (.an p q) a = true → PE X a (tE T cl (.an p q)) := fun c X a W C h => by
    obtain ⟨x, y, rest, pos, rfl, h1, kp, kq, h2⟩ := chk_an h
    refine an_val (tBo_of hp W C h1) ?_ (by simp)
    rcases h2 with ⟨rfl, h2⟩ | ⟨_, h2⟩
    · exact pe_one (hq.val c X _ W C h2 kq)
    · exact hq.val c X _ W C h2 kq
  have hw : ∀ c X op vs pos, World0 T k cl c.g c.fr → CtxOk T k c X → chkE c (.an p q) (.BoolOp op vs pos) = true → PW X (.BoolOp op vs pos) (tBo T cl (.an p q)) := fun c X op vs pos W C h => by
    obtain ⟨x, y, rest, pos', e, h1, kp, kq, h2⟩ := chk_an h
    cases e
    refine an_pw (hp.tst c X _ W C h1 kp) ?_ (by simp)
    rcases h2 with ⟨rfl, h2⟩ | ⟨_, h2⟩
    · exact pw_plain (hq.tst c X _ W C h2 kq)
    · exact hq.pw c X _ _ _ W C h2
  exact ⟨fun c X a W C h => PE.of (hv c X a W C h) tP_tE, fun c X a W C h _ => hv c X a W C h, fun c X a W C h z => (by cases z), fun c X a W C h _ => by
    obtain ⟨x, y, rest, pos, rfl, _⟩ := chk_an h
    exact (hw c X _ _ _ W C h).pt, hw⟩
theorem s_or {p q : E} (hp : SE T k cl p) (hq : SE T k cl q) : SE T k cl (.orr p q) := by
  have hv : ∀ c X a, World0 T k cl c.g c.fr → CtxOk T k c X → chkE c (.orr p q) a = true → PE X a (tE T cl (.orr p q)) := fun c X a W C h => by
    obtain ⟨x, y, rest, pos, rfl, h1, kp, kq, h2⟩ := chk_or h
    refine or_val (tBo_of hp W C h1) ?_ (by simp)
    rcases h2 with ⟨rfl, h2⟩ | ⟨_, h2⟩
    · exact pe_one (hq.val c X _ W C h2 kq)
    · exact hq.val c X _ W C h2 kq
  have hw : ∀ c X op vs pos, World0 T k cl c.g c.fr → CtxOk T k c X → chkE c (.orr p q) (.BoolOp op vs pos) = true → PW X (.BoolOp op vs pos) (tBo T cl (.orr p q)) := fun c X op vs pos W C h => by
    obtain ⟨x, y, rest, pos', e, h1, kp, kq, h2⟩ := chk_or h
    cases e
    refine or_pw (hp.tst c X _ W C h1 kp) ?_ (by simp)
    rcases h2 with ⟨rfl, h2⟩ | ⟨_, h2⟩
    · exact pw_plain (hq.tst c X _ W C h2 kq)
    · exact hq.pw c X _ _ _ W C h2
  exact ⟨fun c X a W C h => PE.of (hv c X a W C h) tP_tE, fun c X a W C h _ => hv c X a W C h, fun c X a W C h z => (by cases z), fun c X a W C h _ => by
    obtain ⟨x, y, rest, pos, rfl, _⟩ := chk_or h
    exact (hw c X _ _ _ W C h).pt, hw⟩
/-- a if t else b, as a test -/
theorem pt_ifExp {X : Cx} {t a b : Expr} {pos : Pos} {tt ta tb : TT} (ht : PT X t tt) (ha : PT X a ta) (hb : PT X b tb) : PT X (.IfExp t a b pos) (fun σ H Q => tt σ H fun c H1 => if c = true then ta σ H1 Q else tb σ H1 Q) := by
  refine ⟨fun pins s σ H Q I h => ?_⟩
  show wpAny (model X.prog X.w) X.A (isTrue t X.env (eval t X.env) >>= fun c => if c = true then isTrue a X.env (eval a X.env) else isTrue b X.env (eval b X.env)) _ _ _
  refine wpAny_bind (thn (ht.run pins s σ H _ I h) fun c s1 ⟨H1, I1, q1⟩ => ?_)
  cases c with
  | true => exact ha.run pins s1 σ H1 Q I1 q1
  | false => exact hb.run pins s1 σ H1 Q I1 q1
theorem ite_ok {t p q : E} {ρ : Rho} {pl pl' : Pl} {d : D} (e : evE cl (.ite t p q) ρ pl = some (.ok d pl')) : ∃ b q1, evE cl t ρ pl = some (.ok (.bl b) q1) ∧ evE cl (if b = true then p else q) ρ q1 = some (.ok d pl') := by
  rw [evE] at e
  obtain ⟨d1, q1, e2, e3⟩ := bnd_ok e
  cases eb : boolOf d1 with
  | none => rw [eb] at e3; cases e3
  | some b =>
    rw [eb] at e3
    cases boolOf_some eb
    refine ⟨b, q1, e2, ?_⟩
    cases b with
    | true => exact e3
    | false => exact e3
theorem s_ite {t p q : E} (ht : SE T k cl t) (hp : SE T k cl p) (hq : SE T k cl q) : SE T k cl (.ite t p q) := by
  refine SE.mk2 (fun c X a W C h => ?_) rfl (fun c X a W C h => ?_) fun c op vs pos h => by unfold chkE at h; cases h
  · unfold chkE at h
    split at h
    · simp only [Bool.and_eq_true] at h
      obtain ⟨⟨⟨⟨⟨h1, h2⟩, h3⟩, h4⟩, h5⟩, hk⟩ := h
      have hk : t.isPk = false := by simpa using hk
      refine PE.of (pe_ifExp (ht.tst c X _ W C h1 hk) (hp.val c X _ W C h2 (by simpa using h4)) (hq.val c X _ W C h3 (by simpa using h5))) fun σ H Q ⟨pa, F, ρ, pl, d, pl', g, e1, f⟩ => ?_
      obtain ⟨b, q1, e2, e3⟩ := ite_ok e1
      refine ⟨pa, F, ρ, pl, b, q1, g, e2, fun F1 H1 x1 s1 => ?_⟩
      cases b with
      | true => exact ⟨pa, F1, ρ, q1, d, pl', g.ext x1 s1, e3, f.shift x1⟩
      | false => exact ⟨pa, F1, ρ, q1, d, pl', g.ext x1 s1, e3, f.shift x1⟩
    · cases h
  · unfold chkE at h
    split at h
    · simp only [Bool.and_eq_true] at h
      obtain ⟨⟨⟨⟨⟨h1, h2⟩, h3⟩, h4⟩, h5⟩, hk⟩ := h
      have hk : t.isPk = false := by simpa using hk
      refine PT.of (pt_ifExp (ht.tst c X _ W C h1 hk) (hp.tst c X _ W C h2 (by simpa using h4)) (hq.tst c X _ W C h3 (by simpa using h5))) fun σ H Q ⟨pa, F, ρ, pl, d, pl', g, e1, f⟩ => ?_
      obtain ⟨b, q1, e2, e3⟩ := ite_ok e1
      refine ⟨pa, F, ρ, pl, b, q1, g, e2, fun F1 H1 x1 s1 => ?_⟩
      cases b with
      | true => exact ⟨pa, F1, ρ, q1, d, pl', g.ext x1 s1, e3, fun F2 H2 x2 s2 => f F2 H2 (x1.tr x2 s2) s2⟩
      | false => exact ⟨pa, F1, ρ, q1, d, pl', g.ext x1 s1, e3, fun F2 H2 x2 s2 => f F2 H2 (x1.tr x2 s2) s2⟩
    · cases h
/-! ### calls of defs -/
theorem any_tail {a : Expr} {as : List Expr} {env : Env} {pos : Pos} (h : (backTo pos (starEach (a :: as) env)).any (·.1) = false) (hs : starEach (a :: as) env = (false, eval a env) :: starEach as env) : (backTo pos (starEach as env)).any (·.1) = false := by
  rw [hs] at h
  simpa [backTo] using h
theorem chkEs_star {c : Ck} {es : Es} {a : Expr} {as : List Expr} (h : chkEs c es (a :: as) = true) : notStar a = true := by
  cases es with
  | nil => unfold chkEs at h; cases h
  | cons e es =>
    unfold chkEs at h
    simp only [Bool.and_eq_true] at h
    exact h.1.1.2
theorem s_call {x : Str} {n : Nat} {es : Es} (hs : SEs T k cl es) : SE T k cl (.call x n es) := by
  refine SE.mk1 (fun c X a W C h => ?_) rfl fun c a h => ?_
  · unfold chkE at h
    split at h
    · rename_i y p as pos
      simp only [Bool.and_eq_true] at h
      obtain ⟨⟨⟨h0, h1⟩, h2⟩, h3⟩ := h
      cases of_decide_eq_true h0
      obtain ⟨g1, g2⟩ := C.gl h1
      obtain ⟨a1, a2⟩ := hs c X as W C h2
      split at h3
      · rename_i m em
        cases of_decide_eq_true h3
        obtain ⟨u, v, m1, m2, m3⟩ := W.glob _ _ em
        cases (show v = .ref (T.fa n) from m3)
        cases (show u = .ref (T.fa n) from m2)
        refine ⟨fun pins s σ H Q I hq => ?_⟩
        obtain ⟨pa, F, ρ, pl, d, pl', g, e1, f⟩ := hq
        have e1' := e1
        rw [evE] at e1'
        obtain ⟨ds, q1, e2, e3⟩ := bnd_ok e1'
        obtain ⟨fd, ps, FK, kp, bd⟩ := (W.fns n ds q1 _ e3).ex
        rw [← C.prog, ← C.w, ← C.K, ← C.mg, ← C.base] at FK
        rw [← C.K] at kp bd
        have hmg : X.mg x = some (.ref (T.fa n)) := C.mg ▸ m1
        have wk : ∀ (vs : List V) (F1 H1 : Hp), Ext pa F H F1 H1 → Sit T pa F1 H1 q1 → RVs T pa F1 ds vs → spD T cl n (vs ++ []) H1 Q E0 := fun vs F1 H1 x1 s1 r1 => by
          rw [List.append_nil]
          exact ⟨pa, F1, q1, ds, d, pl', s1, r1, e3, f.shift x1⟩
        cases as with
        | nil =>
          refine (pe_call0 (CX := CX0) (E := E0) (dvs := []) (ds := []) FK C.room g1 hmg kp bd .nil pass0 (nameOk_1 g2)).run pins s σ H Q I ?_
          have hd : ds = [] := List.length_eq_zero_iff.mp (evEs_len e2 h2)
          subst hd
          have hes : es = .nil := by
            cases es with
            | nil => rfl
            | cons e es => unfold chkEs at h2; cases h2
          subst hes
          have e2' : some (Out.ok ([] : List D) pl) = some (Out.ok [] q1) := e2
          cases e2'
          exact wk [] F H .refl g.sit rfl
        | cons b bs =>
          have st := star_of (as := bs) (env := X.env) (chkEs_star h2)
          refine (pe_call (CX := CX0) (E := E0) (dvs := []) (ds := []) FK C.room g1 hmg kp bd .nil pass0 a1 (nameOk_1 g2) st (any_tail (a2 X.env pos) st)).run pins s σ H Q I ?_
          exact ⟨pa, F, ρ, pl, ds, q1, g, e2, wk⟩
      · cases h3
    · cases h
  · unfold chkE at h
    split at h
    · exact ⟨fun _ _ => rfl, fun _ _ _ z => by cases z⟩
    · cases h
theorem s_callv {i : Nat} {es : Es} (hs : SEs T k cl es) : SE T k cl (.callv i es) := by
  refine SE.mk1 (fun c X a W C h => ?_) rfl fun c a h => ?_
  · unfold chkE at h
    split at h
    · rename_i x p b bs pos
      simp only [Bool.and_eq_true] at h
      obtain ⟨h1, h2⟩ := h
      obtain ⟨v1, v2, v3⟩ := C.vis h1
      obtain ⟨a1, a2⟩ := hs c X _ W C h2
      refine ⟨fun pins s σ H Q I hq => ?_⟩
      obtain ⟨pa, F, ρ, pl, d, pl', g, e1, f⟩ := hq
      have e1' := e1
      rw [evE] at e1'
      split at e1'
      · rename_i n eg
        obtain ⟨ds, q1, e2, e3⟩ := bnd_ok e1'
        obtain ⟨fd, ps, FK, kp, bd⟩ := (W.fns n ds q1 _ e3).ex
        rw [← C.prog, ← C.w, ← C.K, ← C.mg, ← C.base] at FK
        rw [← C.K] at kp bd
        have st := star_of (as := bs) (env := X.env) (chkEs_star h2)
        refine (pe_callL (CX := CX0) (E := E0) (dvs := []) (ds := []) (i := i) FK C.room v1 v2 kp bd .nil pass0 a1 (nameOk_1 v3) (nameOk_2 v3) st (any_tail (a2 X.env pos) st)).run pins s σ H Q I ⟨?_, ?_⟩
        · obtain ⟨v, q2, q3⟩ := g.val i _ (getV_some eg)
          cases (show v = .ref (T.fa n) from q3)
          exact q2
        · refine ⟨pa, F, ρ, pl, ds, q1, g, e2, fun vs F1 H1 x1 s1 r1 => ?_⟩
          show spD T cl n (vs ++ []) H1 Q E0
          rw [List.append_nil]
          exact ⟨pa, F1, q1, ds, d, pl', s1, r1, e3, f.shift x1⟩
      · cases e1'
    · cases h
  · unfold chkE at h
    split at h
    · exact ⟨fun _ _ => rfl, fun _ _ _ z => by cases z⟩
    · cases h
end
end Ev

set_option Elab.async false
set_option linter.all false
set_option maxRecDepth 100000
set_option maxHeartbeats 4000000
/-! Ev8: built-ins by name, places, slices; what is walked; targets. -/
namespace Ev
open PySem PySem.Spec PyProof.Rows L2
section
variable {T : Tb} {k : Nat} {cl : Call}
theorem boot_all : bootBuiltins (biN .all) = some (.builtin "all") := by decide +kernel
theorem boot_any : bootBuiltins (biN .any) = some (.builtin "any") := by decide +kernel
theorem boot_sum : bootBuiltins (biN .sum) = some (.builtin "sum") := by decide +kernel
theorem boot_int : bootBuiltins (biN .int) = some (.type "int") := by decide +kernel
theorem boot_list : bootBuiltins (biN .list) = some (.type "list") := by decide +kernel
theorem boot_sorted' : bootBuiltins (biN .sorted) = some (.builtin "sorted") := by decide +kernel
theorem boot_min : bootBuiltins (biN .min) = some (.builtin "min") := by decide +kernel
theorem boot_max : bootBuiltins (biN .max) = some (.builtin "max") := by decide +kernel
theorem boot_abs : bootBuiltins (biN .abs) = some (.builtin "abs") := by decide +kernel
theorem boot_tup : bootBuiltins (biN .tuple) = some (.type "tuple") := by decide +kernel
theorem boot_ln : bootBuiltins (biN .len) = some (.builtin "len") := by decide +kernel
theorem boot_ty : ∀ t : Ty, bootBuiltins (tyS t) = some (.type (tyN t)) := by intro t; cases t <;> decide +kernel
theorem boot_isi : bootBuiltins "isinstance" = some (.builtin "isinstance") := by decide +kernel
/-- one argument, by value or as an own list -/
theorem pa1 {X : Cx} {p : E} {c : Ck} {y : Expr} (hp : SE T k cl p) (W : World0 T k cl c.g c.fr) (C : CtxOk T k c X) (h : chkE c p y = true) (hs : notStar y = true) : PA X [y] (tCons (tP T cl p) tNil) := pa_cons (hp.pk c X y W C h) pa_nil (star_of hs)
theorem bi_ok {f : Bi} {p : E} {ρ : Rho} {pl pl' : Pl} {d : D} (e : evE cl (.bi f p) ρ pl = some (.ok d pl')) : ∃ d1, evE cl p ρ pl = some (.ok d1 pl') ∧ biS f d1 = some d := by
  rw [evE] at e
  obtain ⟨d1, q1, e2, e3⟩ := bnd_ok e
  obtain ⟨e6, rfl⟩ := lift_ok e3
  exact ⟨d1, e2, e6⟩
theorem bi_val {X : Cx} {c : Ck} {f : Bi} {p : E} {x : Str} {pp pos : Pos} {y : Expr} {id : String} (hp : SE T k cl p) (W : World0 T k cl c.g c.fr) (C : CtxOk T k c X) (hx : x = biN f) (hf : c.free x = true) (h : chkE c p y = true) (hs : notStar y = true)
    (hc : CallR X (.builtin id) (rCl1 T (biS f))) (hb : bootBuiltins (biN f) = some (.builtin id)) : PE X (.Call (.Name x pp) [y] [] pos) (tE T cl (.bi f p)) := by
  obtain ⟨g1, g2, g3, g4⟩ := C.fr W hf
  refine PE.of (pe_callB hc g1 g2 (hx ▸ hb) (pa1 hp W C h hs) g3 g4 (star_of hs) rfl) fun σ H Q ⟨pa, F, ρ, pl, d, pl', g, e1, f⟩ => ?_
  obtain ⟨d1, e2, e3⟩ := bi_ok e1
  exact ⟨pa, F, ρ, pl, d1, pl', g, e2, fun v F1 H1 x1 s1 r1 => ⟨v, rfl, pa, F1, pl', d1, d, s1, r1, e3, f.shift x1⟩⟩
theorem bi_valT {X : Cx} {c : Ck} {f : Bi} {p : E} {x : Str} {pp pos : Pos} {y : Expr} {id : String} (hp : SE T k cl p) (W : World0 T k cl c.g c.fr) (C : CtxOk T k c X) (hx : x = biN f) (hf : c.free x = true) (h : chkE c p y = true) (hs : notStar y = true)
    (hc : CallR X (.type id) (rCl1 T (biS f))) (hb : bootBuiltins (biN f) = some (.type id)) : PE X (.Call (.Name x pp) [y] [] pos) (tE T cl (.bi f p)) := by
  obtain ⟨g1, g2, g3, g4⟩ := C.fr W hf
  refine PE.of (pe_callTy hc g1 g2 (hx ▸ hb) (pa1 hp W C h hs) g3 g4 (star_of hs) rfl) fun σ H Q ⟨pa, F, ρ, pl, d, pl', g, e1, f⟩ => ?_
  obtain ⟨d1, e2, e3⟩ := bi_ok e1
  exact ⟨pa, F, ρ, pl, d1, pl', g, e2, fun v F1 H1 x1 s1 r1 => ⟨v, rfl, pa, F1, pl', d1, d, s1, r1, e3, f.shift x1⟩⟩
theorem bi_newT {X : Cx} {c : Ck} {f : Bi} {p : E} {x : Str} {pp pos : Pos} {y : Expr} {id : String} (hp : SE T k cl p) (W : World0 T k cl c.g c.fr) (C : CtxOk T k c X) (hx : x = biN f) (hf : c.free x = true) (h : chkE c p y = true) (hs : notStar y = true)
    (hc : CallR X (.type id) (rClN T (biS f))) (hb : bootBuiltins (biN f) = some (.type id)) : PE X (.Call (.Name x pp) [y] [] pos) (tN T cl (.bi f p)) := by
  obtain ⟨g1, g2, g3, g4⟩ := C.fr W hf
  refine PE.of (pe_callTy hc g1 g2 (hx ▸ hb) (pa1 hp W C h hs) g3 g4 (star_of hs) rfl) fun σ H Q ⟨pa, F, ρ, pl, d, pl', g, e1, f⟩ => ?_
  obtain ⟨d1, e2, e3⟩ := bi_ok e1
  exact ⟨pa, F, ρ, pl, d1, pl', g, e2, fun v F1 H1 x1 s1 r1 => ⟨v, rfl, pa, F1, pl', d1, d, s1, r1, e3, f.shift x1 g.free⟩⟩
theorem bi_newB {X : Cx} {c : Ck} {f : Bi} {p : E} {x : Str} {pp pos : Pos} {y : Expr} {id : String} (hp : SE T k cl p) (W : World0 T k cl c.g c.fr) (C : CtxOk T k c X) (hx : x = biN f) (hf : c.free x = true) (h : chkE c p y = true) (hs : notStar y = true)
    (hc : CallR X (.builtin id) (rClN T (biS f))) (hb : bootBuiltins (biN f) = some (.builtin id)) : PE X (.Call (.Name x pp) [y] [] pos) (tN T cl (.bi f p)) := by
  obtain ⟨g1, g2, g3, g4⟩ := C.fr W hf
  refine PE.of (pe_callB hc g1 g2 (hx ▸ hb) (pa1 hp W C h hs) g3 g4 (star_of hs) rfl) fun σ H Q ⟨pa, F, ρ, pl, d, pl', g, e1, f⟩ => ?_
  obtain ⟨d1, e2, e3⟩ := bi_ok e1
  exact ⟨pa, F, ρ, pl, d1, pl', g, e2, fun v F1 H1 x1 s1 r1 => ⟨v, rfl, pa, F1, pl', d1, d, s1, r1, e3, f.shift x1 g.free⟩⟩
theorem chk_bi {c : Ck} {f : Bi} {p : E} {a : Expr} (h : chkE c (.bi f p) a = true) : ∃ x pp y pos, a = .Call (.Name x pp) [y] [] pos ∧ x = biN f ∧ c.free x = true ∧ chkE c p y = true ∧ notStar y = true ∧ f ≠ .dict := by
  unfold chkE at h
  split at h
  · simp only [Bool.and_eq_true] at h
    obtain ⟨⟨⟨⟨h1, h2⟩, h3⟩, h4⟩, h5⟩ := h
    exact ⟨_, _, _, _, rfl, of_decide_eq_true h1, h2, h3, h4, of_decide_eq_true h5⟩
  · cases h
theorem bi_shape (f : Bi) (p : E) (c : Ck) (a : Expr) (h : chkE c (.bi f p) a = true) : (∀ env whole, isTrue a env whole = (do let v ← whole; standAt a.pos; holding [v] (truthy v))) ∧ ∀ op vs pos, a ≠ .BoolOp op vs pos := by
  obtain ⟨x, pp, y, pos, rfl, _⟩ := chk_bi h
  exact ⟨fun _ _ => rfl, fun _ _ _ z => by cases z⟩
theorem s_bi {f : Bi} {p : E} (hp : SE T k cl p) : SE T k cl (.bi f p) := by
  have v1 : ∀ {id : String}, (E.bi f p).isN = false → (∀ (X : Cx) (c : Ck), CtxOk T k c X → CallR X (.builtin id) (rCl1 T (biS f))) → bootBuiltins (biN f) = some (.builtin id) → SE T k cl (.bi f p) := fun hn hc hb =>
    SE.mk1 (fun c X a W C h => by
      obtain ⟨x, pp, y, pos, rfl, h1, h2, h3, h4, _⟩ := chk_bi h
      exact bi_val hp W C h1 h2 h3 h4 (hc X c C) hb) hn (bi_shape f p)
  have v2 : ∀ {id : String}, (E.bi f p).isN = false → (∀ (X : Cx) (c : Ck), CtxOk T k c X → CallR X (.type id) (rCl1 T (biS f))) → bootBuiltins (biN f) = some (.type id) → SE T k cl (.bi f p) := fun hn hc hb =>
    SE.mk1 (fun c X a W C h => by
      obtain ⟨x, pp, y, pos, rfl, h1, h2, h3, h4, _⟩ := chk_bi h
      exact bi_valT hp W C h1 h2 h3 h4 (hc X c C) hb) hn (bi_shape f p)
  cases f with
  | len => exact v1 rfl (fun X c C => clLen C.K) boot_ln
  | all => exact v1 rfl (fun X c C => clAll C.K C.calm) boot_all
  | any => exact v1 rfl (fun X c C => clAny C.K C.calm) boot_any
  | sum => exact v1 rfl (fun X c C => clSum C.K C.calm) boot_sum
  | min => exact v1 rfl (fun X c C => clMin C.K C.calm) boot_min
  | max => exact v1 rfl (fun X c C => clMax C.K C.calm) boot_max
  | abs => exact v1 rfl (fun X c C => clAbs) boot_abs
  | int => exact v2 rfl (fun X c C => clInt) boot_int
  | tuple => exact v2 rfl (fun X c C => clTuple C.K) boot_tup
  | dict => exact ⟨fun c X a W C h => by
      obtain ⟨x, pp, y, pos, rfl, h1, h2, h3, h4, h5⟩ := chk_bi h
      exact (h5 rfl).elim, fun c X a W C h => by
      obtain ⟨x, pp, y, pos, rfl, h1, h2, h3, h4, h5⟩ := chk_bi h
      exact fun _ => (h5 rfl).elim, fun c X a W C h z => (by cases z), fun c X a W C h => by
      obtain ⟨x, pp, y, pos, rfl, h1, h2, h3, h4, h5⟩ := chk_bi h
      exact fun _ => (h5 rfl).elim, fun c X op vs pos W C h => by
      obtain ⟨x, pp, y, pos, e, _⟩ := chk_bi h
      cases e⟩
  | list =>
    refine SE.mkN (fun c X a W C h => ?_) (fun ρ pl d pl' e => ?_) (bi_shape _ p)
    · obtain ⟨x, pp, y, pos, rfl, h1, h2, h3, h4, _⟩ := chk_bi h
      exact bi_newT hp W C h1 h2 h3 h4 (clList C.K) boot_list
    · obtain ⟨d1, _, e3⟩ := bi_ok e
      cases d1 <;> simp only [biS] at e3 <;> cases e3 <;> exact ⟨_, rfl⟩
  | sorted =>
    refine SE.mkN (fun c X a W C h => ?_) (fun ρ pl d pl' e => ?_) (bi_shape _ p)
    · obtain ⟨x, pp, y, pos, rfl, h1, h2, h3, h4, _⟩ := chk_bi h
      exact bi_newB hp W C h1 h2 h3 h4 (clSorted C.K) boot_sorted'
    · obtain ⟨d1, _, e3⟩ := bi_ok e
      cases d1 <;> simp only [biS] at e3 <;> try cases e3
      split at e3
      · cases e3; exact ⟨_, rfl⟩
      · cases e3
theorem s_bi2 {f : Bi2} {p q : E} (hp : SE T k cl p) (hq : SE T k cl q) : SE T k cl (.bi2 f p q) := by
  refine SE.mk1 (fun c X a W C h => ?_) rfl fun c a h => ?_
  · unfold chkE at h
    split at h
    · simp only [Bool.and_eq_true] at h
      obtain ⟨⟨⟨⟨⟨h1, h2⟩, h3⟩, h4⟩, h5⟩, h6⟩ := h
      obtain ⟨g1, g2, g3, g4⟩ := C.fr W h2
      have hx := of_decide_eq_true h1
      have pa2 := pa_cons (hp.pk c X _ W C h3) (pa_cons (hq.pk c X _ W C h5) pa_nil (star_of h6)) (star_of h4)
      have wk : ∀ σ H Q, tE T cl (.bi2 f p q) σ H Q → tCB (rCl2 T fun a b _ => bi2S f a b) (tCons (tP T cl p) (tCons (tP T cl q) tNil)) σ H Q := fun σ H Q ⟨pa, F, ρ, pl, d, pl', g, e1, f⟩ => by
        rw [evE] at e1
        obtain ⟨d1, q1, e2, e3⟩ := bnd_ok e1
        obtain ⟨d2, q2, e4, e5⟩ := bnd_ok e3
        obtain ⟨e6, rfl⟩ := lift_ok e5
        exact ⟨pa, F, ρ, pl, d1, q1, g, e2, fun v F1 H1 x1 s1 r1 => ⟨pa, F1, ρ, q1, d2, pl', g.ext x1 s1, e4, fun u F2 H2 x2 s2 r2 =>
          ⟨v, u, rfl, pa, F2, pl', d1, d2, d, s2, r1.ext (pl := q1) x2, r2, e6, f.shift (x1.tr x2 s2)⟩⟩⟩
      cases f with
      | max => exact PE.of (pe_callB (clMax2 C.calm) g1 g2 (by rw [hx]; exact boot_max) pa2 g3 g4 (star_of h4) (by rw [star_of h6]; rfl)) wk
      | min => exact PE.of (pe_callB (clMin2 C.calm) g1 g2 (by rw [hx]; exact boot_min) pa2 g3 g4 (star_of h4) (by rw [star_of h6]; rfl)) wk
    · cases h
  · unfold chkE at h
    split at h
    · exact ⟨fun _ _ => rfl, fun _ _ _ z => by cases z⟩
    · cases h
theorem s_isin {p : E} {t : Ty} (hp : SE T k cl p) : SE T k cl (.isin p t) := by
  refine SE.mk1 (fun c X a W C h => ?_) rfl fun c a h => ?_
  · unfold chkE at h
    split at h
    · simp only [Bool.and_eq_true] at h
      obtain ⟨⟨⟨⟨⟨h1, h2⟩, h3⟩, h4⟩, h5⟩, h6⟩ := h
      obtain ⟨g1, g2, g3, g4⟩ := C.fr W h2
      obtain ⟨t1, t2, t3, t4⟩ := C.fr W h6
      have hx := of_decide_eq_true h1
      have hz := of_decide_eq_true h5
      subst hx hz
      have pt : ∀ zp, PE X (.Name (tyS t) zp) (L2.tC (.ty (tyN t))) := fun zp => pe_bltn t1 t2 (boot_ty t) rfl t3 t4
      refine PE.of (pe_callB (clIsi C.K t) g1 g2 boot_isi (pa_cons (hp.pk c X _ W C h3) (pa_cons (pt _) pa_nil) (star_of h4)) g3 g4 (star_of h4) rfl) fun σ H Q ⟨pa, F, ρ, pl, d, pl', g, e1, f⟩ => ?_
      rw [evE] at e1
      obtain ⟨d1, q1, e2, e3⟩ := bnd_ok e1
      obtain ⟨e6, rfl⟩ := lift_ok e3
      exact ⟨pa, F, ρ, pl, d1, pl', g, e2, fun v F1 H1 x1 s1 r1 => ⟨v, rfl, pa, F1, pl', d1, d, s1, r1, e6, f.shift x1⟩⟩
    · cases h
  · unfold chkE at h
    split at h
    · exact ⟨fun _ _ => rfl, fun _ _ _ z => by cases z⟩
    · cases h
/-! ### places, slices -/
theorem plain_of {y : Expr} (h : notSlice y = true) : PlainIx y := fun o i => by
  cases y <;> first | rfl | (simp [notSlice] at h)
theorem s_ix {p q : E} (hp : SE T k cl p) (hq : SE T k cl q) : SE T k cl (.ix p q) := by
  refine SE.mk1 (fun c X a W C h => ?_) rfl fun c a h => ?_
  · unfold chkE at h
    split at h
    · simp only [Bool.and_eq_true] at h
      obtain ⟨⟨h1, h2⟩, h3⟩ := h
      refine PE.of (pe_ix (ixE (T := T) C.K C.units) (hp.pk c X _ W C h1) (hq.pk c X _ W C h2) (plain_of h3)) fun σ H Q ⟨pa, F, ρ, pl, d, pl', g, e1, f⟩ => ?_
      rw [evE] at e1
      obtain ⟨d1, q1, e2, e3⟩ := bnd_ok e1
      obtain ⟨d2, q2, e4, e5⟩ := bnd_ok e3
      obtain ⟨e6, rfl⟩ := lift_ok e5
      exact ⟨pa, F, ρ, pl, d1, q1, g, e2, fun v F1 H1 x1 s1 r1 => ⟨pa, F1, ρ, q1, d2, pl', g.ext x1 s1, e4, fun u F2 H2 x2 s2 r2 =>
        ⟨pa, F2, pl', d1, d2, d, s2, r1.ext (pl := q1) x2, r2, e6, f.shift (x1.tr x2 s2)⟩⟩⟩
    · cases h
  · unfold chkE at h
    split at h
    · exact ⟨fun _ _ => rfl, fun _ _ _ z => by cases z⟩
    · cases h
def SO (T : Tb) (k : Nat) (cl : Call) (e : Eo) : Prop := ∀ c X a, World0 T k cl c.g c.fr → CtxOk T k c X → chkO c e a = true → PO X a (tO T cl e)
theorem PO.of {X : Cx} {e : Option Expr} {t t' : TO} (h : PO X e t) (w : ∀ σ H Q, t' σ H Q → t σ H Q) : PO X e t' := ⟨fun pins s σ H Q I q => h.run pins s σ H Q I (w σ H Q q)⟩
theorem so_none : SO T k cl .none := fun c X a W C h => by
  unfold chkO at h
  cases a with
  | none =>
    refine PO.of po_none fun σ H Q ⟨pa, F, ρ, pl, o, pl', g, e1, f⟩ => ?_
    have e1' : some (Out.ok (none : Option Int) pl) = some (Out.ok o pl') := e1
    cases e1'
    exact f F H .refl g.sit
  | some a => cases h
theorem so_some {e : E} (he : SE T k cl e) : SO T k cl (.some e) := fun c X a W C h => by
  unfold chkO at h
  split at h
  · refine PO.of (po_some (he.pk c X _ W C h)) fun σ H Q ⟨pa, F, ρ, pl, o, pl', g, e1, f⟩ => ?_
    rw [evO] at e1
    obtain ⟨d1, q1, e2, e3⟩ := bnd_ok e1
    cases ei : intOf d1 with
    | none => rw [ei] at e3; cases e3
    | some i =>
      rw [ei] at e3
      cases intOf_some ei
      cases e3
      exact ⟨pa, F, ρ, pl, .int i, pl', g, e2, fun v F1 H1 x1 s1 r1 => ⟨i, r1.int, f F1 H1 x1 s1⟩⟩
  · cases h
theorem s_slc {p : E} {lo hi : Eo} (hp : SE T k cl p) (hl : SO T k cl lo) (hh : SO T k cl hi) : SE T k cl (.slc p lo hi) := by
  refine SE.mk1 (fun c X a W C h => ?_) rfl fun c a h => ?_
  · unfold chkE at h
    split at h
    · simp only [Bool.and_eq_true] at h
      obtain ⟨⟨h1, h2⟩, h3⟩ := h
      refine PE.of (pe_slice (slE (T := T) C.K) (hp.pk c X _ W C h1) (hl c X _ W C h2) (hh c X _ W C h3)) fun σ H Q ⟨pa, F, ρ, pl, d, pl', g, e1, f⟩ => ?_
      rw [evE] at e1
      obtain ⟨d1, q1, e2, e3⟩ := bnd_ok e1
      obtain ⟨o2, q2, e4, e5⟩ := bnd_ok e3
      obtain ⟨o3, q3, e6, e7⟩ := bnd_ok e5
      obtain ⟨e8, rfl⟩ := lift_ok e7
      exact ⟨pa, F, ρ, pl, d1, q1, g, e2, fun v F1 H1 x1 s1 r1 => ⟨pa, F1, ρ, q1, o2, q2, g.ext x1 s1, e4, fun F2 H2 x2 s2 =>
        ⟨pa, F2, ρ, q2, o3, pl', (g.ext x1 s1).ext x2 s2, e6, fun F3 H3 x3 s3 => ⟨pa, F3, pl', d1, d, s3, (r1.ext (pl := q1) x2).ext (pl := q1) x3, e8, f.shift ((x1.tr x2 s2).tr x3 s3)⟩⟩⟩⟩
    · cases h
  · unfold chkE at h
    split at h
    · exact ⟨fun _ _ => rfl, fun _ _ _ z => by cases z⟩
    · cases h
/-! ### reversed copies -/
theorem s_rev {p : E} (hp : SE T k cl p) : SE T k cl (.rev p) where
  pk := fun c X a W C h => by unfold chkE at h; cases h
  val := fun c X a W C h => by unfold chkE at h; cases h
  new := fun c X a W C h => by unfold chkE at h; cases h
  tst := fun c X a W C h => by unfold chkE at h; cases h
  pw := fun c X op vs pos W C h => by unfold chkE at h; cases h
end
end Ev

set_option Elab.async false
set_option linter.all false
set_option maxRecDepth 100000
set_option maxHeartbeats 4000000
/-! Ev9: targets, what is walked, comprehensions. -/
namespace Ev
open PySem PySem.Spec PyProof.Rows L2
section
variable {T : Tb} {k : Nat} {cl : Call}
/-! ### slots stored -/
theorem Gd.set {pa : Option Addr} {F H : Hp} {ρ : Rho} {pl : Pl} {σ : L2.St} {d : D} {v : V} (g : Gd T pa F ρ pl σ H) (r : RV T pa F d v) (i : Nat) : Gd T pa F (ρ.set i (some (.val d))) pl (σ.set i (some v)) H where
  sit := g.sit
  len := by rw [List.length_set, List.length_set]; exact g.len
  val := fun j d' h => by
    rw [List.getElem?_set] at h ⊢
    have hl := g.len
    by_cases e : i = j
    · rw [if_pos e] at h ⊢
      split at h
      · cases h
        rw [if_pos (by omega)]
        exact ⟨v, rfl, r⟩
      · cases h
    · rw [if_neg e] at h ⊢
      exact g.val j d' h
  own := fun j d' h => by
    rw [List.getElem?_set] at h ⊢
    by_cases e : i = j
    · rw [if_pos e] at h
      split at h <;> cases h
    · rw [if_neg e] at h ⊢
      exact g.own j d' h
  apart := fun a b d1 d2 x h1 h2 h3 h4 => by
    rw [List.getElem?_set] at h1 h2 h3 h4
    by_cases e : i = a
    · rw [if_pos e] at h1
      split at h1 <;> cases h1
    · by_cases e' : i = b
      · rw [if_pos e'] at h2
        split at h2 <;> cases h2
      · rw [if_neg e] at h1 h3
        rw [if_neg e'] at h2 h4
        exact g.apart a b d1 d2 x h1 h2 h3 h4
theorem Gd.gone {pa : Option Addr} {F H : Hp} {ρ : Rho} {pl : Pl} {σ : L2.St} (g : Gd T pa F ρ pl σ H) (i : Nat) : Gd T pa F (ρ.set i none) pl (σ.set i none) H where
  sit := g.sit
  len := by rw [List.length_set, List.length_set]; exact g.len
  val := fun j d' h => by
    rw [List.getElem?_set] at h ⊢
    by_cases e : i = j
    · rw [if_pos e] at h
      split at h <;> cases h
    · rw [if_neg e] at h ⊢
      exact g.val j d' h
  own := fun j d' h => by
    rw [List.getElem?_set] at h ⊢
    by_cases e : i = j
    · rw [if_pos e] at h
      split at h <;> cases h
    · rw [if_neg e] at h ⊢
      exact g.own j d' h
  apart := fun a b d1 d2 x h1 h2 h3 h4 => by
    rw [List.getElem?_set] at h1 h2 h3 h4
    by_cases e : i = a
    · rw [if_pos e] at h1
      split at h1 <;> cases h1
    · by_cases e' : i = b
      · rw [if_pos e'] at h2
        split at h2 <;> cases h2
      · rw [if_neg e] at h1 h3
        rw [if_neg e'] at h2 h4
        exact g.apart a b d1 d2 x h1 h2 h3 h4
theorem Gd.wipe {pa : Option Addr} {F H : Hp} {ρ : Rho} {pl : Pl} {σ : L2.St} (g : Gd T pa F ρ pl σ H) : ∀ vs : List Nat, Gd T pa F (wipeR ρ vs) pl (L2.wipe σ vs) H
  | [] => g
  | v :: vs => (g.wipe vs).gone v
/-! ### targets -/
def gT (T : Tb) (tg : Tg) : TG := fun v σ H Q => ∃ pa F ρ pl d ρ', Gd T pa F ρ pl σ H ∧ RV T pa F d v ∧ setTg tg d ρ = some ρ' ∧ ∀ σ', Gd T pa F ρ' pl σ' H → σ'.length = σ.length → (∀ j, j ∉ tg.slots → σ'[j]? = σ[j]?) → Q σ' H
def gA (T : Tb) (is : List Nat) : TGs := fun vs σ H Q => ∃ pa F ρ pl ds ρ', Gd T pa F ρ pl σ H ∧ RVs T pa F ds vs ∧ setAll is ds ρ = some ρ' ∧ ∀ σ', Gd T pa F ρ' pl σ' H → σ'.length = σ.length → (∀ j, j ∉ is → σ'[j]? = σ[j]?) → Q σ' H
theorem PG.of {X : Cx} {e : Expr} {t t' : TG} (h : PG X e t) (w : ∀ v σ H Q, t' v σ H Q → t v σ H Q) : PG X e t' := ⟨fun pins s σ H v u Q I r q => h.run pins s σ H v u Q I r (w v σ H Q q)⟩
theorem PGs.of {X : Cx} {e : List Expr} {t t' : TGs} (h : PGs X e t) (w : ∀ v σ H Q, t' v σ H Q → t v σ H Q) : PGs X e t' := ⟨fun pins s σ H v u Q I r q => h.run pins s σ H v u Q I r (w v σ H Q q)⟩
theorem pgs_names {c : Ck} {X : Cx} (C : CtxOk T k c X) : ∀ (is : List Nat) (es : List Expr), chkNames c is es = true → PGs X es (gA T is) ∧ (assignEach es X.env).length = es.length ∧ (assignEach es X.env).findIdx? (·.1) = none
  | [], [], _ => by
    refine ⟨PGs.of pgs_nil fun vs σ H Q ⟨pa, F, ρ, pl, ds, ρ', g, r, e, q⟩ => ?_, rfl, rfl⟩
    cases ds with
    | nil =>
      cases (show vs = [] from r)
      cases (show some ρ = some ρ' from e)
      exact ⟨rfl, q σ g rfl fun _ _ => rfl⟩
    | cons d ds => cases e
  | i :: is, a :: es, h => by
    unfold chkNames at h
    split at h
    · rename_i e1 e2
      cases e1
    · rename_i i' is' x p es' e1 e2
      cases e1; cases e2
      rw [Bool.and_eq_true] at h
      obtain ⟨l1, l2, l3⟩ := C.loc h.1
      obtain ⟨p1, p2, p3⟩ := pgs_names C is es h.2
      have hN : X.N.Nodup := C.N ▸ C.nd
      refine ⟨PGs.of (pgs_cons (pg_name (i := i) hN l1 l2 l3) p1) fun vs σ H Q ⟨pa, F, ρ, pl, ds, ρ', g, r, e, q⟩ => ?_, ?_, ?_⟩
      · cases ds with
        | nil => cases e
        | cons d ds =>
          obtain ⟨v, us, rfl, r1, r2⟩ := r
          refine ⟨v, us, rfl, pa, F, _, pl, ds, ρ', g.set r1 i, r2, e, fun σ' g' hl hj => q σ' g' ?_ fun j nj => ?_⟩
          · rw [hl, List.length_set]
          · rw [hj j fun z => nj (List.mem_cons_of_mem _ z), List.getElem?_set_ne (fun z => nj (by rw [z]; exact List.mem_cons_self))]
      · show (assignEach es X.env).length + 1 = es.length + 1
        rw [p2]
      · show List.findIdx? (·.1) ((false, assign (.Name x p) X.env) :: assignEach es X.env) = none
        rw [List.findIdx?_cons]
        simp [p3]
    · cases h
  | [], a :: es, h => by simp [chkNames] at h
  | i :: is, [], h => by simp [chkNames] at h
theorem s_tg {c : Ck} {X : Cx} {tg : Tg} {a : Expr} (C : CtxOk T k c X) (h : chkTg c tg a = true) : PG X a (gT T tg) := by
  unfold chkTg at h
  split at h
  · rename_i i x p
    obtain ⟨l1, l2, l3⟩ := C.loc h
    refine PG.of (pg_name (i := i) (C.N ▸ C.nd) l1 l2 l3) fun v σ H Q ⟨pa, F, ρ, pl, d, ρ', g, r, e, q⟩ => ?_
    cases e
    refine q _ (g.set r i) (by rw [List.length_set]) fun j nj => ?_
    rw [List.getElem?_set_ne (fun z => nj (by rw [z]; exact List.mem_cons_self))]
  · rename_i is es kk p
    obtain ⟨p1, p2, p3⟩ := pgs_names C is es h
    refine PG.of (pg_tup (n := es.length) C.calm p1 p2 p3) fun v σ H Q ⟨pa, F, ρ, pl, d, ρ', g, r, e, q⟩ => ?_
    cases d <;> try cases e
    rename_i ds
    obtain ⟨b, us, rfl, t, r2⟩ := r
    refine ⟨b, us, rfl, C.K ▸ (t.mono g.sit.sub).seq, ?_, pa, F, ρ, pl, ds, ρ', g, r2, e, q⟩
    rw [r2.len]
    have : ∀ (is : List Nat) (ds : List D) (ρ ρ' : Rho) (es : List Expr), setAll is ds ρ = some ρ' → chkNames c is es = true → ds.length = es.length := by
      intro is
      induction is with
      | nil =>
        intro ds ρ ρ' es e h
        cases ds with
        | nil => cases es with
          | nil => rfl
          | cons a es => simp [chkNames] at h
        | cons d ds => cases e
      | cons i is ih =>
        intro ds ρ ρ' es e h
        cases ds with
        | nil => cases e
        | cons d ds =>
          cases es with
          | nil => simp [chkNames] at h
          | cons a es =>
            have h' : chkNames c is es = true := by
              unfold chkNames at h
              split at h
              · rename_i e1 e2; cases e1
              · rename_i e1 e2
                cases e1; cases e2
                rw [Bool.and_eq_true] at h
                exact h.2
              · cases h
            simp [ih ds _ ρ' es e h']
    exact this is ds ρ ρ' es e h
  · cases h
/-! ### what is walked -/
structure ItS (T : Tb) (pa : Option Addr) (C : Hp → Hp → Prop) (J : L2.It) (xs : List D) : Prop where
  stop : ∀ F H, C F H → J.stop xs.length H
  go : ∀ i F H, i < xs.length → C F H → J.go i H
  yld : ∀ i F H x H' pl, i < xs.length → C F H → Sit T pa F H pl → J.yld i H x H' → ∃ F' d, xs[i]? = some d ∧ Ext pa F H F' H' ∧ Sit T pa F' H' pl ∧ RV T pa F' d x
def tI (T : Tb) (cl : Call) (it : It) : TI := fun σ H R => ∃ pa F ρ pl xs pl', Gd T pa F ρ pl σ H ∧ evIt cl it ρ pl = some (.ok xs pl') ∧ ∀ J F1 H1, Ext pa F H F1 H1 → Sit T pa F1 H1 pl' → ItS T pa (fun F' H' => Ext pa F1 H1 F' H') J xs → xs.length ≤ sizeLine → R J H1
def tIF (T : Tb) (cl : Call) (it : It) : TI := fun σ H R => ∃ pa F ρ pl xs pl', Gd T pa F ρ pl σ H ∧ evIt cl it ρ pl = some (.ok xs pl') ∧ ∀ J F1 H1, Ext pa F H F1 H1 → Sit T pa F1 H1 pl' → ItS T pa (fun F' H' => Sub F1 F' ∧ Sub F' H') J xs → R J H1
theorem PI.of {X : Cx} {tg e : Expr} {t t' : TI} (h : PI X tg e t) (w : ∀ σ H Q, t' σ H Q → t σ H Q) : PI X tg e t' := ⟨fun pins s σ H Q I q => h.run pins s σ H Q I (w σ H Q q)⟩
theorem PI.or {X : Cx} {tg e : Expr} {t t' : TI} (h : PI X tg e t) (h' : PI X tg e t') : PI X tg e (fun σ H R => t σ H R ∨ t' σ H R) := ⟨fun pins s σ H Q I q => q.elim (fun q => h.run pins s σ H Q I q) fun q => h'.run pins s σ H Q I q⟩
/-- lists and tuples that stand are not too long -/
def Lens (K : PySem.W.Frag) (H : Hp) : Prop := ∀ a xs, SqL K H a xs ∨ SqT K H a xs → xs.length ≤ sizeLine
theorem PI.len {X : Cx} {tg e : Expr} {t : TI} (h : PI X tg e t) : PI X tg e (fun σ H R => t σ H fun J H1 => Lens X.K H1 → R J H1) := by
  refine ⟨fun pins s σ H R I q => thn (h.run pins s σ H _ I q) fun v s1 h1 => thn h1 fun u s2 ⟨it, fp, tn, J, H', e1, I2, tu, t0, fo, r⟩ => ?_⟩
  refine ⟨it, fp, tn, J, H', e1, I2, tu, t0, fo, r fun a xs z => ?_⟩
  rcases z with z | z
  · obtain ⟨_, _, _, q⟩ := I2.list z; exact q
  · obtain ⟨_, _, _, q⟩ := I2.tuple z; exact q
def SI (T : Tb) (k : Nat) (cl : Call) (it : It) : Prop := ∀ c X a tg, World0 T k cl c.g c.fr → CtxOk T k c X → chkIt c it a tg = true → PI X tg a (tI T cl it) ∧ (it.frozen = true → PI X tg a (tIF T cl it))
theorem its_list {K : PySem.W.Frag} (hK : K = T.K) {pa : Option Addr} {C : Hp → Hp → Prop} {a : Addr} {vs : List V} {xs : List D} (hc : ∀ F H, C F H → SqL K H a vs ∧ RVs T pa F xs vs) (hu : ∀ F H, C F H → ∀ us, SqL K H a us → us = vs ∨ True) : ItS T pa C (Itl K a) xs where
  stop := fun F H h => ⟨vs, (hc F H h).1, by rw [(hc F H h).2.len]; exact Nat.le_refl _⟩
  go := fun i F H hi h => by
    obtain ⟨h1, h2⟩ := hc F H h
    obtain ⟨v, e, _⟩ := h2.get (List.getElem?_eq_getElem hi)
    exact ⟨vs, v, h1, e⟩
  yld := fun i F H x H' pl hi h s y => by
    obtain ⟨h1, h2⟩ := hc F H h
    obtain ⟨rfl, q⟩ := y
    obtain ⟨v, e, r⟩ := h2.get (List.getElem?_eq_getElem hi)
    have := q vs h1
    rw [e] at this; cases this
    exact ⟨F, _, List.getElem?_eq_getElem hi, .refl, s, r⟩
theorem its_tup {K : PySem.W.Frag} {pa : Option Addr} {C : Hp → Hp → Prop} {a : Addr} {vs : List V} {xs : List D} (hc : ∀ F H, C F H → SqT K H a vs ∧ RVs T pa F xs vs) : ItS T pa C (Itt K a) xs where
  stop := fun F H h => ⟨vs, (hc F H h).1, by rw [(hc F H h).2.len]; exact Nat.le_refl _⟩
  go := fun i F H hi h => by
    obtain ⟨h1, h2⟩ := hc F H h
    obtain ⟨v, e, _⟩ := h2.get (List.getElem?_eq_getElem hi)
    exact ⟨vs, v, h1, e⟩
  yld := fun i F H x H' pl hi h s y => by
    obtain ⟨h1, h2⟩ := hc F H h
    obtain ⟨rfl, q⟩ := y
    obtain ⟨v, e, r⟩ := h2.get (List.getElem?_eq_getElem hi)
    have := q vs h1
    rw [e] at this; cases this
    exact ⟨F, _, List.getElem?_eq_getElem hi, .refl, s, r⟩
theorem rng_len (a : Int) (n : Nat) : (rng a n).length = n := by simp [rng]
theorem rngC_len (a c : Int) (n : Nat) : (rngC a c n).length = n := by simp [rngC]
theorem rng_at {a : Int} {n i : Nat} (h : i < n) : (rng a n)[i]? = some (.int (a + i)) := by simp [rng, h]
theorem rngC_at {a c : Int} {n i : Nat} (h : i < n) : (rngC a c n)[i]? = some (.int (a + (i : Nat) * c)) := by simp [rngC, h]
theorem its_rng {pa : Option Addr} {C : Hp → Hp → Prop} {a : Int} {n : Nat} : ItS T pa C (Itr a n) (rng a n) where
  stop := fun F H h => by rw [rng_len]; exact Nat.le_refl _
  go := fun i F H hi h => by rw [rng_len] at hi; exact hi
  yld := fun i F H x H' pl hi h s y => by
    rw [rng_len] at hi
    obtain ⟨rfl, rfl⟩ := y
    exact ⟨F, _, rng_at hi, .refl, s, rfl⟩
theorem its_rngC {pa : Option Addr} {C : Hp → Hp → Prop} {a c : Int} {n : Nat} : ItS T pa C (Itc a c n) (rngC a c n) where
  stop := fun F H h => by rw [rngC_len]; exact Nat.le_refl _
  go := fun i F H hi h => by rw [rngC_len] at hi; exact hi
  yld := fun i F H x H' pl hi h s y => by
    rw [rngC_len] at hi
    obtain ⟨rfl, rfl⟩ := y
    exact ⟨F, _, rngC_at hi, .refl, s, rfl⟩
theorem tq_keep {pa : Option Addr} {F1 H1 F' H' : Hp} {b : Addr} {vs : List V} {pl : Pl} (s1 : Sit T pa F1 H1 pl) (t1 : TQ T.K F1 b vs) (x : Ext pa F1 H1 F' H') : SqT T.K H' b vs := by
  rcases t1 with t1 | t1
  · refine .inl (.inl (x.keep _ _ (s1.sub _ _ t1) fun ep => ?_))
    rw [s1.out _ ep] at t1; cases t1
  · exact .inr t1
theorem si_seq {e : E} (he : SE T k cl e) : SI T k cl (.seq e) := fun c X a tg W C h => by
  have h' : chkE c e a = true := by unfold chkIt at h; exact h
  refine ⟨PI.of (PI.len (PI.or (pi_list (he.pk c X a W C h')) (pi_tup (he.pk c X a W C h')))) fun σ H R ⟨pa, F, ρ, pl, xs, pl', g, e1, q⟩ => ?_, fun hf => PI.of (PI.or (pi_list (he.val c X a W C h' (by cases e <;> first | rfl | (simp [It.frozen, E.notPk] at hf)))) (pi_tup (he.val c X a W C h' (by cases e <;> first | rfl | (simp [It.frozen, E.notPk] at hf))))) fun σ H R ⟨pa, F, ρ, pl, xs, pl', g, e1, q⟩ => ?_⟩
  · rw [evIt] at e1
    obtain ⟨d1, q1, e2, e3⟩ := bnd_ok e1
    obtain ⟨e4, rfl⟩ := lift_ok e3
    cases d1 with
    | lst l =>
      cases e4
      refine .inl ⟨pa, F, ρ, pl, .lst xs, pl', g, e2, fun v F1 H1 x1 s1 r1 => ?_⟩
      obtain ⟨b, vs, rfl, h1, h2⟩ := r1.lst s1
      have nb : pa ≠ some b := by
        intro ep
        obtain ⟨us, u1, _⟩ := s1.pool b ep
        rcases r1 with r1 | ⟨b', eb, _, n, _⟩
        · obtain ⟨b', vs', eb, h3, _⟩ := r1
          cases eb
          rw [s1.out _ ep] at h3; cases h3
        · cases eb; exact n ep
      refine ⟨b, rfl, ⟨vs, SqL.of h1⟩, fun ln => q _ F1 H1 x1 s1 (its_list C.K (fun F' H' x => ⟨SqL.of (x.keep _ _ h1 nb), RVs.mono x.sub (.inr rfl) _ _ h2⟩) fun _ _ _ _ _ => .inr trivial) ?_⟩
      rw [← h2.len]; exact ln b vs (.inl (SqL.of h1))
    | tup l =>
      cases e4
      refine .inr ⟨pa, F, ρ, pl, .tup xs, pl', g, e2, fun v F1 H1 x1 s1 r1 => ?_⟩
      obtain ⟨b, vs, rfl, h1, t1, h2⟩ := r1.tup s1
      refine ⟨b, rfl, ⟨vs, C.K ▸ h1⟩, fun ln => q _ F1 H1 x1 s1 (its_tup (fun F' H' x => ⟨C.K ▸ tq_keep s1 t1 x, RVs.mono x.sub (.inr rfl) _ _ h2⟩)) ?_⟩
      rw [← h2.len]; exact ln b vs (.inr (C.K ▸ h1))
    | scr l =>
      cases e4
      refine .inl ⟨pa, F, ρ, pl, .scr l, pl', g, e2, fun v F1 H1 x1 s1 r1 => ?_⟩
      have r0 : RV T pa F1 (.scr l) v := by
        rcases r1 with r1 | ⟨_, _, _, _, r1⟩
        · exact r1
        · exact r1.elim
      obtain ⟨b, rfl, h1⟩ := r0
      have h2 := sqlMono h1 s1.sub
      have kp : ∀ F' H', Ext pa F1 H1 F' H' → SqL T.K H' b (l.map V.int) := fun F' H' x => by
        rcases h1 with (h1 | ⟨o, h1⟩) | h1
        · exact .inl (.inl (x.keep _ _ (s1.sub _ _ h1) fun ep => by rw [s1.out _ ep] at h1; cases h1))
        · exact .inl (.inr ⟨o, x.keep _ _ (s1.sub _ _ h1) fun ep => by rw [s1.out _ ep] at h1; cases h1⟩)
        · exact .inr h1
      refine ⟨b, rfl, ⟨_, C.K ▸ h2⟩, fun ln => q _ F1 H1 x1 s1 (its_list C.K (fun F' H' x => ⟨C.K ▸ kp F' H' x, RVs.scr⟩) fun _ _ _ _ _ => .inr trivial) ?_⟩
      have := ln b _ (.inl (C.K ▸ h2))
      rw [List.length_map] at this ⊢; exact this
    | _ => cases e4
  · rw [evIt] at e1
    obtain ⟨d1, q1, e2, e3⟩ := bnd_ok e1
    obtain ⟨e4, rfl⟩ := lift_ok e3
    cases d1 with
    | lst l =>
      cases e4
      refine .inl ⟨pa, F, ρ, pl, .lst xs, pl', g, e2, fun v F1 H1 x1 s1 r1 => ?_⟩
      obtain ⟨b, vs, rfl, h1, h2⟩ := r1
      exact ⟨b, rfl, ⟨vs, SqL.of (s1.sub _ _ h1)⟩, q _ F1 H1 x1 s1 (its_list C.K (fun F' H' x => ⟨SqL.of (x.2 _ _ (x.1 _ _ h1)), RVs.mono x.1 (.inr rfl) _ _ h2⟩) fun _ _ _ _ _ => .inr trivial)⟩
    | tup l =>
      cases e4
      refine .inr ⟨pa, F, ρ, pl, .tup xs, pl', g, e2, fun v F1 H1 x1 s1 r1 => ?_⟩
      obtain ⟨b, vs, rfl, t1, h2⟩ := r1
      exact ⟨b, rfl, ⟨vs, C.K ▸ (t1.mono s1.sub).seq⟩, q _ F1 H1 x1 s1 (its_tup (fun F' H' x => ⟨C.K ▸ ((t1.mono x.1).mono x.2).seq, RVs.mono x.1 (.inr rfl) _ _ h2⟩))⟩
    | scr l =>
      cases e4
      refine .inl ⟨pa, F, ρ, pl, .scr l, pl', g, e2, fun v F1 H1 x1 s1 r1 => ?_⟩
      obtain ⟨b, rfl, h1⟩ := r1
      exact ⟨b, rfl, ⟨_, C.K ▸ sqlMono h1 s1.sub⟩, q _ F1 H1 x1 s1 (its_list C.K (fun F' H' x => ⟨C.K ▸ sqlMono (sqlMono h1 x.1) x.2, RVs.scr⟩) fun _ _ _ _ _ => .inr trivial)⟩
    | _ => cases e4
theorem small_ok {a : Int} (h : small a = true) : -(2 ^ 62) ≤ a ∧ a < 2 ^ 62 := of_decide_eq_true h
theorem si_r1 {p : E} (hp : SE T k cl p) : SI T k cl (.r1 p) := fun c X a tg W C h => by
  unfold chkIt at h
  split at h
  · rename_i x xp y pos
    simp only [Bool.and_eq_true] at h
    obtain ⟨⟨⟨⟨h1, h2⟩, h3⟩, h4⟩, h5⟩ := h
    cases of_decide_eq_true h1
    obtain ⟨g1, g2, g3, g4⟩ := C.fr W h2
    have key : ∀ {pa : Option Addr} {F : Hp} {ρ : Rho} {pl pl' : Pl} {xs : List D} {σ : L2.St} {H : Hp} {R : L2.It → Hp → Prop}, Gd T pa F ρ pl σ H → evIt cl (.r1 p) ρ pl = some (.ok xs pl') →
        (∀ J F1 H1, Ext pa F H F1 H1 → Sit T pa F1 H1 pl' → (∀ C', ItS T pa C' J xs) → xs.length ≤ sizeLine → R J H1) → iRng1 (tCons (tE T cl p) tNil) σ H R := by
      intro pa F ρ pl pl' xs σ H R g e1 q
      rw [evIt] at e1
      obtain ⟨d1, q1, e2, e3⟩ := bnd_ok e1
      cases ei : intOf d1 with
      | none => rw [ei] at e3; cases e3
      | some n =>
        rw [ei] at e3
        cases intOf_some ei
        simp only at e3
        split at e3
        · rename_i hs
          cases e3
          refine ⟨pa, F, ρ, pl, .int n, pl', g, e2, fun v F1 H1 x1 s1 r1 => ⟨n, by rw [show v = _ from r1], (small_ok hs.1).1, (small_ok hs.1).2, q _ F1 H1 x1 s1 (fun C' => its_rng) ?_⟩⟩
          rw [rng_len, ← lim_eq]; exact hs.2
        · cases e3
    have pp := pi_range1 (tg := tg) (pos := pos) (p := xp) g1 g2 (pa_cons (hp.val c X _ W C h3 (by simpa using h5)) pa_nil (star_of h4)) (by rw [star_of h4]; rfl)
    exact ⟨PI.of pp fun σ H R ⟨pa, F, ρ, pl, xs, pl', g, e1, q⟩ => key g e1 fun J F1 H1 x1 s1 i l => q J F1 H1 x1 s1 (i _) l, fun _ => PI.of pp fun σ H R ⟨pa, F, ρ, pl, xs, pl', g, e1, q⟩ => key g e1 fun J F1 H1 x1 s1 i l => q J F1 H1 x1 s1 (i _)⟩
  · cases h
theorem si_r2 {p r : E} (hp : SE T k cl p) (hr : SE T k cl r) : SI T k cl (.r2 p r) := fun c X a tg W C h => by
  unfold chkIt at h
  split at h
  · rename_i x xp y z pos
    simp only [Bool.and_eq_true] at h
    obtain ⟨⟨⟨⟨⟨⟨⟨h1, h2⟩, h3⟩, h4⟩, h5⟩, h6⟩, h7⟩, h8⟩ := h
    cases of_decide_eq_true h1
    obtain ⟨g1, g2, g3, g4⟩ := C.fr W h2
    have key : ∀ {pa : Option Addr} {F : Hp} {ρ : Rho} {pl pl' : Pl} {xs : List D} {σ : L2.St} {H : Hp} {R : L2.It → Hp → Prop}, Gd T pa F ρ pl σ H → evIt cl (.r2 p r) ρ pl = some (.ok xs pl') →
        (∀ J F1 H1, Ext pa F H F1 H1 → Sit T pa F1 H1 pl' → (∀ C', ItS T pa C' J xs) → xs.length ≤ sizeLine → R J H1) → iRng2 (tCons (tE T cl p) (tCons (tE T cl r) tNil)) σ H R := by
      intro pa F ρ pl pl' xs σ H R g e1 q
      rw [evIt] at e1
      obtain ⟨d1, q1, e2, e3⟩ := bnd_ok e1
      obtain ⟨d2, q2, e4, e5⟩ := bnd_ok e3
      split at e5
      · rename_i i j ei ej
        cases intOf_some ei; cases intOf_some ej
        split at e5
        · rename_i hs
          cases e5
          refine ⟨pa, F, ρ, pl, .int i, q1, g, e2, fun v F1 H1 x1 s1 r1 => ⟨pa, F1, ρ, q1, .int j, pl', g.ext x1 s1, e4, fun u F2 H2 x2 s2 r2 => ⟨i, j, by rw [show v = _ from r1, show u = _ from r2], ⟨(small_ok hs.1).1, (small_ok hs.1).2, (small_ok hs.2.1).1, (small_ok hs.2.1).2⟩, q _ F2 H2 (x1.tr x2 s2) s2 (fun C' => its_rng) ?_⟩⟩⟩
          rw [rng_len, ← lim_eq]; exact hs.2.2
        · cases e5
      · cases e5
    have pp := pi_range2 (tg := tg) (pos := pos) (p := xp) g1 g2 (pa_cons (hp.val c X _ W C h3 (by simpa using h7)) (pa_cons (hr.val c X _ W C h5 (by simpa using h8)) pa_nil (star_of h6)) (star_of h4)) (by rw [star_of h4, star_of h6]; rfl) (by rw [star_of h6]; rfl)
    exact ⟨PI.of pp fun σ H R ⟨pa, F, ρ, pl, xs, pl', g, e1, q⟩ => key g e1 fun J F1 H1 x1 s1 i l => q J F1 H1 x1 s1 (i _) l, fun _ => PI.of pp fun σ H R ⟨pa, F, ρ, pl, xs, pl', g, e1, q⟩ => key g e1 fun J F1 H1 x1 s1 i l => q J F1 H1 x1 s1 (i _)⟩
  · cases h
theorem si_r3 {p r : E} {z : Int} (hp : SE T k cl p) (hr : SE T k cl r) : SI T k cl (.r3 p r z) := fun c X a tg W C h => by
  unfold chkIt at h
  split at h
  · rename_i x xp y w s pos
    simp only [Bool.and_eq_true] at h
    obtain ⟨⟨⟨⟨⟨⟨⟨⟨h1, h2⟩, h3⟩, h4⟩, h5⟩, h6⟩, h7⟩, h8⟩, h9⟩ := h
    cases of_decide_eq_true h1
    obtain ⟨g1, g2, g3, g4⟩ := C.fr W h2
    have ps : PE X s (L2.tC (.int z)) ∧ notStar s = true := by
      split at h9
      · cases of_decide_eq_true h9
        exact ⟨pe_int, rfl⟩
      · cases of_decide_eq_true h9
        exact ⟨PE.of (pe_un un_neg pe_int) fun σ H Q q => ⟨_, rfl, q⟩, rfl⟩
      · cases h9
    have key : ∀ {pa : Option Addr} {F : Hp} {ρ : Rho} {pl pl' : Pl} {xs : List D} {σ : L2.St} {H : Hp} {R : L2.It → Hp → Prop}, Gd T pa F ρ pl σ H → evIt cl (.r3 p r z) ρ pl = some (.ok xs pl') →
        (∀ J F1 H1, Ext pa F H F1 H1 → Sit T pa F1 H1 pl' → (∀ C', ItS T pa C' J xs) → xs.length ≤ sizeLine → R J H1) → iRng3 (tCons (tE T cl p) (tCons (tE T cl r) (tCons (L2.tC (.int z)) tNil))) σ H R := by
      intro pa F ρ pl pl' xs σ H R g e1 q
      rw [evIt] at e1
      obtain ⟨d1, q1, e2, e3⟩ := bnd_ok e1
      obtain ⟨d2, q2, e4, e5⟩ := bnd_ok e3
      split at e5
      · rename_i i j ei ej
        cases intOf_some ei; cases intOf_some ej
        split at e5
        · rename_i hs
          cases e5
          refine ⟨pa, F, ρ, pl, .int i, q1, g, e2, fun v F1 H1 x1 s1 r1 => ⟨pa, F1, ρ, q1, .int j, pl', g.ext x1 s1, e4, fun u F2 H2 x2 s2 r2 => ⟨i, j, z, (Builtin.Range.rangeSize i j z).toNat, by rw [show v = _ from r1, show u = _ from r2], ⟨hs.1, hs.2.1, hs.2.2.1, by have := hs.2.2.2.1; omega⟩, q _ F2 H2 (x1.tr x2 s2) s2 (fun C' => its_rngC) ?_⟩⟩⟩
          rw [rngC_len, ← lim_eq]; exact hs.2.2.2.2
        · cases e5
      · cases e5
    have pp := pi_range3 (tg := tg) (pos := pos) (p := xp) g1 g2 (pa_cons (hp.val c X _ W C h3 (by simpa using h7)) (pa_cons (hr.val c X _ W C h5 (by simpa using h8)) (pa_cons ps.1 pa_nil (star_of ps.2)) (star_of h6)) (star_of h4)) (star_of h4) (by rw [star_of h6, star_of ps.2]; rfl)
    exact ⟨PI.of pp fun σ H R ⟨pa, F, ρ, pl, xs, pl', g, e1, q⟩ => key g e1 fun J F1 H1 x1 s1 i l => q J F1 H1 x1 s1 (i _) l, fun _ => PI.of pp fun σ H R ⟨pa, F, ρ, pl, xs, pl', g, e1, q⟩ => key g e1 fun J F1 H1 x1 s1 i l => q J F1 H1 x1 s1 (i _)⟩
  · cases h
theorem zipD_at : ∀ {as bs : List D} {i : Nat}, i < (zipD as bs).length → ∃ a b, as[i]? = some a ∧ bs[i]? = some b ∧ (zipD as bs)[i]? = some (.tup [a, b])
  | [], _, i, h => by simp [zipD] at h
  | _ :: _, [], i, h => by simp [zipD] at h
  | a :: as, b :: bs, 0, h => ⟨a, b, rfl, rfl, rfl⟩
  | a :: as, b :: bs, i + 1, h => by
    obtain ⟨x, y, h1, h2, h3⟩ := zipD_at (as := as) (bs := bs) (i := i) (by simpa [zipD] using h)
    exact ⟨x, y, by simpa using h1, by simpa using h2, by simpa [zipD] using h3⟩
theorem zipD_len : ∀ (as bs : List D), (zipD as bs).length = min as.length bs.length
  | [], _ => by simp [zipD]
  | _ :: _, [] => by simp [zipD]
  | a :: as, b :: bs => by simp [zipD, zipD_len as bs]
theorem its_zip {K : PySem.W.Frag} {pa : Option Addr} {C : Hp → Hp → Prop} {a b : Addr} {vs us : List V} {xs ys : List D} (hc : ∀ F H, C F H → SqT K H a vs ∧ RVs T pa F xs vs ∧ SqT K H b us ∧ RVs T pa F ys us) : ItS T pa C (RZ.ItzT K a b) (zipD xs ys) where
  stop := fun F H h => by
    obtain ⟨h1, h2, h3, h4⟩ := hc F H h
    refine ⟨vs, us, h1, h3, ?_⟩
    rw [h2.len, h4.len, zipD_len]; omega
  go := fun i F H hi h => by
    obtain ⟨h1, h2, h3, h4⟩ := hc F H h
    obtain ⟨x, y, e1, e2, _⟩ := zipD_at hi
    obtain ⟨v, q1, _⟩ := h2.get e1
    obtain ⟨u, q2, _⟩ := h4.get e2
    exact ⟨vs, us, v, u, h1, h3, q1, q2⟩
  yld := fun i F H x H' pl hi h s y => by
    obtain ⟨h1, h2, h3, h4⟩ := hc F H h
    obtain ⟨d, e, e1, e2, e3⟩ := zipD_at hi
    obtain ⟨t, v, u, rfl, ht, rfl, f1, f2⟩ := y
    obtain ⟨v', q1, r1⟩ := h2.get e1
    obtain ⟨u', q2, r2⟩ := h4.get e2
    have z1 := f1 vs h1
    have z2 := f2 us h3
    rw [q1] at z1; cases z1
    rw [q2] at z2; cases z2
    have ex := Ext.new (o := .tup [v, u]) s ht
    exact ⟨_, _, e3, ex, Sit.new s ht, t, [v, u], rfl, .inl upd_same, .cons (RV.mono ex.sub (.inr rfl) _ _ r1) (.cons (RV.mono ex.sub (.inr rfl) _ _ r2) .nil)⟩
theorem si_zip {p r : E} (hp : SE T k cl p) (hr : SE T k cl r) : SI T k cl (.zip p r) := fun c X a tg W C h => by
  unfold chkIt at h
  split at h
  · rename_i x xp y w pos
    simp only [Bool.and_eq_true] at h
    obtain ⟨⟨⟨⟨⟨⟨h1, h2⟩, h3⟩, h4⟩, h5⟩, h6⟩, h7⟩ := h
    cases of_decide_eq_true h1
    obtain ⟨g1, g2, g3, g4⟩ := C.fr W h2
    cases tg <;> simp [isTup] at h7
    have key : ∀ {pa : Option Addr} {F : Hp} {ρ : Rho} {pl pl' : Pl} {xs : List D} {σ : L2.St} {H : Hp} {R : L2.It → Hp → Prop}, Gd T pa F ρ pl σ H → evIt cl (.zip p r) ρ pl = some (.ok xs pl') →
        (∀ J F1 H1, Ext pa F H F1 H1 → Sit T pa F1 H1 pl' → ItS T pa (fun F' H' => Ext pa F1 H1 F' H') J xs → ItS T pa (fun F' H' => Sub F1 F' ∧ Sub F' H') J xs → (Lens T.K H1 → xs.length ≤ sizeLine) → R J H1) → RZ.iZipA X.K (tCons (tP T cl p) (tCons (tP T cl r) tNil)) σ H R := by
      intro pa F ρ pl pl' xs σ H R g e1 q
      rw [evIt] at e1
      obtain ⟨d1, q1, e2, e3⟩ := bnd_ok e1
      obtain ⟨d2, q2, e4, e5⟩ := bnd_ok e3
      split at e5
      · rename_i l m
        cases e5
        refine ⟨pa, F, ρ, pl, _, q1, g, e2, fun v F1 H1 x1 s1 r1 => ⟨pa, F1, ρ, q1, _, pl', g.ext x1 s1, e4, fun u F2 H2 x2 s2 r2 => ?_⟩⟩
        have r1' := r1.ext (pl := q1) x2
        obtain ⟨b, vs, rfl, k1, t1, k2⟩ := r1'.tup s2
        obtain ⟨b', us, rfl, k3, t3, k4⟩ := r2.tup s2
        refine ⟨b, b', vs, us, rfl, .inr ⟨C.K ▸ k1, C.K ▸ k3, q _ F2 H2 (x1.tr x2 s2) s2 ?_ ?_ ?_⟩⟩
        · exact its_zip fun F' H' x => ⟨C.K ▸ tq_keep s2 t1 x, RVs.mono x.sub (.inr rfl) _ _ k2, C.K ▸ tq_keep s2 t3 x, RVs.mono x.sub (.inr rfl) _ _ k4⟩
        · exact its_zip fun F' H' x => ⟨C.K ▸ ((t1.mono x.1).mono x.2).seq, RVs.mono x.1 (.inr rfl) _ _ k2, C.K ▸ ((t3.mono x.1).mono x.2).seq, RVs.mono x.1 (.inr rfl) _ _ k4⟩
        · intro ln
          rw [zipD_len, ← k2.len]
          have := ln b vs (.inr k1)
          omega
      · cases e5
    have pp := RZ.pi_zipA (pos := pos) (p := xp) (elts := by assumption) (kk := by assumption) (tpos := by assumption) g1 g2 (pa_cons (hp.pk c X _ W C h3) (pa_cons (hr.pk c X _ W C h5) pa_nil (star_of h6)) (star_of h4)) (star_of h4) (by rw [star_of h6]; rfl)
    exact ⟨PI.of (PI.len pp) fun σ H R ⟨pa, F, ρ, pl, xs, pl', g, e1, q⟩ => key g e1 fun J F1 H1 x1 s1 i _ l ln => q J F1 H1 x1 s1 i (l (C.K ▸ ln)), fun _ => PI.of pp fun σ H R ⟨pa, F, ρ, pl, xs, pl', g, e1, q⟩ => key g e1 fun J F1 H1 x1 s1 _ i l => q J F1 H1 x1 s1 i⟩
  · cases h
theorem si_enum {p : E} : SI T k cl (.enum p) := fun c X a tg W C h => by unfold chkIt at h; cases h
end
end Ev

set_option Elab.async false
set_option linter.all false
set_option maxRecDepth 100000
set_option maxHeartbeats 4000000
/-! Ev10: comprehensions; all expressions. -/
namespace Ev
open PySem PySem.Spec PyProof.Rows L2
section
variable {T : Tb} {k : Nat} {cl : Call}
theorem relabel_free {env : Env} {x : Str} : ∀ {names : List (Str × NameKind)}, names.lookup x = some .free →
    ∃ kd', (names.map fun (n, k) => if (k == NameKind.free && env.scope.kind == .function && env.kindOf n == some .cell) then (n, NameKind.cell) else (n, k)).lookup x = some kd' ∧ (kd' = .free ∨ kd' = .cell)
  | [], h => by simp at h
  | (n, kd) :: r, h => by
    rw [List.map_cons]
    dsimp only
    by_cases e : x = n
    · subst e
      simp only [List.lookup_cons_self, Option.some.injEq] at h
      subst h
      by_cases q : (NameKind.free == NameKind.free && env.scope.kind == .function && env.kindOf x == some .cell) = true
      · rw [if_pos q]; exact ⟨.cell, by simp, .inr rfl⟩
      · rw [if_neg q]; exact ⟨.free, by simp, .inl rfl⟩
    · have e' : (x == n) = false := by simpa using e
      rw [List.lookup_cons, e'] at h
      obtain ⟨kd', h1, h2⟩ := relabel_free (env := env) h
      refine ⟨kd', ?_, h2⟩
      split <;> (rw [List.lookup_cons, e']; exact h1)
theorem relabel_keep {env : Env} {x : Str} {kd : NameKind} (hk : kd ≠ .free) : ∀ {names : List (Str × NameKind)}, names.lookup x = some kd →
    (names.map fun (n, k) => if (k == NameKind.free && env.scope.kind == .function && env.kindOf n == some .cell) then (n, NameKind.cell) else (n, k)).lookup x = some kd
  | [], h => by simp at h
  | (n, kd0) :: r, h => by
    rw [List.map_cons]
    dsimp only
    by_cases e : x = n
    · subst e
      simp only [List.lookup_cons_self, Option.some.injEq] at h
      subst h
      have q : ¬ (kd0 == NameKind.free && env.scope.kind == .function && env.kindOf x == some .cell) = true := by
        intro z
        rw [Bool.and_eq_true, Bool.and_eq_true] at z
        have := z.1.1
        cases kd0 <;> first | (exact hk rfl) | cases this
      rw [if_neg q]; simp
    · have e' : (x == n) = false := by simpa using e
      rw [List.lookup_cons, e'] at h
      have h1 := relabel_keep (env := env) hk h
      split <;> (rw [List.lookup_cons, e']; exact h1)
theorem CtxOk.blk {c : Ck} {X : Cx} (C : CtxOk T k c X) {scope : Scope} (hk : scope.kind = .function) (s : Shared) (H : Hp) (A : Addr) (cs : List (Str × Addr)) (fp : List Addr) : CtxOk T k { c with sc := scope } (X.blk s H scope (compEnvC scope cs A X.env) fp) where
  prog := C.prog
  w := C.w
  K := C.K
  mg := C.mg
  base := C.base
  N := C.N
  nd := C.nd
  calm := C.calm
  room := C.room
  kind := hk
  sc := fun x kd h => by
    by_cases e : kd = .free
    · subst e
      obtain ⟨kd', h1, h2⟩ := relabel_free (env := X.env) h
      refine ⟨kd', h1, ?_⟩
      rcases h2 with rfl | rfl
      · exact .inl rfl
      · exact .inr ⟨rfl, rfl⟩
    · exact ⟨kd, relabel_keep e h, .inl rfl⟩
  fn := fun x h => by
    show (scope.names.lookup x == some .cell) = true
    rw [show scope.names.lookup x = some .cell from h]
    rfl
theorem CtxOk.blkOk {c : Ck} {X : Cx} (C : CtxOk T k c X) {scope : Scope} {own : List (Str × Nat)} (h : blkC c.N c.sc scope own = true) : BlkOk X.N X.env.scope scope own := by
  have b := blkOk_by h
  refine ⟨b.kind, b.uniq, C.N ▸ b.ix, fun y hy e => ?_, C.N ▸ b.own⟩
  rcases b.free y hy e with q | q
  · obtain ⟨kd, h1, h2⟩ := C.sc _ _ q
    rcases h2 with rfl | ⟨h2, _⟩
    · exact .inl h1
    · cases h2
  · obtain ⟨kd, h1, h2⟩ := C.sc _ _ q
    rcases h2 with rfl | ⟨_, rfl⟩
    · exact .inr h1
    · exact .inl h1
def SC (T : Tb) (k : Nat) (cl : Call) (e : Eo) : Prop := ∀ c X as, World0 T k cl c.g c.fr → CtxOk T k c X → chkCs c e as = true → PTs X as (tCo T cl e)
theorem PTs.of {X : Cx} {e : List Expr} {t t' : TT} (h : PTs X e t) (w : ∀ σ H Q, t' σ H Q → t σ H Q) : PTs X e t' := ⟨fun pins s σ H Q I q => h.run pins s σ H Q I (w σ H Q q)⟩
theorem sc_none : SC T k cl .none := fun c X as W C h => by
  unfold chkCs at h
  cases List.isEmpty_iff.mp h
  refine PTs.of pts_nil fun σ H Q ⟨pa, F, ρ, pl, b, pl', g, e1, q⟩ => ?_
  have e1' : some (Out.ok true pl) = some (Out.ok b pl') := e1
  cases e1'
  exact q F H .refl g.sit
theorem sc_some {e : E} (he : SE T k cl e) : SC T k cl (.some e) := fun c X as W C h => by
  unfold chkCs at h
  split at h
  · rw [Bool.and_eq_true] at h
    refine PTs.of (pts_one (he.tst c X _ W C h.1 (by simpa using h.2))) fun σ H Q ⟨pa, F, ρ, pl, b, pl', g, e1, q⟩ => ?_
    rw [evC] at e1
    obtain ⟨d1, q1, e2, e3⟩ := bnd_ok e1
    obtain ⟨e4, rfl⟩ := lift_ok e3
    cases boolOf_some e4
    exact ⟨pa, F, ρ, pl, b, pl', g, e2, q⟩
  · cases h
/-! ### the loop of a comprehension -/
theorem compL_cons {f : D → Pl → R (List D)} {x : D} {r : List D} {pl pl' : Pl} {ys : List D} (h : compL f (x :: r) pl = some (.ok ys pl')) : ∃ y1 p1 zs, f x pl = some (.ok y1 p1) ∧ compL f r p1 = some (.ok zs pl') ∧ ys = y1 ++ zs := by
  rw [compL] at h
  split at h
  · rename_i y1 p1 e1
    split at h
    · rename_i zs p2 e2
      cases h
      exact ⟨y1, p1, zs, e1, e2, rfl⟩
    · cases h
  · cases h
/-- the state ahead of an item: what is made so far stands at D -/
structure Cst (T : Tb) (pa : Option Addr) (F1 H1 : Hp) (D' : Addr) (pl : Pl) (acc : List D) (F H : Hp) : Prop where
  ex : Ext pa F1 H1 F H
  sit : Sit T pa F H pl
  out : F D' = none
  vals : ∃ vs, H D' = some (.lst vs) ∧ RVs T pa F acc vs
theorem Cst.ext {pa : Option Addr} {F1 H1 : Hp} {D' : Addr} {pl pl' : Pl} {acc : List D} {F H F' H' : Hp} (z : Cst T pa F1 H1 D' pl acc F H) (hp : pa ≠ some D') (x : Ext pa F H F' H') (s : Sit T pa F' H' pl') : Cst T pa F1 H1 D' pl' acc F' H' := by
  obtain ⟨vs, h1, h2⟩ := z.vals
  exact ⟨z.ex.tr x s, s, own_out x h1 z.out, vs, x.keep _ _ h1 hp, RVs.mono x.sub (.inr rfl) _ _ h2⟩
/-- one more -/
theorem Cst.push {pa : Option Addr} {F1 H1 : Hp} {D' : Addr} {pl : Pl} {acc : List D} {F H : Hp} {d : D} {v : V} (z : Cst T pa F1 H1 D' pl acc F H) (hp : pa ≠ some D') (hn : H1 D' = none) (r : RV T pa F d v) : ∃ vs, H D' = some (.lst vs) ∧ RVs T pa F acc vs ∧ Cst T pa F1 H1 D' pl (acc ++ [d]) F (upd H D' (.lst (vs ++ [v]))) := by
  obtain ⟨vs, h1, h2⟩ := z.vals
  refine ⟨vs, h1, h2, ⟨fun a o h n => ?_, z.ex.sub, z.ex.fresh⟩, ⟨fun a o h => ?_, z.sit.out, fun a e => ?_⟩, z.out, _, upd_same, h2.append (.cons r .nil)⟩
  · rw [upd_ne (ne_of_none h hn)]; exact z.ex.keep a o h n
  · rw [upd_ne (fun e => by subst e; rw [z.out] at h; cases h)]; exact z.sit.sub a o h
  · obtain ⟨us, u1, u2⟩ := z.sit.pool a e
    exact ⟨us, by rw [upd_ne (fun q => by subst q; exact hp e)]; exact u1, u2⟩
theorem wipe_at (σ : L2.St) : ∀ (vs : List Nat) (j : Nat), (L2.wipe σ vs)[j]? = if j ∈ vs then (if j < σ.length then some none else none) else σ[j]?
  | [], j => by simp [L2.wipe]
  | v :: vs, j => by
    rw [L2.wipe, List.getElem?_set, L2.wipe_length, wipe_at σ vs j]
    by_cases e : v = j
    · subst e; simp
    · have e' : j ≠ v := fun z => e z.symm
      simp [e, e']
theorem wipe_eq {σ σ' : L2.St} {vs : List Nat} (hl : σ'.length = σ.length) (hj : ∀ j, j ∉ vs → σ'[j]? = σ[j]?) : L2.wipe σ' vs = L2.wipe σ vs := by
  apply List.ext_getElem?
  intro j
  rw [wipe_at, wipe_at, hl]
  by_cases e : j ∈ vs
  · rw [if_pos e, if_pos e]
  · rw [if_neg e, if_neg e, hj j e]
theorem wipe_wipe (σ : L2.St) (vs : List Nat) : L2.wipe (L2.wipe σ vs) vs = L2.wipe σ vs := by
  apply List.ext_getElem?
  intro j
  rw [wipe_at, wipe_at, L2.wipe_length]
  by_cases e : j ∈ vs
  · rw [if_pos e, if_pos e]
  · rw [if_neg e, if_neg e]
theorem slots_in {tg : Tg} {vs : List Nat} (h : tg.slots.all (vs.contains ·) = true) : ∀ j, j ∉ vs → j ∉ tg.slots := fun j nj hj => by
  have := List.all_eq_true.mp h j hj
  simp at this
  exact nj this
/-- the turns: W says how far the evaluator's own loop has come -/
theorem lc_go {pa : Option Addr} {F1 H1 F4 H4 : Hp} {C : Hp → Hp → Prop} {J : L2.It} {D' : Addr} {f : D → Pl → R (List D)} {xs ys acc0 : List D} {pl1 pl' : Pl} {Q : Hp → Prop} {step : V → Hp → (Hp → Prop) → Prop}
    (hp : pa ≠ some D') (z0 : Cst T pa F1 H1 D' pl1 acc0 F4 H4) (it : ItS T pa C J xs) (hC : ∀ p acc F H, Cst T pa F1 H1 D' p acc F H → Sub F4 F → C F H) (he : compL f xs pl1 = some (.ok ys pl'))
    (hstep : ∀ x y1 p p1 acc F H v (N : Hp → Prop), f x p = some (.ok y1 p1) → Cst T pa F1 H1 D' p acc F H → Sub F4 F → RV T pa F x v → acc.length + y1.length ≤ acc0.length + ys.length → (∀ F' H', Cst T pa F1 H1 D' p1 (acc ++ y1) F' H' → Sub F F' → N H') → step v H N)
    (hend : ∀ F H, Cst T pa F1 H1 D' pl' (acc0 ++ ys) F H → Sub F4 F → Q H) :
    ∃ W : Nat → Nat → Hp → Prop, (∃ m, W 0 m H4) ∧ ∀ i m H, W i m H → (J.stop i H ∧ Q H) ∨ (J.go i H ∧ ∃ Nx : Hp → Prop, (∀ H', Nx H' → ∃ m', m' < m ∧ W (i + 1) m' H') ∧ ∀ x H', J.yld i H x H' → step x H' Nx) := by
  let W : Nat → Nat → Hp → Prop := fun i m H => i + m = xs.length ∧ ∃ F p acc rest, Cst T pa F1 H1 D' p acc F H ∧ Sub F4 F ∧ compL f (xs.drop i) p = some (.ok rest pl') ∧ acc0 ++ ys = acc ++ rest
  refine ⟨W, ⟨xs.length, by simp, F4, pl1, acc0, ys, z0, fun _ _ h => h, he, rfl⟩, fun i m H hW => ?_⟩
  obtain ⟨hi, F, p, acc, rest, z, sb, ec, ey⟩ := hW
  cases m with
  | zero =>
    have e0 : i = xs.length := by omega
    subst e0
    rw [List.drop_length] at ec
    cases ec
    rw [List.append_nil] at ey
    subst ey
    exact .inl ⟨it.stop F H (hC _ _ F H z sb), hend F H z sb⟩
  | succ m =>
    have hlt : i < xs.length := by omega
    rw [List.drop_eq_getElem_cons hlt] at ec
    obtain ⟨y1, p1, zs, g1, g2, rfl⟩ := compL_cons ec
    refine .inr ⟨it.go i F H hlt (hC _ _ F H z sb), fun H' => ∃ F', Cst T pa F1 H1 D' p1 (acc ++ y1) F' H' ∧ Sub F4 F', fun H' ⟨F', z', sb'⟩ => ⟨m, Nat.lt_succ_self _, by omega, F', p1, acc ++ y1, zs, z', sb', g2, by rw [ey, List.append_assoc]⟩, fun x H' hy => ?_⟩
    obtain ⟨F', d, e1, x', s', r'⟩ := it.yld i F H x H' p hlt (hC _ _ F H z sb) z.sit hy
    rw [List.getElem?_eq_getElem hlt] at e1
    cases e1
    have hl : (acc0 ++ ys).length = (acc ++ (y1 ++ zs)).length := by rw [ey]
    simp only [List.length_append] at hl
    exact hstep _ y1 p p1 acc F' H' x _ g1 (z.ext hp x' s') (fun a o h => x'.sub a o (sb a o h)) r' (by omega) fun F2 H2 z2 sb2 => ⟨F2, z2, fun a o h => sb2 a o (x'.sub a o (sb a o h))⟩
theorem cst_start {pa : Option Addr} {F1 H1 : Hp} {D' : Addr} {pl : Pl} (s1 : Sit T pa F1 H1 pl) (hD : H1 D' = none) : pa ≠ some D' ∧ Cst T pa F1 H1 D' pl [] F1 (upd H1 D' (.lst [])) := by
  refine ⟨fun e => ?_, Ext.newH s1 hD, Sit.newH s1 hD, ?_, [], upd_same, rfl⟩
  · obtain ⟨vs, q, _⟩ := s1.pool D' e
    rw [hD] at q; cases q
  · cases q : F1 D' with
    | none => rfl
    | some u => rw [s1.sub _ _ q] at hD; cases hD
/-- one item of a plain comprehension -/
theorem lc_item {pa : Option Addr} {F1 H1 : Hp} {D' : Addr} {vs : List Nat} {tg : Tg} {t : Eo} {e : E} {ρ : Rho} {σ : L2.St} {x : D} {y1 : List D} {p p1 : Pl} {acc : List D} {F H : Hp} {v : V} {N : Hp → Prop}
    (g2 : Gd T pa F (wipeR ρ vs) p (L2.wipe σ vs) H) (hp : pa ≠ some D') (hD : H1 D' = none) (hvs : tg.slots.all (vs.contains ·) = true)
    (hf : (match setTg tg x (wipeR ρ vs) with
      | none => none
      | some ρ2 => bnd (evC cl t ρ2 p) fun b pl => match b with
        | true => bnd (evE cl e ρ2 pl) fun y pl => some (.ok [y] pl)
        | false => some (.ok [] pl)) = some (.ok y1 p1))
    (z : Cst T pa F1 H1 D' p acc F H) (r : RV T pa F x v) (hl : acc.length + y1.length ≤ sizeLine) (hN : ∀ F' H', Cst T pa F1 H1 D' p1 (acc ++ y1) F' H' → Sub F F' → N H') :
    gT T tg v (L2.wipe σ vs) H fun σ2 H2 => L2.wipe σ2 vs = L2.wipe σ vs ∧ tCo T cl t σ2 H2 fun b H3 => if b = true then tE T cl e σ2 H3 fun y H4 => ∃ acc, H4 D' = some (.lst acc) ∧ acc.length < sizeLine ∧ N (upd H4 D' (.lst (acc ++ [y]))) else N H3 := by
  cases es : setTg tg x (wipeR ρ vs) with
  | none => rw [es] at hf; cases hf
  | some ρ2 =>
    rw [es] at hf
    obtain ⟨b, q1, e2, e3⟩ := bnd_ok hf
    refine ⟨pa, F, _, p, x, ρ2, g2, r, es, fun σ2 g3 hl2 hj => ⟨?_, pa, F, ρ2, p, b, q1, g3, e2, fun F3 H3 x3 s3 => ?_⟩⟩
    · rw [wipe_eq hl2 fun j nj => hj j (slots_in hvs j nj), wipe_wipe]
    · have z3 := z.ext hp x3 s3
      cases b with
      | false =>
        cases e3
        rw [List.append_nil] at hN
        exact hN F3 H3 z3 x3.sub
      | true =>
        obtain ⟨y, q2, e4, e5⟩ := bnd_ok e3
        cases e5
        refine ⟨pa, F3, ρ2, q1, y, p1, g3.ext x3 s3, e4, fun u F4 H4 x4 s4 r4 => ?_⟩
        obtain ⟨us, u1, u2, u3⟩ := (z3.ext hp x4 s4).push hp hD r4
        refine ⟨us, u1, ?_, hN F4 _ u3 fun a o h => x4.sub a o (x3.sub a o h)⟩
        rw [u2.len]
        simp at hl; omega
theorem lc_len {f : D → Pl → R (List D)} (hf : ∀ x p y p', f x p = some (.ok y p') → y.length ≤ 1) : ∀ (xs : List D) (pl : Pl) (ys : List D) (pl' : Pl), compL f xs pl = some (.ok ys pl') → ys.length ≤ xs.length
  | [], pl, ys, pl', h => by simp [compL] at h; rw [← h.1]; exact Nat.le_refl _
  | x :: xs, pl, ys, pl', h => by
    obtain ⟨y1, p1, zs, h1, h2, rfl⟩ := compL_cons h
    have := lc_len hf xs p1 zs pl' h2
    have := hf x pl y1 p1 h1
    simp; omega
theorem notSet_ok {a : Expr} (h : notSet a = true) : ∀ (env : Env) (x : Value), foldedSetIterable a env x = pure x := fun env x => by
  cases a <;> first | rfl | (simp [notSet] at h)
theorem own_slots (N : List Str) (vs : List Nat) : (ownOf N vs).map (·.2) = vs := by
  unfold ownOf
  rw [List.map_map]
  conv => rhs; rw [← List.map_id vs]
  rfl
theorem chk_lc {c : Ck} {vs : List Nat} {tg : Tg} {it : Ev.It} {t : Eo} {e : E} {a : Expr} (h : chkE c (.lc vs tg it t e) a = true) : ∃ elt tgt iter ifs scope pos, a = .ListComp elt [⟨tgt, iter, ifs, 0⟩] scope pos ∧ notSet iter = true ∧ chkIt c it iter tgt = true ∧
    blkC c.N c.sc scope (ownOf c.N vs) = true ∧ chkTg { c with sc := scope } tg tgt = true ∧ chkCs { c with sc := scope } t ifs = true ∧ chkE { c with sc := scope } e elt = true ∧ e.isPk = false ∧ tg.slots.all (vs.contains ·) = true := by
  unfold chkE at h
  split at h
  · simp only [Bool.and_eq_true] at h
    obtain ⟨⟨⟨⟨⟨⟨⟨⟨h1, h2⟩, h3⟩, h4⟩, h5⟩, h6⟩, h7⟩, h8⟩, h9⟩ := h
    cases of_decide_eq_true h1
    exact ⟨_, _, _, _, _, _, rfl, h2, h3, h4, h5, h6, h7, by simpa using h8, h9⟩
  · cases h
theorem lc_reads {X : Cx} {c : Ck} {vs : List Nat} {tg : Tg} {it : Ev.It} {t : Eo} {e : E} (hvs : tg.slots.all (vs.contains ·) = true) : ∀ σ H Q, tN T cl (.lc vs tg it t e) σ H Q → tLc (tI T cl it) (gT T tg) (tCo T cl t) (tE T cl e) ((ownOf c.N vs).map (·.2)) σ H Q := fun σ H Q ⟨pa, F, ρ, pl, d, pl', g, e1, f⟩ => by
  rw [own_slots]
  rw [evE] at e1
  obtain ⟨xs, q1, e2, e3⟩ := bnd_ok e1
  obtain ⟨ys, q2, e4, e5⟩ := bnd_ok e3
  cases e5
  refine ⟨pa, F, ρ, pl, xs, q1, g, e2, fun J F1 H1 x1 s1 its ln D' hD => ?_⟩
  obtain ⟨hp, z0⟩ := cst_start s1 hD
  have hlen : ys.length ≤ sizeLine := Nat.le_trans (lc_len (fun x p y p' h => by
    split at h
    · cases h
    · obtain ⟨b, q1, h2, h3⟩ := bnd_ok h
      cases b with
      | true =>
        obtain ⟨y', q3, h4, h5⟩ := bnd_ok h3
        cases h5; simp
      | false => cases h3; simp) _ _ _ _ e4) ln
  refine lc_go hp z0 its (fun _ _ _ _ z _ => z.ex) e4 (step := fun x H' N => gT T tg x (L2.wipe σ vs) H' fun σ2 H2 => L2.wipe σ2 vs = L2.wipe σ vs ∧ tCo T cl t σ2 H2 fun b H3 => if b = true then tE T cl e σ2 H3 fun y H4 => ∃ acc, H4 D' = some (.lst acc) ∧ acc.length < sizeLine ∧ N (upd H4 D' (.lst (acc ++ [y]))) else N H3) (fun x y1 p p1 acc F' H' v N hf z _ r hl hN => lc_item ((g.ext (x1.tr z.ex z.sit) z.sit).wipe vs) hp hD hvs hf z r (by simp at hl; omega) hN) fun F' H' z _ => ?_
  obtain ⟨us, u1, u2⟩ := z.vals
  refine f D' F' H' (x1.tr z.ex z.sit) z.sit z.out hp ?_ ⟨us, u1, u2⟩
  cases q : H D' with
  | none => rfl
  | some u => rw [x1.keep _ _ q hp] at hD; cases hD
theorem lst_of {vs : List Nat} {tg : Tg} {it : Ev.It} {t : Eo} {e : E} {ρ : Rho} {pl pl' : Pl} {d : D} (h : evE cl (.lc vs tg it t e) ρ pl = some (.ok d pl')) : ∃ l, d = .lst l := by
  rw [evE] at h
  obtain ⟨xs, q1, e2, e3⟩ := bnd_ok h
  obtain ⟨ys, q2, e4, e5⟩ := bnd_ok e3
  cases e5
  exact ⟨_, rfl⟩
theorem s_lc {vs : List Nat} {tg : Tg} {it : Ev.It} {t : Eo} {e : E} (hi : SI T k cl it) (ht : SC T k cl t) (he : SE T k cl e) : SE T k cl (.lc vs tg it t e) := by
  refine SE.mkN (fun c X a W C h => ?_) (fun ρ pl d pl' h => lst_of h) fun c a h => ?_
  · obtain ⟨elt, tgt, iter, ifs, scope, pos, rfl, h2, h3, h4, h5, h6, h7, h8, h9⟩ := chk_lc h
    have ok := C.blkOk h4
    have Cb := fun s H A cs fp => C.blk ok.kind s H A cs fp
    exact PE.of (pe_lc (own := ownOf c.N vs) C.calm (C.N ▸ C.nd) (hi c X _ _ W C h3).1 ok (fun s H A cs fp => s_tg (Cb s H A cs fp) h5) (fun s H A cs fp => ht { c with sc := scope } _ _ W (Cb s H A cs fp) h6) (fun s H A cs fp => he.val { c with sc := scope } _ _ W (Cb s H A cs fp) h7 h8) (notSet_ok h2 _)) (lc_reads (X := X) (c := c) h9)
  · obtain ⟨elt, tgt, iter, ifs, scope, pos, rfl, _⟩ := chk_lc h
    exact ⟨fun _ _ => rfl, fun _ _ _ z => by cases z⟩
/-! ### two clauses -/
def PlainR (ρ : Rho) : Prop := ∀ (i : Nat) (d : D), ρ[i]? ≠ some (some (Sl.own d))
theorem plain_noOwn (ρ : Rho) : PlainR (noOwn ρ) := fun i d h => by
  unfold noOwn at h
  rw [List.getElem?_map] at h
  cases q : ρ[i]? with
  | none => rw [q] at h; cases h
  | some o =>
    rw [q] at h
    simp only [Option.map_some, Option.some.injEq] at h
    split at h
    · cases h
    · rename_i hn
      exact hn d h
theorem plain_set {ρ : Rho} (h : PlainR ρ) (i : Nat) (d : D) : PlainR (ρ.set i (some (.val d))) := fun j d' e => by
  rw [List.getElem?_set] at e
  split at e
  · split at e <;> cases e
  · exact h j d' e
theorem setAll_plain : ∀ {is : List Nat} {ds : List D} {ρ ρ' : Rho}, setAll is ds ρ = some ρ' → PlainR ρ → PlainR ρ'
  | [], [], _, _, e, h => by cases e; exact h
  | [], _ :: _, _, _, e, h => by cases e
  | _ :: _, [], _, _, e, h => by cases e
  | i :: is, d :: ds, ρ, ρ', e, h => setAll_plain (is := is) (ds := ds) e (plain_set h i d)
theorem setTg_plain {tg : Tg} {d : D} {ρ ρ' : Rho} (e : setTg tg d ρ = some ρ') (h : PlainR ρ) : PlainR ρ' := by
  cases tg with
  | nm i => cases e; exact plain_set h i d
  | tp l =>
    cases d <;> try cases e
    exact setAll_plain e h
theorem Gd.plain {pa : Option Addr} {F H : Hp} {ρ : Rho} {pl : Pl} {σ : L2.St} (g : Gd T pa F ρ pl σ H) : Gd T pa F (noOwn ρ) pl σ H where
  sit := g.sit
  len := by unfold noOwn; rw [List.length_map]; exact g.len
  val := fun i d h => by
    refine g.val i d ?_
    unfold noOwn at h
    rw [List.getElem?_map] at h
    cases q : ρ[i]? with
    | none => rw [q] at h; cases h
    | some o =>
      rw [q] at h
      simp only [Option.map_some, Option.some.injEq] at h
      split at h
      · cases h
      · rw [h]
  own := fun i d h => (plain_noOwn ρ i d h).elim
  apart := fun i j d d' a h => (plain_noOwn ρ i d h).elim
theorem Gd.mv {pa : Option Addr} {F H F' H' : Hp} {ρ : Rho} {pl pl' : Pl} {σ : L2.St} (g : Gd T pa F ρ pl σ H) (p : PlainR ρ) (sb : Sub F F') (s : Sit T pa F' H' pl') : Gd T pa F' ρ pl' σ H' where
  sit := s
  len := g.len
  val := fun i d h => by
    obtain ⟨v, h1, h2⟩ := g.val i d h
    exact ⟨v, h1, RV.mono sb (.inr rfl) _ _ h2⟩
  own := fun i d h => (p i d h).elim
  apart := fun i j d d' a h => (p i d h).elim
theorem chk_lc2 {c : Ck} {vs vs1 : List Nat} {tg tg1 : Tg} {it it1 : Ev.It} {t : Eo} {e : E} {a : Expr} (h : chkE c (.lc2 vs vs1 tg it tg1 it1 t e) a = true) : ∃ elt tgt iter tgt1 iter1 ifs1 scope pos, a = .ListComp elt [⟨tgt, iter, [], 0⟩, ⟨tgt1, iter1, ifs1, 0⟩] scope pos ∧ notSet iter = true ∧ notSet iter1 = true ∧ chkIt c it iter tgt = true ∧
    blkC c.N c.sc scope (ownOf c.N vs) = true ∧ chkTg { c with sc := scope } tg tgt = true ∧ chkIt { c with sc := scope } it1 iter1 tgt1 = true ∧ chkTg { c with sc := scope } tg1 tgt1 = true ∧ chkCs { c with sc := scope } t ifs1 = true ∧ chkE { c with sc := scope } e elt = true ∧ e.isPk = false ∧ tg.slots.all (vs.contains ·) = true ∧ tg1.slots.all (vs1.contains ·) = true ∧ vs1.all (vs.contains ·) = true ∧ it1.frozen = true := by
  unfold chkE at h
  split at h
  · simp only [Bool.and_eq_true] at h
    obtain ⟨⟨⟨⟨⟨⟨⟨⟨⟨⟨⟨⟨⟨⟨⟨⟨h1, h1'⟩, h2⟩, h2'⟩, h3⟩, h0⟩, h4⟩, h5⟩, h5'⟩, h6⟩, h6'⟩, h7⟩, h8⟩, h9⟩, h10⟩, h11⟩, h12⟩ := h
    cases of_decide_eq_true h1; cases of_decide_eq_true h1'
    cases List.isEmpty_iff.mp h0
    exact ⟨_, _, _, _, _, _, _, _, rfl, h2, h2', h3, h4, h5, h5', h6, h6', h7, by simpa using h8, h9, h10, h11, h12⟩
  · cases h
theorem lc2_reads {X : Cx} {c : Ck} {vs vs1 : List Nat} {tg tg1 : Tg} {it it1 : Ev.It} {t : Eo} {e : E} (h9 : tg.slots.all (vs.contains ·) = true) (h10 : tg1.slots.all (vs1.contains ·) = true) : ∀ σ H Q, tN T cl (.lc2 vs vs1 tg it tg1 it1 t e) σ H Q →
    tLc2 (tI T cl it) (gT T tg) tYes (tIF T cl it1) (gT T tg1) (tCo T cl t) (tE T cl e) ((ownOf c.N vs).map (·.2)) vs1 σ H Q := fun σ H Q ⟨pa, F, ρ, pl, d, pl', g, e1, f⟩ => by
  rw [own_slots]
  rw [evE] at e1
  obtain ⟨xs, q1, e2, e3⟩ := bnd_ok e1
  obtain ⟨ys, q2, e4, e5⟩ := bnd_ok e3
  split at e5
  · rename_i hlim
    cases e5
    have hlen : ys.length ≤ sizeLine := by rw [← lim_eq]; exact hlim
    refine ⟨pa, F, ρ, pl, xs, q1, g, e2, fun J F1 H1 x1 s1 its ln D' hD => ?_⟩
    obtain ⟨hp, z0⟩ := cst_start s1 hD
    refine lc_go hp z0 its (fun _ _ _ _ z _ => z.ex) e4 (step := fun x H' Nx => gT T tg x (L2.wipe σ vs) H' fun σ2 H2 => L2.wipe σ2 vs = L2.wipe σ vs ∧ tYes σ2 H2 fun b H3 =>
      if b = true then tIF T cl it1 σ2 H3 fun J1 H4 => ∃ W1 : Nat → Nat → Hp → Prop, (∃ m, W1 0 m H4) ∧ ∀ j k H, W1 j k H →
        (J1.stop j H ∧ Nx H) ∨ (J1.go j H ∧ ∃ Nx1 : Hp → Prop, (∀ H', Nx1 H' → ∃ k', k' < k ∧ W1 (j + 1) k' H') ∧ ∀ x H', J1.yld j H x H' → gT T tg1 x (L2.wipe σ2 vs1) H' fun σ3 H5 => L2.wipe σ3 vs1 = L2.wipe σ2 vs1 ∧ tCo T cl t σ3 H5 fun b H6 =>
          if b = true then tE T cl e σ3 H6 fun y H7 => ∃ acc, H7 D' = some (.lst acc) ∧ acc.length < sizeLine ∧ Nx1 (upd H7 D' (.lst (acc ++ [y]))) else Nx1 H6)
      else Nx H3) (fun x y1 p p1 acc F' H' v N hf z sb r hl hN => ?_) fun F' H' z _ => ?_
    · have g2 := ((g.ext (x1.tr z.ex z.sit) z.sit).wipe vs).plain
      cases es : setTg tg x (noOwn (wipeR ρ vs)) with
      | none => rw [es] at hf; cases hf
      | some ρ2 =>
        rw [es] at hf
        simp only at hf
        refine ⟨pa, F', _, p, x, ρ2, g2, r, es, fun σ2 g3 hl2 hj => ⟨?_, ?_⟩⟩
        · rw [wipe_eq hl2 fun j nj => hj j (slots_in h9 j nj), wipe_wipe]
        · obtain ⟨xs1, r1, e6, e7⟩ := bnd_ok hf
          refine ⟨pa, F', ρ2, p, xs1, r1, g3, e6, fun J1 F4 H4 x4 s4 its1 => ?_⟩
          have z4 := z.ext hp x4 s4
          have g4 := g3.ext x4 s4
          have po : PlainR ρ2 := setTg_plain es (plain_noOwn _)
          refine lc_go hp z4 its1 (fun _ _ _ _ z sb => ⟨sb, z.sit.sub⟩) e7 (step := fun x H' Nx1 => gT T tg1 x (L2.wipe σ2 vs1) H' fun σ3 H5 => L2.wipe σ3 vs1 = L2.wipe σ2 vs1 ∧ tCo T cl t σ3 H5 fun b H6 =>
            if b = true then tE T cl e σ3 H6 fun y H7 => ∃ acc, H7 D' = some (.lst acc) ∧ acc.length < sizeLine ∧ Nx1 (upd H7 D' (.lst (acc ++ [y]))) else Nx1 H6) (fun x y2 p' p1' acc' F5 H5 v' N' hf' z' sb' r' hl' hN' => ?_) fun F5 H5 z5 sb5 => hN F5 H5 z5 fun a o h => sb5 a o (x4.sub a o h)
          exact lc_item ((g4.mv po sb' z'.sit).wipe vs1) hp hD h10 hf' z' r' (by simp at hl hl'; omega) hN'
    · obtain ⟨us, u1, u2⟩ := z.vals
      refine f D' F' H' (x1.tr z.ex z.sit) z.sit z.out hp ?_ ⟨us, u1, u2⟩
      cases q : H D' with
      | none => rfl
      | some u => rw [x1.keep _ _ q hp] at hD; cases hD
  · cases e5
theorem lst_of2 {vs vs1 : List Nat} {tg tg1 : Tg} {it it1 : Ev.It} {t : Eo} {e : E} {ρ : Rho} {pl pl' : Pl} {d : D} (h : evE cl (.lc2 vs vs1 tg it tg1 it1 t e) ρ pl = some (.ok d pl')) : ∃ l, d = .lst l := by
  rw [evE] at h
  obtain ⟨xs, q1, e2, e3⟩ := bnd_ok h
  obtain ⟨ys, q2, e4, e5⟩ := bnd_ok e3
  split at e5
  · cases e5; exact ⟨_, rfl⟩
  · cases e5
theorem s_lc2 {vs vs1 : List Nat} {tg tg1 : Tg} {it it1 : Ev.It} {t : Eo} {e : E} (hi : SI T k cl it) (hi1 : SI T k cl it1) (ht : SC T k cl t) (he : SE T k cl e) : SE T k cl (.lc2 vs vs1 tg it tg1 it1 t e) := by
  refine SE.mkN (fun c X a W C h => ?_) (fun ρ pl d pl' h => ?_) fun c a h => ?_
  · obtain ⟨elt, tgt, iter, tgt1, iter1, ifs1, scope, pos, rfl, h2, h2', h3, h4, h5, h5', h6, h6', h7, h8, h9, h10, h11, h12⟩ := chk_lc2 h
    have ok := C.blkOk h4
    have Cb := fun s H A cs fp => C.blk ok.kind s H A cs fp
    have hv : ∀ i ∈ vs1, i ∈ (ownOf c.N vs).map (·.2) := fun i hi => by
      rw [own_slots]
      have := List.all_eq_true.mp h11 i hi
      simpa using this
    refine PE.of (pe_lc2 (own := ownOf c.N vs) (vs1 := vs1) C.calm (C.N ▸ C.nd) (hi c X _ _ W C h3).1 ok hv (fun s H A cs fp => s_tg (Cb s H A cs fp) h5) (fun s H A cs fp => pts_nil) (fun s H A cs fp => (hi1 { c with sc := scope } _ _ _ W (Cb s H A cs fp) h5').2 h12) (fun s H A cs fp => s_tg (Cb s H A cs fp) h6) (fun s H A cs fp => ht { c with sc := scope } _ _ W (Cb s H A cs fp) h6') (fun s H A cs fp => he.val { c with sc := scope } _ _ W (Cb s H A cs fp) h7 h8) (notSet_ok h2 _) (notSet_ok h2')) fun σ H Q ⟨pa, F, ρ, pl, d, pl', g, e1, f⟩ => lc2_reads (X := X) (c := c) h9 h10 σ H Q ⟨pa, F, ρ, pl, d, pl', g, e1, f⟩
  · rw [evE] at h
    obtain ⟨xs, q1, e2, e3⟩ := bnd_ok h
    obtain ⟨ys, q2, e4, e5⟩ := bnd_ok e3
    split at e5
    · cases e5; exact ⟨_, rfl⟩
    · cases e5
  · obtain ⟨elt, tgt, iter, tgt1, iter1, ifs1, scope, pos, rfl, _⟩ := chk_lc2 h
    exact ⟨fun _ _ => rfl, fun _ _ _ z => by cases z⟩
end
end Ev

set_option Elab.async false
set_option linter.all false
set_option maxRecDepth 100000
set_option maxHeartbeats 4000000
/-! EvR: tuple(reversed(a tuple)). -/
namespace EvR
open PySem PySem.Spec PyProof.Rows RT L2
theorem nolen_rt : typeLookup (.type "reversed") "__len__" = pure none := by rw [typeLookup_type, builtinLookup_eq_fast]; kernel_rfl
theorem slot_rt_hint : Slot "reversed" "__length_hint__" "reversed.__length_hint__" :=
  .of (owner := "reversed") (n := "__length_hint__") (by rw [typeLookup_type, builtinLookup_eq_fast]; kernel_rfl) (by decide +kernel) (by decide +kernel) (by decide +kernel)
    (by first | exact .inl (by decide +kernel) | exact .inr (by decide +kernel)) (by rw [isSubtype_type]; kernel_rfl)
theorem entry_rt_hint : entryFor table "reversed.__length_hint__" = some Builtin.«reversed.__length_hint__» := entryFor_of_tree (by kernel_rfl)
theorem args_rt_hint (a : Value) : argsOk "reversed.__length_hint__" ⟨[a], []⟩ := by
  unfold argsOk; rw [signature?_of (id := "reversed.__length_hint__") (n := ['_', '_', 't', 'n', 'i', 'h', '_', 'h', 't', 'g', 'n', 'e', 'l', '_', '_'].reverse.reverse) (o := ['d', 'e', 's', 'r', 'e', 'v', 'e', 'r']) (by kernel_rfl) owner_rt]; kernel_rfl
section
variable {prog : Program} {w : World} {A : Around} {E : Value → Shared → Prop} {s : Shared}
theorem call_hint {it t : Addr} {items : Array Value} {Q : Value → Shared → Prop} (hit : IsRt s.heap it t ((items.size : Int) - 1)) (ht : IsTup s.heap t items) (hn : items.size ≤ sizeLine)
    (h : Q (.int items.size (s.toks + 1 + 1)) { s with toks := s.toks + 1 + 1 + 1 }) : wpAny (model prog w) A (call (.builtin "reversed.__length_hint__") [.ref it]) Q E s := by
  obtain ⟨o, ho, hc, hd⟩ := id hit
  refine wpAny_call_entry slot_rt_hint hit.typeIs entry_rt_hint ?_ (args_rt_hint _)
  unfold Builtin.«reversed.__length_hint__»
  refine wpAny_bind (wpAny_of_eq (a := Value.ref it) rfl ?_)
  refine wpAny_bind (wpAny_field ho hd (x := .ref t) rfl ?_)
  refine wpAny_ite_split (fun hab => absurd hab (by simp)) (fun _ => ?_)
  refine wpAny_bind (len_tuple ht (by rw [sizeLine_eq] at hn; omega) ?_)
  refine wpAny_bind (m := asInt? _) (wpAny_pure ?_)
  refine wpAny_bind (wpAny_field (s := { s with toks := s.toks + 1 + 1 }) ho hd (x := rawInt ((items.size : Int) - 1)) rfl ?_)
  have e1 : ((items.size : Int) - 1) + 1 = (items.size : Int) := by omega
  show wpAny _ _ (if (items.size : Int) < ((items.size : Int) - 1) + 1 then _ else _) _ _ _
  rw [if_neg (by omega)]
  unfold retInt
  refine wpAny_bind (wpAny_mkInt ?_)
  rw [e1]
  exact wpAny_pure ⟨_, rfl, h⟩
theorem hint_rt {it t : Addr} {items : Array Value} {Q : Bool → Shared → Prop} (hit : IsRt s.heap it t ((items.size : Int) - 1)) (ht : IsTup s.heap t items) (hn : items.size ≤ sizeLine)
    (h : ∀ b, Q b { s with toks := s.toks + 1 + 1 + 1 }) : wpAny (model prog w) A (Builtin.List.listLengthHint (.ref it)) Q E s := by
  have hT : s.TypeIs (.ref it) "reversed" := hit.typeIs
  unfold Builtin.List.listLengthHint
  refine wpAny_bind (wpAny_specialOf hT nolen_rt ?_)
  show wpAny _ _ (specialOf (Value.ref it) (Str.ofString "__length_hint__") >>= _) _ _ _
  refine wpAny_bind (wpAny_specialOf hT slot_rt_hint.lookup ?_)
  generalize hid : ("reversed.__length_hint__" : String) = id0
  wp_delta
  rw [show splitId id0 = some ("reversed", "__length_hint__") from by subst hid; decide +kernel]
  subst hid
  refine wpAny_bind (wpAny_isInstance (T := "reversed") (b := true) hT (by rw [isSubtype_type]; kernel_rfl) ?_)
  refine wpAny_ite_split (fun hab => absurd hab (by decide)) (fun _ => ?_)
  refine wpAny_ite_split (fun hab => absurd hab (by decide +kernel)) (fun _ => ?_)
  refine wpAny_bind (wpAny_rule ?_)
  rw [slot_rt_hint.toG.bind]
  refine wpAny_bind (wpAny_pure ?_)
  refine wpAny_bind (wpAny_attempt (call_hint hit ht hn ?_))
  have hn2 : items.size ≤ 16777216 := by rw [sizeLine_eq] at hn; omega
  have htl : Builtin.List.listTooLong ((items.size : Int).toNat) = false := by simp [Builtin.List.listTooLong, sizeLine]; omega
  have hfi : Builtin.List.listFitsIndex (items.size : Int) = true := by simp [Builtin.List.listFitsIndex]; omega
  try dsimp only
  have ea : ∀ t, asInt? (Value.int (items.size : Int) t) = (pure (some (items.size : Int)) : Sem (Option Int)) := fun t => rfl
  rw [ea, pure_bind]
  try dsimp only
  rw [hfi]
  refine wpAny_ite_split (fun hab => absurd hab (by decide)) (fun _ => ?_)
  refine wpAny_ite_split (fun hab => absurd hab (by omega)) (fun _ => ?_)
  exact wpAny_ite_split (fun hab => absurd hab (by rw [htl]; decide)) (fun _ => wpAny_pure (h _))
/-- the turns of reversed(a tuple) -/
theorem Walks.rt (hh : A.handled = none) (I l : Addr) (hne : l ≠ I) (items : Array Value) (hsz : items.size ≤ sizeLine) :
    Walks prog w A I [I, l] [I] items.size (fun i v => items[items.size - 1 - i]? = some v) (fun i h => i ≤ items.size ∧ IsRt h I l ((items.size : Int) - 1 - (i : Int)) ∧ IsTup h l items) where
  sub := fun b hb => by simp at hb; simp [hb]
  frame := fun _ _ _ x hk => ⟨x.1, x.2.1.at fun o e => hk I (by simp) o e, by
    obtain ⟨o, ho, r⟩ := x.2.2
    exact ⟨o, hk l (by simp) o ho, r⟩⟩
  item := fun i s Q E hi x hQ => by
    have e : (items.size : Int) - 1 - (i : Int) = ((items.size - 1 - i : Nat) : Int) := by omega
    have hit := x.2.1
    rw [e] at hit
    have hx : items[items.size - 1 - i]? = some (items[items.size - 1 - i]'(by omega)) := Array.getElem?_eq_getElem (by omega)
    refine next_rt_item hit x.2.2 hx hsz fun h' hit' hs' => ?_
    have e2 : ((items.size - 1 - i : Nat) : Int) - 1 = (items.size : Int) - 1 - ((i + 1 : Nat) : Int) := by omega
    rw [e2] at hit'
    obtain ⟨o, ho, r⟩ := x.2.2
    exact hQ _ h' (s.toks + 1) hx ⟨hi, hit', o, (hs'.2 l hne).trans ho, r⟩ (fun b o hb eo => hs'.extBut b o (fun h => hb (by simp [h])) eo)
  done := fun s Q E x hQ => by
    have e : (items.size : Int) - 1 - (items.size : Int) = -1 := by omega
    have hit := x.2.1
    rw [e] at hit
    exact next_rt_end hh hit fun h' he' => hQ h' s.toks (fun b o hb eo => he' b o (fun h => hb (by simp [h])) eo)
  self := fun _ _ _ _ x hQ => iter_rt x.2.1 hQ
theorem isTup_push {h : Heap} {t : Addr} {items : Array Value} (x : IsTup h t items) (o : Obj) : IsTup (h.push o) t items := let ⟨q, hq, r⟩ := x; ⟨q, Heap.get?_push_of_some _ hq, r⟩
theorem collect_rt {it l : Addr} {items : Array Value} {Q : List Value → Shared → Prop} (hh : A.handled = none) (hit : IsRt s.heap it l ((items.size : Int) - 1)) (hl : IsTup s.heap l items) (hne : l ≠ it) (hn : items.size ≤ sizeLine)
    (hQ : ∀ (h' : Heap) (tk : Nat) (acc : Array Value), (∀ b o, b ≠ it → s.heap.get? b = some o → h'.get? b = some o) → ItemsOf (fun i v => items[items.size - 1 - i]? = some v) acc items.size → Q acc.toList { s with heap := h', toks := tk }) :
    wpAny (model prog w) A (collect (.ref it)) Q E s := by
  have W := (Walks.rt (prog := prog) (w := w) (A := A.in1) hh it l hne items hn).toS
  obtain ⟨oi, hoi, _⟩ := id hit
  obtain ⟨ol, hol, _⟩ := id hl
  have hSi : s.heap.objs.size ≠ it := Nat.ne_of_gt (Heap.lt_size hoi)
  have hSl : s.heap.objs.size ≠ l := Nat.ne_of_gt (Heap.lt_size hol)
  have hSf : s.heap.objs.size ∉ [it, l] := by simp only [List.mem_cons, List.not_mem_nil, or_false, not_or]; exact ⟨hSi, hSl⟩
  unfold collect
  refine wpAny_bind (wpAny_runValue (codeAny_builtin F.entry_proto_collect ?_))
  rw [Around.under_plainId F.plain_proto_collect _]
  show wpAny _ A.in1 (newList [] >>= fun l' => again (.builtin "list.__iadd__" ⟨[l', .ref it], []⟩)) _ _ s
  refine wpAny_bind (wpAny_newObj_type ?_)
  refine wpAny_pure ⟨plainId_quiet F.plain_list_iadd _, codeAny_builtin F.entry_list_iadd ?_⟩
  rw [Around.under_plainId F.plain_list_iadd _]
  have hS₁ : (s.heap.push { cls := .type "list", data := .seq ([] : List Value).toArray }).get? s.heap.objs.size = some { cls := .type "list", data := .seq ([] : List Value).toArray } := Heap.get?_push_size _ rfl
  have hit1 : IsRt (s.heap.push { cls := .type "list", data := .seq ([] : List Value).toArray }) it l ((items.size : Int) - 1) := hit.at fun o e => Heap.get?_push_of_some _ e
  have hl1 : IsTup (s.heap.push { cls := .type "list", data := .seq ([] : List Value).toArray }) l items := isTup_push hl _
  have hT : ({ s with heap := s.heap.push { cls := .type "list", data := .seq ([] : List Value).toArray } } : Shared).TypeIs (.ref it) "reversed" := IsRt.typeIs (s := { s with heap := s.heap.push { cls := .type "list", data := .seq ([] : List Value).toArray } }) hit1
  have h1 : Builtin.List.listSameRef (.ref s.heap.objs.size) (.ref it) = false := by simp [Builtin.List.listSameRef, hSi]
  show wpAny _ A.in1 (Builtin.List.listExtendWith (.ref s.heap.objs.size) (.ref it) (.ref s.heap.objs.size)) _ _ _
  unfold Builtin.List.listExtendWith
  refine wpAny_bind (wpAny_typeOf hT ?_)
  rw [if_neg (by rw [h1]; decide)]
  refine wpAny_bind (iter_rt (s := { s with heap := s.heap.push { cls := .type "list", data := .seq ([] : List Value).toArray } }) hit1 ?_)
  refine wpAny_bind (wpAny_holding (hint_rt (s := { s with heap := s.heap.push { cls := .type "list", data := .seq ([] : List Value).toArray } }) hit1 hl1 hn fun bb => ?_))
  have e0 : ((items.size : Nat) : Int) - 1 - ((0 : Nat) : Int) = (items.size : Int) - 1 := by omega
  refine wpAny_ite_split (fun _ => ?_) (fun _ => ?_)
  · refine wpAny_bind (wpAny_rule ?_)
    refine wpAny_bind ?_
    show wpAny _ _ (updateSeq s.heap.objs.size (·.push .none) >>= fun _ => updateSeq s.heap.objs.size (·.pop)) _ _ _
    refine wpAny_bind (wpAny_updateSeq hS₁ rfl ?_)
    have hS₂ := Heap.get?_update_self (Obj.mapSeq (·.push Value.none)) hS₁ rfl
    refine wpAny_updateSeq (hz := by seq_fits) hS₂ rfl ?_
    have hS₃ := Heap.get?_update_self (Obj.mapSeq (·.pop)) hS₂ rfl
    have oth : ∀ b o, b ≠ s.heap.objs.size → (s.heap.push { cls := .type "list", data := .seq ([] : List Value).toArray }).get? b = some o → (((s.heap.push { cls := .type "list", data := .seq ([] : List Value).toArray }).update s.heap.objs.size (Obj.mapSeq (·.push Value.none))).update s.heap.objs.size (Obj.mapSeq (·.pop))).get? b = some o :=
      fun b o hb e => (Heap.get?_update_other _ _ (Ne.symm hb)).trans ((Heap.get?_update_other _ _ (Ne.symm hb)).trans e)
    have hit2 := hit1.at fun o e => oth it o (Ne.symm hSi) e
    have hl2 : IsTup (((s.heap.push { cls := .type "list", data := .seq ([] : List Value).toArray }).update s.heap.objs.size (Obj.mapSeq (·.push Value.none))).update s.heap.objs.size (Obj.mapSeq (·.pop))) l items := let ⟨q, hq, r⟩ := hl1; ⟨q, oth l q (Ne.symm hSl) hq, r⟩
    refine wpAny_pure ⟨plainId_quiet F.plain_extend_loop _, codeAny_extend_loopS W hn _ hSf _ items.size 0 _ _ _ rfl (Nat.zero_le _) ⟨Nat.zero_le _, by rw [e0]; exact hit2, hl2⟩ hS₃ (ItemsOf.nil _) fun s' acc' c' hm hS' hacc => ?_⟩
    show wpAny _ A (load s.heap.objs.size >>= _) _ _ s'
    refine wpAny_bind (wpAny_load hS' ?_)
    refine wpAny_pure ?_
    rw [Moved.eq_with hm]
    refine hQ s'.heap s'.toks acc' (fun b o hb e => hm.heap b o (fun hmem => ?_) (oth b o (fun z => absurd (Heap.lt_size e) (by rw [z]; exact Nat.lt_irrefl _)) (Heap.get?_push_of_some _ e))) hacc
    rcases List.mem_cons.mp hmem with e' | hmem
    · exact absurd (Heap.lt_size e) (by rw [e']; exact Nat.lt_irrefl _)
    · exact hb (List.mem_singleton.mp hmem)
  · refine wpAny_pure ⟨plainId_quiet F.plain_extend_loop _, codeAny_extend_loopS W hn _ hSf _ items.size 0 _ _ _ rfl (Nat.zero_le _) ⟨Nat.zero_le _, by rw [e0]; exact hit1, hl1⟩ hS₁ (ItemsOf.nil _) fun s' acc' c' hm hS' hacc => ?_⟩
    show wpAny _ A (load s.heap.objs.size >>= _) _ _ s'
    refine wpAny_bind (wpAny_load hS' ?_)
    refine wpAny_pure ?_
    rw [Moved.eq_with hm]
    refine hQ s'.heap s'.toks acc' (fun b o hb e => hm.heap b o (fun hmem => ?_) (Heap.get?_push_of_some _ e)) hacc
    rcases List.mem_cons.mp hmem with e' | hmem
    · exact absurd (Heap.lt_size e) (by rw [e']; exact Nat.lt_irrefl _)
    · exact hb (List.mem_singleton.mp hmem)
theorem code_tuple_new_rt {it l : Addr} {items : Array Value} {Q₁ : Value → Shared → Prop} (hh : A.handled = none) (hit : IsRt s.heap it l ((items.size : Int) - 1)) (hl : IsTup s.heap l items) (hne : l ≠ it) (hn : items.size ≤ sizeLine)
    (h : ∀ (h' : Heap) (tk : Nat) (acc : Array Value), (∀ b o, b ≠ it → s.heap.get? b = some o → h'.get? b = some o) → ItemsOf (fun i v => items[items.size - 1 - i]? = some v) acc items.size →
      Q₁ (.ref h'.objs.size) { s with heap := h'.push { cls := .type "tuple", data := .seq acc }, toks := tk }) :
    codeAny (model prog w) A (.call (.builtin "tuple.__new__") ⟨[.type "tuple", .ref it], []⟩) (wants Q₁ E) s := by
  refine codeAny_of_tree ?_
  show wpAny _ A.in1 (do checkBuiltinCall "tuple.__new__" ⟨[.type "tuple", .ref it], []⟩; again (.builtin "tuple.__new__" ⟨[.type "tuple", .ref it], []⟩)) _ _ s
  refine wpAny_bind (wpAny_of_eq (F.newCall_tuple_1 _) (wpAny_pure ⟨plainId_quiet F.plain_tuple_new _, codeAny_builtin F.entry_tuple_new ?_⟩))
  rw [Around.under_plainId F.plain_tuple_new _]
  have hsub := sub_tuple_self
  have hinit := init_tuple_lookup
  have hmh := madeHere_tuple
  have hTI : s.TypeIs (.ref it) "reversed" := hit.typeIs
  have hh1 : A.in1.handled = none := hh
  wp_walk using wpAny_typeOf hTI, collect_rt (A := A.in1) hh1 hit hl hne hn
  intro h' tk acc hk hacc
  show wpAny _ _ (Builtin.Tuple.tupleExact acc.toList.toArray >>= fun v => ret v) _ _ _
  unfold Builtin.Tuple.tupleExact
  refine wpAny_bind (wpAny_newObj_type ?_ (by show acc.toList.toArray.size ≤ sizeLine; simp only [Array.toArray_toList]; rw [hacc.1]; exact hn))
  refine wpAny_pure ?_
  have e : acc.toList.toArray = acc := by simp
  rw [e]
  exact h h' tk acc hk hacc
theorem call_tuple_rt {it l : Addr} {items : Array Value} {Q : Value → Shared → Prop} (hh : A.handled = none) (hit : IsRt s.heap it l ((items.size : Int) - 1)) (hl : IsTup s.heap l items) (hne : l ≠ it) (hn : items.size ≤ sizeLine)
    (hQ : ∀ (h' : Heap) (tk : Nat) (acc : Array Value), (∀ b o, b ≠ it → s.heap.get? b = some o → h'.get? b = some o) → ItemsOf (fun i v => items[items.size - 1 - i]? = some v) acc items.size →
      Q (.ref h'.objs.size) { s with heap := h'.push { cls := .type "tuple", data := .seq acc }, toks := tk }) :
    wpAny (model prog w) A (call (.type "tuple") [.ref it]) Q E s := by
  refine callType_codes (Q₁ := fun obj s₁ => s₁.TypeIs obj "tuple" ∧ Q obj s₁) F.called_tuple (F.typeCall_tuple_1 _) F.entry_object_init
    (code_tuple_new_rt (A := A.in1) hh hit hl hne hn fun h' tk acc hk hacc => ⟨⟨_, Heap.get?_push_size _ rfl, rfl⟩, hQ h' tk acc hk hacc⟩) fun obj s₁ h₁ => ?_
  exact ⟨h₁.1, F.args_object_init_2 obj _, object_init_meets F.called_tuple.init.lookup F.called_tuple.made (by decide) prog w A.in1 _ s₁ ⟨h₁.1, rfl, h₁.2⟩⟩
end
/-- tuple(reversed(x)), x a tuple: a new tuple -/
def tTupRevT (K : PySem.W.Frag) (te : TE) : TE := fun σ H Q => te σ H fun v H1 => ∃ (a : Addr) (xs : List V), v = .ref a ∧ SqT K H1 a xs ∧ ∀ q, H1 q = none → Q (.ref q) (upd H1 q (.tup xs.reverse))
theorem pe_tupRevT {X : Cx} {e : Expr} {te : TE} {p p2 pos pos2 : Pos} (hc : X.calm = true) (hg : Gl X "tuple") (hm : X.mg "tuple" = none) (hg2 : Gl X "reversed") (hm2 : X.mg "reversed" = none) (he : PE X e te)
    (hs : starEach [e] X.env = (false, eval e X.env) :: starEach [] X.env := by rfl)
    (hs2 : starEach [.Call (.Name "reversed" p2) [e] [] pos2] X.env = (false, eval (.Call (.Name "reversed" p2) [e] [] pos2) X.env) :: starEach [] X.env := by rfl) :
    PE X (.Call (.Name "tuple" p) [.Call (.Name "reversed" p2) [e] [] pos2] [] pos) (tTupRevT X.K te) := by
  refine ⟨fun pins s σ H Q I h => ?_⟩
  refine Call_ (ld_blt I hg hm boot_tuple (PyProof.Rows.callWith_type1 (args_cons (Call_ (ld_blt I hg2 hm2 PyProof.Rows.boot_reversed (PyProof.Rows.callWith_type1 (args_cons (thn (he.run pins s σ H _ I h) fun u s1 ⟨v, H1, I1, r1, q1⟩ => args_nil ?_) hs) hs rfl))) hs2) hs2 rfl))
  obtain ⟨a, xs, ev, hq, q⟩ := q1
  subst ev
  obtain rfl : u = Value.ref a := r1
  obtain ⟨its, rv, p', hz⟩ := I1.tuple hq
  have hn : its.toArray.size ≤ sizeLine := by rw [List.size_toArray, ← rv.length]; exact hz
  have hn2 : its.toArray.size ≤ 16777216 := by rw [sizeLine_eq] at hn; exact hn
  refine call_reversed_tup p' (fun A E Q k => len_tuple p' (by omega) k) (args_nil ?_)
  have k0 : ∀ b o, s1.heap.get? b = some o → (s1.heap.push (rtObj a ((its.toArray.size : Int) - 1))).get? b = some o := fun b o e => Heap.get?_push_of_some _ e
  have I2 : Inv X pins σ H1 { s1 with heap := s1.heap.push (rtObj a ((its.toArray.size : Int) - 1)), toks := s1.toks + 1 + 1 } := I1.kept (t' := s1.toks + 1 + 1) k0
  obtain ⟨f0, f1, f2, f3, f4, f5⟩ := I1.fpOk (H' := H1) (b := s1.heap.objs.size) (Nat.le_refl _) (I1.hok.fresh (Nat.le_refl _))
  obtain ⟨ol, hol, _⟩ := id p'
  have hne : a ≠ s1.heap.objs.size := Nat.ne_of_lt (Heap.lt_size hol)
  refine call_tuple_rt (s := { s1 with heap := s1.heap.push (rtObj a ((its.toArray.size : Int) - 1)), toks := s1.toks + 1 + 1 }) (I1.ok.hd hc) ⟨_, Heap.get?_push_size _ rfl, rfl, rfl⟩ (isTup_push p' _) hne hn fun h' tk acc hk hi => ?_
  have I3 : Inv X pins σ H1 { s1 with heap := h', toks := tk } := I2.turned (t' := tk) (fun b o hb e => hk b o hb e) f0 f1 f3 f4 f5
  refine ⟨.ref h'.objs.size, upd H1 h'.objs.size (.tup xs.reverse), I3.laid (t' := tk) (fun c o e => Heap.get?_push_of_some _ e) (Nat.le_refl _) (show ObjOk X.prog X.w _ _ _ (.tup xs.reverse) from ⟨by rw [List.length_reverse]; exact hz, acc.toList, vals_rev rv hi, ?_⟩), rfl, q _ (I3.hok.fresh (Nat.le_refl _))⟩
  rw [Array.toArray_toList]
  exact IsTup.new _ _
end EvR

set_option Elab.async false
set_option linter.all false
set_option maxRecDepth 100000
set_option maxHeartbeats 4000000
/-! EvX: more forms: list + list as a new list, list(range(..)), displays of dicts, tuple(reversed(..)). -/
namespace Ev
open PySem PySem.Spec PyProof.Rows L2
theorem PE.or {X : Cx} {e : Expr} {t t' : TE} (h : PE X e t) (h' : PE X e t') : PE X e (fun σ H Q => t σ H Q ∨ t' σ H Q) := ⟨fun pins s σ H Q I q => q.elim (fun q => h.run pins s σ H Q I q) fun q => h'.run pins s σ H Q I q⟩
section
variable {T : Tb} {k : Nat} {cl : Call}
theorem FinN.ofD {pa : Option Addr} {F H : Hp} {pl : Pl} {l : List (Key × D)} {Q : VK} (f : Fin T pa F H pl (.dct l) Q) : FinN T pa F H pl (.dct l) Q := by
  intro p F' H' e s n m hp r
  obtain ⟨vs, h1, h2⟩ := r
  have hu : Sub F' (upd F' p (.dK vs)) := fun a u h => by rw [upd_ne (fun z => by subst z; rw [n] at h; cases h)]; exact h
  refine f (.ref p) (upd F' p (.dK vs)) H' ⟨e.keep, fun a u h => hu a u (e.sub a u h), fun a u h => ?_⟩ ⟨fun a u h => ?_, fun a h => ?_, fun a h => ?_⟩ ⟨p, vs, rfl, .inl upd_same, RVk.mono hu (.inr rfl) _ _ h2⟩
  · by_cases z : a = p
    · subst z; exact .inr hp
    · rw [upd_ne z] at h; exact e.fresh a u h
  · by_cases z : a = p
    · subst z; rw [upd_same] at h; rw [← h]; exact h1
    · rw [upd_ne z] at h; exact s.sub a u h
  · rw [upd_ne (fun z => by subst z; exact m h)]; exact s.out a h
  · obtain ⟨us, q1, q2⟩ := s.pool a h
    exact ⟨us, q1, RVs.mono hu (.inr rfl) _ _ q2⟩
theorem FinN.ofDL {pa : Option Addr} {F H : Hp} {pl : Pl} {d : D} {Q : VK} (hd : (∃ l, d = .lst l) ∨ ∃ l, d = .dct l) (f : Fin T pa F H pl d Q) : FinN T pa F H pl d Q := by
  rcases hd with ⟨l, rfl⟩ | ⟨l, rfl⟩
  · exact FinN.of f
  · exact FinN.ofD f
theorem SE.mkM {e : E} (hN : ∀ c X a, World0 T k cl c.g c.fr → CtxOk T k c X → chkE c e a = true → PE X a (tN T cl e)) (hl : ∀ ρ pl d pl', evE cl e ρ pl = some (.ok d pl') → (∃ l, d = .lst l) ∨ ∃ l, d = .dct l)
    (hb : ∀ c a, chkE c e a = true → (∀ env whole, isTrue a env whole = (do let v ← whole; standAt a.pos; holding [v] (truthy v))) ∧ ∀ op vs pos, a ≠ .BoolOp op vs pos) : SE T k cl e := by
  have hv : ∀ c X a, World0 T k cl c.g c.fr → CtxOk T k c X → chkE c e a = true → PE X a (tE T cl e) := fun c X a W C h =>
    PE.of (hN c X a W C h) fun σ H Q ⟨pa, F, ρ, pl, d, pl', g, e1, f⟩ => ⟨pa, F, ρ, pl, _, pl', g, e1, FinN.ofDL (hl _ _ _ _ e1) f⟩
  exact ⟨fun c X a W C h => PE.of (hv c X a W C h) tP_tE, fun c X a W C h _ => hv c X a W C h, fun c X a W C h _ => hN c X a W C h, fun c X a W C h _ => tst_of (hv c X a W C h) ((hb c a h).1 X.env), fun c X op vs pos W C h => ((hb c _ h).2 op vs pos rfl).elim⟩
/-! ### list + list -/
def rCatN (T : Tb) : R2 := fun x y H Q => ∃ pa F pl l m, Sit T pa F H pl ∧ RP T pa F H (.lst l) x ∧ RP T pa F H (.lst m) y ∧ l.length + m.length ≤ LIM ∧ FinN T pa F H pl (.lst (l ++ m)) Q
theorem opCatN {X : Cx} : OpR X (binaryOp .Add) (rCatN T) := by
  intro pins s σ H x y v u Q I rx ry h
  obtain ⟨pa, F, pl, l, m, st, h1, h2, hl, f⟩ := h
  obtain ⟨p, vs, rfl, s1, r1⟩ := h1.lst st
  obtain ⟨q, us, rfl, s2, r2⟩ := h2.lst st
  refine op_cat pins s σ H _ _ v u Q I rx ry ⟨p, q, vs, us, rfl, rfl, s1, s2, ?_, fun z hz => f.laidL st (r1.append r2) hz⟩
  rw [r1.len, r2.len, ← lim_eq]; exact hl
theorem evE_cat {a b : E} {ρ : Rho} {pl pl' : Pl} {d : D} (h : evE cl (.cat a b) ρ pl = some (.ok d pl')) : ∃ l m p1, evE cl a ρ pl = some (.ok (.lst l) p1) ∧ evE cl b ρ p1 = some (.ok (.lst m) pl') ∧ l.length + m.length ≤ LIM ∧ d = .lst (l ++ m) := by
  rw [evE] at h
  obtain ⟨x, q1, e2, e3⟩ := bnd_ok h
  obtain ⟨y, q2, e4, e5⟩ := bnd_ok e3
  split at e5
  · split at e5
    · rename_i hl
      cases e5
      exact ⟨_, _, _, e2, e4, hl, rfl⟩
    · cases e5
  · cases e5
theorem s_cat {p q : E} (hp : SE T k cl p) (hq : SE T k cl q) : SE T k cl (.cat p q) := by
  refine SE.mkM (fun c X a W C h => ?_) (fun ρ pl d pl' h => ?_) fun c a h => ?_
  · unfold chkE at h
    split at h
    · rw [Bool.and_eq_true] at h
      refine PE.of (pe_op (opCatN (T := T)) (hp.pk c X _ W C h.1) (hq.pk c X _ W C h.2)) fun σ H Q ⟨pa, F, ρ, pl, d, pl', g, e1, f⟩ => ?_
      obtain ⟨l, m, p1, e2, e4, hl, rfl⟩ := evE_cat e1
      exact ⟨pa, F, ρ, pl, _, p1, g, e2, fun v F1 H1 x1 s1 r1 => ⟨pa, F1, ρ, p1, _, pl', g.ext x1 s1, e4, fun u F2 H2 x2 s2 r2 =>
        ⟨pa, F2, pl', l, m, s2, r1.ext (pl := p1) x2, r2, hl, f.shift (x1.tr x2 s2) g.free⟩⟩⟩
    · cases h
  · obtain ⟨l, m, p1, e2, e4, hl, rfl⟩ := evE_cat h
    exact .inl ⟨_, rfl⟩
  · unfold chkE at h
    split at h
    · exact ⟨fun _ _ => rfl, fun _ _ _ z => by cases z⟩
    · cases h
/-! ### list(range(..)) -/
theorem rgV_rv {pa : Option Addr} {F : Hp} (a : Int) (n : Nat) (b : Int) (h : (b - a).toNat = n) : RVs T pa F (rng a n) (rgV a b) := by
  unfold rng rgV
  rw [h]
  have : ∀ l : List Nat, RVs T pa F (l.map fun k => D.int (a + (k : Nat))) (l.map fun i => V.int (a + (i : Nat))) := by
    intro l
    induction l with
    | nil => rfl
    | cons x r ih => exact .cons rfl ih
  exact this _
theorem s_lit {it : Ev.It} (ha : ∀ e, it = .r1 e → SE T k cl e) (hb : ∀ e f, it = .r2 e f → SE T k cl e ∧ SE T k cl f) : SE T k cl (.lit it) := by
  refine SE.mkM (fun c X a W C h => ?_) (fun ρ pl d pl' h => ?_) fun c a h => ?_
  · unfold chkE at h
    split at h
    · rename_i x xp y pos
      simp only [Bool.and_eq_true] at h
      obtain ⟨⟨⟨h1, h2⟩, h3⟩, h4⟩ := h
      cases of_decide_eq_true h1
      obtain ⟨g1, g2, g3, g4⟩ := C.fr W h2
      split at h4
      · rename_i p
        unfold chkIt at h4
        split at h4
        · rename_i x2 xp2 y2 pos2
          simp only [Bool.and_eq_true] at h4
          obtain ⟨⟨⟨⟨k1, k2⟩, k3⟩, k4⟩, k5⟩ := h4
          cases of_decide_eq_true k1
          obtain ⟨f1, f2, f3, f4⟩ := C.fr W k2
          refine PE.of (pe_listRg C.calm g1 g2 (prg_1 f1 f2 ((ha _ rfl).val c X _ W C k3 (by simpa using k5)) (star_of k4)) (star_of h3)) fun σ H Q ⟨pa, F, ρ, pl, d, pl', g, e1, f⟩ => ?_
          rw [evE] at e1
          obtain ⟨xs, q1, e2, e3⟩ := bnd_ok e1
          cases e3
          rw [evIt] at e2
          obtain ⟨d1, q2, e4, e5⟩ := bnd_ok e2
          split at e5
          · rename_i n en
            cases intOf_some en
            split at e5
            · rename_i hs
              cases e5
              refine ⟨pa, F, ρ, pl, .int n, pl', g, e4, fun v F1 H1 x1 s1 r1 => ⟨n, r1, ⟨by decide, by decide, (small_ok hs.1).1, (small_ok hs.1).2, ?_⟩, fun q hq => ?_⟩⟩
              · have := hs.2; unfold LIM at this; omega
              · exact (f.shift x1 g.free).laidL s1 (rgV_rv 0 n.toNat n (by rw [Int.sub_zero])) hq
            · cases e5
          · cases e5
        · cases h4
      · rename_i p r
        unfold chkIt at h4
        split at h4
        · rename_i x2 xp2 y2 z2 pos2
          simp only [Bool.and_eq_true] at h4
          obtain ⟨⟨⟨⟨⟨⟨⟨k1, k2⟩, k3⟩, k4⟩, k5⟩, k6⟩, k7⟩, k8⟩ := h4
          cases of_decide_eq_true k1
          obtain ⟨f1, f2, f3, f4⟩ := C.fr W k2
          have st1 : starEach [y2, z2] X.env = (false, eval y2 X.env) :: starEach [z2] X.env := star_of k4
          have st2 : starEach [z2] X.env = (false, eval z2 X.env) :: starEach [] X.env := star_of k6
          refine PE.of (pe_listRg C.calm g1 g2 (prg_2 f1 f2 ((hb _ _ rfl).1.val c X _ W C k3 (by simpa using k7)) ((hb _ _ rfl).2.val c X _ W C k5 (by simpa using k8)) st1 st2 (by rw [st2]; rfl)) (star_of h3)) fun σ H Q ⟨pa, F, ρ, pl, d, pl', g, e1, f⟩ => ?_
          rw [evE] at e1
          obtain ⟨xs, q1, e2, e3⟩ := bnd_ok e1
          cases e3
          rw [evIt] at e2
          obtain ⟨d1, q2, e4, e5⟩ := bnd_ok e2
          obtain ⟨d2, q3, e6, e7⟩ := bnd_ok e5
          split at e7
          · rename_i i j ei ej
            cases intOf_some ei; cases intOf_some ej
            split at e7
            · rename_i hs
              cases e7
              refine ⟨pa, F, ρ, pl, .int i, q2, g, e4, fun v F1 H1 x1 s1 r1 => ⟨pa, F1, ρ, q2, .int j, pl', g.ext x1 s1, e6, fun u F2 H2 x2 s2 r2 => ⟨i, j, r1, r2, ⟨(small_ok hs.1).1, (small_ok hs.1).2, (small_ok hs.2.1).1, (small_ok hs.2.1).2, ?_⟩, fun q hq => ?_⟩⟩⟩
              · have := hs.2.2; unfold LIM at this; omega
              · exact (f.shift (x1.tr x2 s2) g.free).laidL s2 (rgV_rv i (j - i).toNat j rfl) hq
            · cases e7
          · cases e7
        · cases h4
      · cases h4
    · cases h
  · rw [evE] at h
    obtain ⟨xs, q1, e2, e3⟩ := bnd_ok h
    cases e3
    exact .inl ⟨_, rfl⟩
  · unfold chkE at h
    split at h
    · exact ⟨fun _ _ => rfl, fun _ _ _ z => by cases z⟩
    · cases h
/-! ### tuple(reversed(..)) -/
theorem s_rvt {p : E} (hp : SE T k cl p) : SE T k cl (.rvt p) := by
  refine SE.mk1 (fun c X a W C h => ?_) rfl fun c a h => ?_
  · unfold chkE at h
    split at h
    · simp only [Bool.and_eq_true] at h
      obtain ⟨⟨⟨⟨⟨h1, h2⟩, h3⟩, h4⟩, h5⟩, h6⟩ := h
      cases of_decide_eq_true h1
      cases of_decide_eq_true h3
      obtain ⟨g1, g2, _, _⟩ := C.fr W h2
      obtain ⟨f1, f2, _, _⟩ := C.fr W h4
      refine PE.of (PE.or (RT.pe_tupRev C.calm g1 g2 f1 f2 (hp.pk c X _ W C h5) (star_of h6) rfl) (EvR.pe_tupRevT C.calm g1 g2 f1 f2 (hp.pk c X _ W C h5) (star_of h6) rfl)) fun σ H Q ⟨pa, F, ρ, pl, d, pl', g, e1, f⟩ => ?_
      rw [evE] at e1
      obtain ⟨x, q1, e2, e3⟩ := bnd_ok e1
      split at e3
      · rename_i l
        cases e3
        refine .inr ⟨pa, F, ρ, pl, .tup l, pl', g, e2, fun v F1 H1 x1 s1 r1 => ?_⟩
        obtain ⟨b, vs, rfl, h1, t1, h2⟩ := r1.tup s1
        exact ⟨b, vs, rfl, C.K ▸ h1, fun q hq => (f.shift x1).laid s1 h2.reverse hq⟩
      · rename_i l
        cases e3
        refine .inl ⟨pa, F, ρ, pl, .lst l, pl', g, e2, fun v F1 H1 x1 s1 r1 => ?_⟩
        obtain ⟨b, vs, rfl, h1, h2⟩ := r1.lst s1
        exact ⟨b, vs, rfl, SqL.of h1, fun q hq => (f.shift x1).laid s1 h2.reverse hq⟩
      · cases e3
    · cases h
  · unfold chkE at h
    split at h
    · exact ⟨fun _ _ => rfl, fun _ _ _ z => by cases z⟩
    · cases h
/-! ### {k: v, ..} -/
def trs (T : Tb) (cl : Call) : List Key → Es → List (TE × TE)
  | k :: ks, .cons e es => (L2.tC (kV k), tE T cl e) :: trs T cl ks es
  | _, _ => []
theorem isKey_ok {X : Cx} {k : Key} {e : Option Expr} (h : isKey k e = true) : ∃ a, e = some a ∧ PE X a (L2.tC (kV k)) := by
  unfold isKey at h
  split at h
  · cases of_decide_eq_true h
    exact ⟨_, rfl, pe_int⟩
  · cases of_decide_eq_true h
    exact ⟨_, rfl, pe_str⟩
  · cases h
def SEp (T : Tb) (k : Nat) (cl : Call) (es : Es) : Prop := ∀ c X pos ks keys values, World0 T k cl c.g c.fr → CtxOk T k c X → areKeys ks keys = true → chkEs c es values = true → keys.length = values.length → PPs X pos keys values (trs T cl ks es)
theorem sep_nil : SEp T k cl .nil := fun c X pos ks keys values W C h1 h2 h3 => by
  unfold chkEs at h2
  cases List.isEmpty_iff.mp h2
  cases List.length_eq_zero_iff.mp h3
  cases ks with
  | nil => exact pps_nil
  | cons a r => cases h1
theorem sep_cons {e : E} {es : Es} (he : SE T k cl e) (hs : SEp T k cl es) : SEp T k cl (.cons e es) := fun c X pos ks keys values W C h1 h2 h3 => by
  unfold chkEs at h2
  split at h2
  · simp only [Bool.and_eq_true] at h2
    obtain ⟨⟨⟨k1, k2⟩, k3⟩, k4⟩ := h2
    cases keys with
    | nil => cases h3
    | cons key keys =>
      cases ks with
      | nil => cases h1
      | cons kk ks =>
        unfold areKeys at h1
        rw [Bool.and_eq_true] at h1
        obtain ⟨a, rfl, pk⟩ := isKey_ok (X := X) h1.1
        exact pps_cons pk (he.val c X _ W C k1 (by simpa using k3)) (hs c X pos ks keys _ W C h1.2 k4 (by simpa using h3))
  · cases h2
theorem trs_go : ∀ (es : Es) (ks : List Key) (pa : Option Addr) (F : Hp) (ρ : Rho) (pl pl' : Pl) (ds : List D) (σ : L2.St) (H : Hp) (Q : List (V × V) → Hp → Prop), Gd T pa F ρ pl σ H → evEs cl es ρ pl = some (.ok ds pl') → ds.length = ks.length →
    (∀ vs F' H', Ext pa F H F' H' → Sit T pa F' H' pl' → RVs T pa F' ds vs → Q ((ks.map kV).zip vs) H') → tPairs (trs T cl ks es) σ H Q
  | .nil, ks, pa, F, ρ, pl, pl', ds, σ, H, Q, g, e, hl, f => by
    cases e
    cases List.length_eq_zero_iff.mp hl.symm
    exact f [] F H .refl g.sit rfl
  | .cons e es, ks, pa, F, ρ, pl, pl', ds, σ, H, Q, g, ev, hl, f => by
    rw [evEs] at ev
    obtain ⟨d, q, e2, e3⟩ := bnd_ok ev
    obtain ⟨ds', q', e4, e5⟩ := bnd_ok e3
    cases e5
    cases ks with
    | nil => cases hl
    | cons kk ks =>
      refine ⟨pa, F, ρ, pl, d, q, g, e2, fun v F1 H1 x1 s1 r1 => ?_⟩
      refine trs_go es ks pa F1 ρ q pl' ds' σ H1 _ (g.ext x1 s1) e4 (by simpa using hl) fun vs F2 H2 x2 s2 r2 => ?_
      exact f (v :: vs) F2 H2 (x1.tr x2 s2) s2 (.cons (RV.mono x2.sub (.inr rfl) _ _ r1) r2)
theorem rvk_zip {pa : Option Addr} {F : Hp} : ∀ {ks : List Key} {ds : List D} {vs : List V}, RVs T pa F ds vs → RVk T pa F (ks.zip ds) (ks.zip vs)
  | [], _, _, _ => rfl
  | _ :: _, [], _, h => by cases (show _ = [] from h); rfl
  | k :: ks, d :: ds, _, h => by
    obtain ⟨v, r, rfl, h1, h2⟩ := h
    exact ⟨v, _, rfl, h1, rvk_zip h2⟩
theorem mergeK_new : ∀ (more acc : List (Key × V)), ((acc ++ more).map (·.1)).Nodup → mergeK acc more = acc ++ more
  | [], acc, _ => by simp [mergeK]
  | p :: more, acc, h => by
    have e : putK acc p.1 p.2 = acc ++ [p] := by
      refine putK_new p.2 ?_
      unfold valV
      rw [List.find?_eq_none.mpr]
      · rfl
      · intro x hx
        simp only [List.map_append, List.map_cons, List.nodup_append] at h
        have := h.2.2 x.1 (List.mem_map_of_mem hx) p.1 List.mem_cons_self
        simpa using this
    show mergeK (putK acc p.1 p.2) more = _
    rw [e, mergeK_new more (acc ++ [p]) (by simpa using h)]
    simp
theorem s_dct {ks : List Key} {es : Es} (hs : SEp T k cl es) : SE T k cl (.dct ks es) := by
  have key : ∀ {ρ : Rho} {pl pl' : Pl} {d : D}, evE cl (.dct ks es) ρ pl = some (.ok d pl') → ∃ ds, evEs cl es ρ pl = some (.ok ds pl') ∧ ds.length = ks.length ∧ ks.Nodup ∧ d = .dct (ks.zip ds) := by
    intro ρ pl pl' d h
    rw [evE] at h
    obtain ⟨ds, q1, e2, e3⟩ := bnd_ok h
    split at e3
    · rename_i hl
      cases e3
      exact ⟨ds, e2, hl.1, hl.2, rfl⟩
    · cases e3
  refine SE.mkM (fun c X a W C h => ?_) (fun ρ pl d pl' h => ?_) fun c a h => ?_
  · unfold chkE at h
    split at h
    · rename_i keys values pos
      simp only [Bool.and_eq_true] at h
      obtain ⟨⟨⟨h1, h2⟩, h3⟩, h4⟩ := h
      have h3 := of_decide_eq_true h3
      have h4 := of_decide_eq_true h4
      have hall : ∀ (ks : List Key) (keys : List (Option Expr)), areKeys ks keys = true → keys.all (·.isSome) = true ∧ ks.length = keys.length := by
        intro ks
        induction ks with
        | nil =>
          intro keys h
          cases keys with
          | nil => exact ⟨rfl, rfl⟩
          | cons a r => cases h
        | cons a r ih =>
          intro keys h
          cases keys with
          | nil => cases h
          | cons b s =>
            unfold areKeys at h
            rw [Bool.and_eq_true] at h
            obtain ⟨x, rfl, _⟩ := isKey_ok (X := X) h.1
            obtain ⟨i1, i2⟩ := ih s h.2
            exact ⟨by simpa using i1, by simp [i2]⟩
      obtain ⟨a1, a2⟩ := hall ks keys h1
      by_cases hne : keys = []
      · subst hne
        cases values with
        | cons a r => cases h3
        | nil =>
          have hk : ks = [] := List.length_eq_zero_iff.mp a2
          subst hk
          refine PE.of pe_dnewK fun σ H Q ⟨pa, F, ρ, pl, d, pl', g, e1, f⟩ => ?_
          obtain ⟨ds, e2, hl, hn, rfl⟩ := key e1
          cases es with
          | cons e es => unfold chkEs at h2; cases h2
          | nil =>
            cases e2
            intro p hp
            refine f p F _ (Ext.newH g.sit hp) (Sit.newH g.sit hp) ?_ ?_ hp ⟨[], upd_same, rfl⟩
            · cases q : F p with
              | none => rfl
              | some u => rw [g.sit.sub p u q] at hp; cases hp
            · intro e
              obtain ⟨us, h, _⟩ := g.sit.pool p e
              rw [hp] at h; cases h
      · refine PE.of (pe_disp (hs c X _ ks keys values W C h1 h2 h3) a1 h3 hne h4) fun σ H Q ⟨pa, F, ρ, pl, d, pl', g, e1, f⟩ => ?_
        obtain ⟨ds, e2, hl, hn, rfl⟩ := key e1
        intro p hp
        have np : pa ≠ some p := by
          intro e
          obtain ⟨us, h, _⟩ := g.sit.pool p e
          rw [hp] at h; cases h
        have nF : F p = none := by
          cases q : F p with
          | none => rfl
          | some u => rw [g.sit.sub p u q] at hp; cases hp
        have x0 : Ext pa F H F (upd H p (.dK [])) := Ext.newH g.sit hp
        have g0 := g.ext x0 (Sit.newH g.sit hp)
        refine trs_go es ks pa F ρ pl pl' ds σ _ _ g0 e2 hl fun vs F1 H1 x1 s1 r1 => ?_
        have hH1 : H1 p = some (.dK []) := x1.keep p _ upd_same np
        have nF1 : F1 p = none := own_out x1 upd_same nF
        refine ⟨hH1, ks.zip vs, ?_, ?_, ?_⟩
        · have : ∀ (ks : List Key) (vs : List V), (ks.map kV).zip vs = (ks.zip vs).map fun kv => (kV kv.1, kv.2) := by
            intro ks
            induction ks with
            | nil => intro vs; rfl
            | cons a r ih => intro vs; cases vs with
              | nil => rfl
              | cons b s => simp [ih]
          exact this ks vs
        · rw [List.length_zip, r1.len, hl]; omega
        · have hmm : mergeK [] (ks.zip vs) = ks.zip vs := by
            rw [mergeK_new]
            · simp
            · rw [List.nil_append, List.map_fst_zip (by rw [r1.len, hl]; exact Nat.le_refl _)]
              exact hn
          rw [hmm]
          have xx : Ext pa F H F1 (upd H1 p (.dK (ks.zip vs))) := ⟨fun a u h n => by
            rw [upd_ne (ne_of_none h hp)]
            exact x1.keep a u (x0.keep a u h n) n, x1.sub, fun a u h => (x0.tr x1 s1).fresh a u h⟩
          refine f p F1 _ xx ⟨fun a u h => ?_, s1.out, fun a e => ?_⟩ nF1 np hp ⟨_, upd_same, rvk_zip r1⟩
          · rw [upd_ne (fun z => by rw [z, nF1] at h; cases h)]; exact s1.sub a u h
          · obtain ⟨us, q1, q2⟩ := s1.pool a e
            exact ⟨us, by rw [upd_ne (fun z => np (by rw [← z]; exact e))]; exact q1, q2⟩
    · cases h
  · obtain ⟨ds, e2, hl, hn, rfl⟩ := key h
    exact .inr ⟨_, rfl⟩
  · unfold chkE at h
    split at h
    · exact ⟨fun _ _ => rfl, fun _ _ _ z => by cases z⟩
    · cases h
end
end Ev

set_option Elab.async false
set_option linter.all false
set_option maxRecDepth 100000
set_option maxHeartbeats 4000000
/-! Ev11: all expressions; statements. -/
namespace Ev
open PySem PySem.Spec PyProof.Rows L2
section
variable {T : Tb} {k : Nat} {cl : Call}
theorem s_dnew : SE T k cl .dnew where
  pk := fun c X a W C h => by unfold chkE at h; cases h
  val := fun c X a W C h => by unfold chkE at h; cases h
  new := fun c X a W C h => by unfold chkE at h; cases h
  tst := fun c X a W C h => by unfold chkE at h; cases h
  pw := fun c X op vs pos W C h => by unfold chkE at h; cases h
mutual
theorem allE : ∀ e : E, SE T k cl e
  | .non => s_non
  | .bl _ => s_bl
  | .int _ => s_int
  | .str _ => s_str
  | .var _ => s_var
  | .pk _ => s_pk
  | .glo _ _ => s_glo
  | .tup es => s_tup (allEs es)
  | .lst es => s_lst (allEs es)
  | .dnew => s_dnew
  | .bin _ a b => s_bin (allE a) (allE b)
  | .cmp _ a b => s_cmp (allE a) (allE b)
  | .chain _ _ a b c => s_chain (allE a) (allE b) (allE c)
  | .neg a => s_neg (allE a)
  | .nt a => s_nt (allE a)
  | .an a b => s_an (allE a) (allE b)
  | .orr a b => s_or (allE a) (allE b)
  | .ite c a b => s_ite (allE c) (allE a) (allE b)
  | .call _ _ es => s_call (allEs es)
  | .callv _ es => s_callv (allEs es)
  | .bi _ a => s_bi (allE a)
  | .bi2 _ a b => s_bi2 (allE a) (allE b)
  | .isin a _ => s_isin (allE a)
  | .ix a b => s_ix (allE a) (allE b)
  | .slc a lo hi => s_slc (allE a) (allO lo) (allO hi)
  | .rev a => s_rev (allE a)
  | .lc _ _ it c e => s_lc (allI it) (allC c) (allE e)
  | .lc2 _ _ _ it _ it1 c e => s_lc2 (allI it) (allI it1) (allC c) (allE e)
  | .cat a b => s_cat (allE a) (allE b)
  | .lit (.r1 a) => s_lit (fun e h => by cases h; exact allE a) (fun e f h => by cases h)
  | .lit (.r2 a b) => s_lit (fun e h => by cases h) (fun e f h => by cases h; exact ⟨allE a, allE b⟩)
  | .lit (.seq _) => s_lit (fun e h => by cases h) (fun e f h => by cases h)
  | .lit (.r3 _ _ _) => s_lit (fun e h => by cases h) (fun e f h => by cases h)
  | .lit (.zip _ _) => s_lit (fun e h => by cases h) (fun e f h => by cases h)
  | .lit (.enum _) => s_lit (fun e h => by cases h) (fun e f h => by cases h)
  | .dct _ es => s_dct (allEp es)
  | .rvt a => s_rvt (allE a)
theorem allEp : ∀ es : Es, SEp T k cl es
  | .nil => sep_nil
  | .cons e es => sep_cons (allE e) (allEp es)
theorem allEs : ∀ es : Es, SEs T k cl es
  | .nil => s_nil
  | .cons e es => s_cons (allE e) (allEs es)
theorem allO : ∀ e : Eo, SO T k cl e
  | .none => so_none
  | .some e => so_some (allE e)
theorem allC : ∀ e : Eo, SC T k cl e
  | .none => sc_none
  | .some e => sc_some (allE e)
theorem allI : ∀ it : Ev.It, SI T k cl it
  | .seq e => si_seq (allE e)
  | .r1 a => si_r1 (allE a)
  | .r2 a b => si_r2 (allE a) (allE b)
  | .r3 a b _ => si_r3 (allE a) (allE b)
  | .zip a b => si_zip (allE a) (allE b)
  | .enum _ => si_enum
end
end
end Ev

set_option Elab.async false
set_option linter.all false
set_option maxRecDepth 100000
set_option maxHeartbeats 4000000
/-! Ev12: statements, one by one. -/
namespace Ev
open PySem PySem.Spec PyProof.Rows L2
/-- the state within a def: it began at F0, H0; own lists are younger -/
structure GB (T : Tb) (pa : Option Addr) (F0 H0 F : Hp) (ρ : Rho) (pl : Pl) (σ : L2.St) (H : Hp) : Prop where
  gd : Gd T pa F ρ pl σ H
  ex : Ext pa F0 H0 F H
  fr : ∀ (i : Nat) (d : D) (a : Addr), ρ[i]? = some (some (Sl.own d)) → σ[i]? = some (some (V.ref a)) → H0 a = none
section
variable {T : Tb} {k : Nat} {cl : Call} {pa : Option Addr} {F0 H0 F F' H H' : Hp} {ρ : Rho} {pl pl' : Pl} {σ : L2.St}
theorem GB.ext (g : GB T pa F0 H0 F ρ pl σ H) (e : Ext pa F H F' H') (s : Sit T pa F' H' pl') : GB T pa F0 H0 F' ρ pl' σ H' := ⟨g.gd.ext e s, g.ex.tr e s, g.fr⟩
theorem GB.set {d : D} {v : V} (g : GB T pa F0 H0 F ρ pl σ H) (r : RV T pa F d v) (i : Nat) : GB T pa F0 H0 F (ρ.set i (some (.val d))) pl (σ.set i (some v)) H where
  gd := g.gd.set r i
  ex := g.ex
  fr := fun j d' a h1 h2 => by
    rw [List.getElem?_set] at h1 h2
    by_cases e : i = j
    · rw [if_pos e] at h1
      split at h1 <;> cases h1
    · rw [if_neg e] at h1 h2
      exact g.fr j d' a h1 h2
/-- what was there ahead -/
theorem Ext.none_of {p : Addr} (e : Ext pa F H F' H') (h : H' p = none) (n : pa ≠ some p) : H p = none := by
  cases q : H p with
  | none => rfl
  | some u => rw [e.keep _ _ q n] at h; cases h
theorem GB.setN {d : D} {p : Addr} (g : GB T pa F0 H0 F ρ pl σ H) (e : Ext pa F H F' H') (s : Sit T pa F' H' pl') (h1 : F' p = none) (h2 : pa ≠ some p) (h3 : H p = none) (r : RO T pa F' H' d p) (i : Nat) : GB T pa F0 H0 F' (ρ.set i (some (.own d))) pl' (σ.set i (some (.ref p))) H' := by
  have g' := g.ext e s
  have old : ∀ (j : Nat) (d' : D) (a : Addr), ρ[j]? = some (some (Sl.own d')) → σ[j]? = some (some (V.ref a)) → a ≠ p := fun j d' a e1 e2 z => by
    obtain ⟨b, q1, _, _, q2⟩ := g.gd.own j d' e1
    rw [e2] at q1; cases q1
    obtain ⟨o, q3⟩ := q2.there
    rw [z, h3] at q3; cases q3
  have hp0 : H0 p = none := g.ex.none_of h3 h2
  refine ⟨⟨s, ?_, fun j d' h => ?_, fun j d' h => ?_, fun a b d1 d2 x e1 e2 e3 e4 => ?_⟩, g'.ex, fun j d' a e1 e2 => ?_⟩
  · rw [List.length_set, List.length_set]; exact g.gd.len
  · rw [List.getElem?_set] at h ⊢
    by_cases e : i = j
    · rw [if_pos e] at h
      split at h <;> cases h
    · rw [if_neg e] at h ⊢
      exact g'.gd.val j d' h
  · rw [List.getElem?_set] at h ⊢
    have hl := g.gd.len
    by_cases e : i = j
    · rw [if_pos e] at h ⊢
      split at h
      · cases h
        rw [if_pos (by omega)]
        exact ⟨p, rfl, h1, h2, r⟩
      · cases h
    · rw [if_neg e] at h ⊢
      exact g'.gd.own j d' h
  · rw [List.getElem?_set] at e1 e2 e3 e4
    by_cases ea : i = a
    · by_cases eb : i = b
      · exact ea.symm.trans eb
      · rw [if_pos ea] at e1 e3
        rw [if_neg eb] at e2 e4
        split at e3
        · cases e3
          exact (old _ _ _ e2 e4 rfl).elim
        · cases e3
    · rw [if_neg ea] at e1 e3
      by_cases eb : i = b
      · rw [if_pos eb] at e2 e4
        split at e4
        · cases e4
          exact (old _ _ _ e1 e3 rfl).elim
        · cases e4
      · rw [if_neg eb] at e2 e4
        exact g'.gd.apart a b d1 d2 x e1 e2 e3 e4
  · rw [List.getElem?_set] at e1 e2
    by_cases e : i = j
    · rw [if_pos e] at e1 e2
      split at e2
      · cases e2; exact hp0
      · cases e2
    · rw [if_neg e] at e1 e2
      exact g.fr j d' a e1 e2
/-- the own list at a is written -/
theorem GB.mut {d d' : D} {a : Addr} {o : HO} {i : Nat} (g : GB T pa F0 H0 F ρ pl σ H) (h1 : ρ[i]? = some (some (.own d))) (h2 : σ[i]? = some (some (V.ref a))) (r : RO T pa F (upd H a o) d' a) : GB T pa F0 H0 F (ρ.set i (some (.own d'))) pl σ (upd H a o) := by
  obtain ⟨b, e1, n1, n2, _⟩ := g.gd.own i d h1
  rw [h2] at e1; cases e1
  have n0 := g.fr i d a h1 h2
  have s : Sit T pa F (upd H a o) pl := ⟨fun x u h => by rw [upd_ne (fun z => by rw [z, n1] at h; cases h)]; exact g.gd.sit.sub x u h, g.gd.sit.out, fun x e => by
    obtain ⟨vs, q1, q2⟩ := g.gd.sit.pool x e
    exact ⟨vs, by rw [upd_ne (fun z => n2 (by rw [← z]; exact e))]; exact q1, q2⟩⟩
  refine ⟨⟨s, by rw [List.length_set]; exact g.gd.len, fun j d2 h => ?_, fun j d2 h => ?_, fun x y d1 d2 c q1 q2 q3 q4 => ?_⟩, ⟨fun x u h n => ?_, g.ex.sub, g.ex.fresh⟩, fun j d2 c q1 q2 => ?_⟩
  · rw [List.getElem?_set] at h
    by_cases e : i = j
    · rw [if_pos e] at h
      split at h <;> cases h
    · rw [if_neg e] at h
      exact g.gd.val j d2 h
  · rw [List.getElem?_set] at h
    by_cases e : i = j
    · rw [if_pos e] at h
      split at h
      · cases h
        subst e
        exact ⟨a, h2, n1, n2, r⟩
      · cases h
    · rw [if_neg e] at h
      obtain ⟨c, q1, q2, q3, q4⟩ := g.gd.own j d2 h
      refine ⟨c, q1, q2, q3, ?_⟩
      have ne : c ≠ a := fun z => e (g.gd.apart i j d d2 a h1 h h2 (z ▸ q1))
      cases d2 <;> simp only [RO] at q4 ⊢
      · obtain ⟨vs, w1, w2⟩ := q4
        exact ⟨vs, by rw [upd_ne ne]; exact w1, w2⟩
      · obtain ⟨vs, w1, w2⟩ := q4
        exact ⟨vs, by rw [upd_ne ne]; exact w1, w2⟩
  · rw [List.getElem?_set] at q1 q2
    by_cases ex : i = x
    · by_cases ey : i = y
      · exact ex.symm.trans ey
      · rw [if_neg ey] at q2
        subst ex
        exact g.gd.apart i y d d2 c h1 q2 q3 q4
    · rw [if_neg ex] at q1
      by_cases ey : i = y
      · subst ey
        exact g.gd.apart x i d1 d c q1 h1 q3 q4
      · rw [if_neg ey] at q2
        exact g.gd.apart x y d1 d2 c q1 q2 q3 q4
  · rw [upd_ne (fun z => by rw [z, n0] at h; cases h)]
    exact g.ex.keep x u h n
  · rw [List.getElem?_set] at q1
    by_cases e : i = j
    · subst e
      exact g.fr i d c h1 q2
    · rw [if_neg e] at q1
      exact g.fr j d2 c q1 q2
/-- an own list is shared from now on -/
theorem GB.frz {d : D} {i : Nat} (g : GB T pa F0 H0 F ρ pl σ H) (h1 : ρ[i]? = some (some (.own d))) : ∃ F', Sub F F' ∧ GB T pa F0 H0 F' (ρ.set i (some (.val d))) pl σ H := by
  obtain ⟨a, h2, n1, n2, r⟩ := g.gd.own i d h1
  obtain ⟨o, ho⟩ := r.there
  have n0 := g.fr i d a h1 h2
  have sb : Sub F (upd F a o) := fun x u h => by rw [upd_ne (fun z => by rw [z, n1] at h; cases h)]; exact h
  have s : Sit T pa (upd F a o) H pl := ⟨fun x u h => by
    by_cases e : x = a
    · subst e; rw [upd_same] at h; cases h; exact ho
    · rw [upd_ne e] at h; exact g.gd.sit.sub x u h, fun x e => by rw [upd_ne (fun z => n2 (by rw [← z]; exact e))]; exact g.gd.sit.out x e, fun x e => by
    obtain ⟨vs, q1, q2⟩ := g.gd.sit.pool x e
    exact ⟨vs, q1, RVs.mono sb (.inr rfl) _ _ q2⟩⟩
  refine ⟨upd F a o, sb, ⟨s, by rw [List.length_set]; exact g.gd.len, fun j d2 h => ?_, fun j d2 h => ?_, fun x y d1 d2 c q1 q2 q3 q4 => ?_⟩, ⟨g.ex.keep, fun x u h => sb x u (g.ex.sub x u h), fun x u h => ?_⟩, fun j d2 c q1 q2 => ?_⟩
  · rw [List.getElem?_set] at h
    by_cases e : i = j
    · rw [if_pos e] at h
      split at h
      · cases h
        subst e
        refine ⟨.ref a, h2, ?_⟩
        cases d <;> simp only [RO] at r
        · obtain ⟨vs, w1, w2⟩ := r
          rw [ho] at w1; cases w1
          exact ⟨a, vs, rfl, upd_same, RVs.mono sb (.inr rfl) _ _ w2⟩
        · obtain ⟨vs, w1, w2⟩ := r
          rw [ho] at w1; cases w1
          exact ⟨a, vs, rfl, .inl upd_same, RVk.mono sb (.inr rfl) _ _ w2⟩
      · cases h
    · rw [if_neg e] at h
      obtain ⟨v, q1, q2⟩ := g.gd.val j d2 h
      exact ⟨v, q1, RV.mono sb (.inr rfl) _ _ q2⟩
  · rw [List.getElem?_set] at h
    by_cases e : i = j
    · rw [if_pos e] at h
      split at h <;> cases h
    · rw [if_neg e] at h
      obtain ⟨c, q1, q2, q3, q4⟩ := g.gd.own j d2 h
      have ne : c ≠ a := fun z => e (g.gd.apart i j d d2 a h1 h h2 (z ▸ q1))
      refine ⟨c, q1, by rw [upd_ne ne]; exact q2, q3, ?_⟩
      cases d2 <;> simp only [RO] at q4 ⊢
      · obtain ⟨vs, w1, w2⟩ := q4
        exact ⟨vs, w1, RVs.mono sb (.inr rfl) _ _ w2⟩
      · obtain ⟨vs, w1, w2⟩ := q4
        exact ⟨vs, w1, RVk.mono sb (.inr rfl) _ _ w2⟩
  · rw [List.getElem?_set] at q1 q2
    split at q1
    · split at q1 <;> cases q1
    · split at q2
      · split at q2 <;> cases q2
      · exact g.gd.apart x y d1 d2 c q1 q2 q3 q4
  · by_cases e : x = a
    · subst e; exact .inr n0
    · rw [upd_ne e] at h; exact g.ex.fresh x u h
  · rw [List.getElem?_set] at q1
    split at q1
    · split at q1 <;> cases q1
    · exact g.fr j d2 c q1 q2
/-- the pool's list is written -/
theorem GB.pput {p : Addr} {vs : List V} (g : GB T pa F0 H0 F ρ pl σ H) (hp : pa = some p) (r : RVs T pa F pl' vs) : GB T pa F0 H0 F ρ pl' σ (upd H p (.lst vs)) := by
  have n1 := g.gd.sit.out p hp
  have s : Sit T pa F (upd H p (.lst vs)) pl' := ⟨fun x u h => by rw [upd_ne (fun z => by rw [z, n1] at h; cases h)]; exact g.gd.sit.sub x u h, g.gd.sit.out, fun x e => by
    rw [hp] at e; cases e
    exact ⟨vs, upd_same, r⟩⟩
  refine ⟨⟨s, g.gd.len, g.gd.val, fun j d2 h => ?_, g.gd.apart⟩, ⟨fun x u h n => ?_, g.ex.sub, g.ex.fresh⟩, g.fr⟩
  · obtain ⟨c, q1, q2, q3, q4⟩ := g.gd.own j d2 h
    refine ⟨c, q1, q2, q3, ?_⟩
    have ne : c ≠ p := fun z => q3 (by rw [hp, z])
    cases d2 <;> simp only [RO] at q4 ⊢
    · obtain ⟨us, w1, w2⟩ := q4
      exact ⟨us, by rw [upd_ne ne]; exact w1, w2⟩
    · obtain ⟨us, w1, w2⟩ := q4
      exact ⟨us, by rw [upd_ne ne]; exact w1, w2⟩
  · rw [upd_ne (fun z => n (by rw [hp, z]))]
    exact g.ex.keep x u h n
end
end Ev

set_option Elab.async false
set_option linter.all false
set_option maxRecDepth 100000
set_option maxHeartbeats 4000000
/-! Ev13: statements. -/
namespace Ev
open PySem PySem.Spec PyProof.Rows L2
def Done (T : Tb) (pa : Option Addr) (F0 H0 F : Hp) (D : Ends) : SOut → Prop
  | .nx ρ pl => ∀ σ F' H', GB T pa F0 H0 F' ρ pl σ H' → Sub F F' → D.nx σ H'
  | .bk ρ pl => ∀ σ F' H', GB T pa F0 H0 F' ρ pl σ H' → Sub F F' → D.bk σ H'
  | .ct ρ pl => ∀ σ F' H', GB T pa F0 H0 F' ρ pl σ H' → Sub F F' → D.ct σ H'
  | .rt d pl => ∀ v F' H', Ext pa F0 H0 F' H' → Sit T pa F' H' pl → RV T pa F' d v → D.rt v H'
  | .ex _ _ => False
def tS (T : Tb) (cl : Call) (s : S) : TS := fun D σ H => ∃ pa F0 H0 F ρ pl r, GB T pa F0 H0 F ρ pl σ H ∧ evS cl s ρ pl = some r ∧ Done T pa F0 H0 F D r
def tSs (T : Tb) (cl : Call) (s : Ss) : TS := fun D σ H => ∃ pa F0 H0 F ρ pl r, GB T pa F0 H0 F ρ pl σ H ∧ evSs cl s ρ pl = some r ∧ Done T pa F0 H0 F D r
theorem PS.of {X : Cx} {e : Stmt} {t t' : TS} (h : PS X e t) (w : ∀ D σ H, t' D σ H → t D σ H) : PS X e t' := ⟨fun pins s σ H D I q => h.run pins s σ H D I (w D σ H q)⟩
theorem PSs.of {X : Cx} {e : List Stmt} {t t' : TS} (h : PSs X e t) (w : ∀ D σ H, t' D σ H → t D σ H) : PSs X e t' := ⟨fun pins s σ H D I q => h.run pins s σ H D I (w D σ H q)⟩
def SS (T : Tb) (k : Nat) (cl : Call) (s : S) : Prop := ∀ c X a, World0 T k cl c.g c.fr → CtxOk T k c X → PassesOwn (model X.prog X.w) X.A X.env X.xe → chkS c s a = true → PS X a (tS T cl s)
def SSs (T : Tb) (k : Nat) (cl : Call) (s : Ss) : Prop := ∀ c X as, World0 T k cl c.g c.fr → CtxOk T k c X → PassesOwn (model X.prog X.w) X.A X.env X.xe → chkSs c s as = true → PSs X as (tSs T cl s)
section
variable {T : Tb} {k : Nat} {cl : Call}
theorem Done.sub {pa : Option Addr} {F0 H0 F F' : Hp} {D : Ends} {r : SOut} (h : Done T pa F0 H0 F D r) (s : Sub F F') : Done T pa F0 H0 F' D r := by
  cases r with
  | nx ρ pl => exact fun σ F2 H2 g s2 => h σ F2 H2 g fun a o z => s2 a o (s a o z)
  | bk ρ pl => exact fun σ F2 H2 g s2 => h σ F2 H2 g fun a o z => s2 a o (s a o z)
  | ct ρ pl => exact fun σ F2 H2 g s2 => h σ F2 H2 g fun a o z => s2 a o (s a o z)
  | rt d pl => exact h
  | ex x pl => exact h
theorem bndS_ok {α : Type} {r : R α} {f : α → Pl → RS} {o : SOut} {pa : Option Addr} {F0 H0 F : Hp} {D : Ends} (h : bndS r f = some o) (d : Done T pa F0 H0 F D o) : ∃ a p, r = some (.ok a p) ∧ f a p = some o := by
  unfold bndS at h
  split at h
  · cases h
  · exact ⟨_, _, rfl, h⟩
  · cases h; exact d.elim
theorem sw_notComp {v : Expr} (h : notComp v = true) (t : Option Expr) (l : Nat) (env : Env) : swapsWith v t l env = pure false := by
  cases v <;> first | rfl | (simp [notComp] at h)
theorem sw_cell {elt : Expr} {gs : List Comprehension} {scope : Scope} {pos py : Pos} {y : Str} {l : Nat} {env : Env} (hy : env.scope.names.lookup y = some .cell) : swapsWith (.ListComp elt gs scope pos) (some (.Name y py)) l env = pure false := by
  have ky : env.kindOf y = some .cell := hy
  unfold swapsWith
  simp only [ky]
  have : (some NameKind.cell == some NameKind.local) = false := rfl
  simp only [this, Bool.and_false, Bool.false_and]
theorem CtxOk.cell {c : Ck} {X : Cx} (C : CtxOk T k c X) {x : Str} (h : c.sc.names.lookup x = some .cell) : X.env.scope.names.lookup x = some .cell := by
  obtain ⟨kd, e1, e2⟩ := C.sc _ _ h
  rcases e2 with rfl | ⟨e2, _⟩
  · exact e1
  · cases e2
theorem CtxOk.local {c : Ck} {X : Cx} (C : CtxOk T k c X) {x : Str} (h : c.sc.names.lookup x = some .local) : X.env.scope.names.lookup x = some .local := by
  obtain ⟨kd, e1, e2⟩ := C.sc _ _ h
  rcases e2 with rfl | ⟨e2, _⟩
  · exact e1
  · cases e2
/-- name = value, whatever the value's reading is -/
theorem ps_name {c : Ck} {X : Cx} {i : Nat} {x : Str} {px pos : Pos} {v : Expr} {te : TE} (C : CtxOk T k c X) (hl : c.loc i x = true) (he : PE X v te) (hn : notComp v = true) : PS X (.Assign [.Name x px] v pos) (tAsg te (gName i)) := by
  obtain ⟨l1, l2, l3⟩ := C.loc hl
  exact ps_set (C.N ▸ C.nd) l1 l2 he (sw_notComp hn _ _ _) l3
theorem comp_cases {c : Ck} {e : E} {elt : Expr} {gs : List Comprehension} {scope : Scope} {pos : Pos} (h : chkE c e (.ListComp elt gs scope pos) = true) : (∃ vs tg it t e', e = .lc vs tg it t e') ∨ ∃ vs vs1 tg it tg1 it1 t e', e = .lc2 vs vs1 tg it tg1 it1 t e' := by
  cases e <;> first
    | exact .inl ⟨_, _, _, _, _, rfl⟩
    | exact .inr ⟨_, _, _, _, _, _, _, _, rfl⟩
    | (unfold chkE at h; cases h)
/-- what a comprehension's reading is, whatever stands behind -/
theorem ps_comp {c : Ck} {X : Cx} {i : Nat} {x : Str} {px pos : Pos} {v : Expr} {e : E} (W : World0 T k cl c.g c.fr) (C : CtxOk T k c X) (hS : SE T k cl e) (hl : c.loc i x = true) (h : chkE c e v = true) (hn : compOk c x px v = true) (hN : e.isN = true) : PS X (.Assign [.Name x px] v pos) (tAsg (tN T cl e) (gName i)) := by
  unfold compOk at hn
  rw [Bool.or_eq_true, Bool.or_eq_true] at hn
  rcases hn with hn | hn | hn
  · exact ps_name C hl (hS.new c X v W C h hN) hn
  · unfold compSwap at hn
    split at hn
    · rename_i elt gs scope vp
      simp only [Bool.and_eq_true] at hn
      obtain ⟨⟨n1, n2⟩, n3⟩ := hn
      have hloc := C.local (of_decide_eq_true n1)
      have n3 : (scope.names.any fun (n, k) => n == x && (k == .local || k == .cell)) = false := by simpa using n3
      obtain ⟨l1, l2, l3⟩ := C.loc hl
      rcases comp_cases h with ⟨vs, tg, it, t, e', rfl⟩ | ⟨vs, vs1, tg, it, tg1, it1, t, e', rfl⟩
      · obtain ⟨elt, tgt, iter, ifs, scope, pos, ea, h2, h3, h4, h5, h6, h7, h8, h9⟩ := chk_lc h
        cases ea
        have ok := C.blkOk h4
        have Cb := fun s H A cs fp => C.blk ok.kind s H A cs fp
        exact PS.of (ps_setLc (own := ownOf c.N vs) C.calm (C.N ▸ C.nd) l1 hloc (sw_true C.kind hloc n2 n3) (allI it c X _ _ W C h3).1 ok (fun s H A cs fp => s_tg (Cb s H A cs fp) h5) (fun s H A cs fp => allC t { c with sc := scope } _ _ W (Cb s H A cs fp) h6) (fun s H A cs fp => (allE e').val { c with sc := scope } _ _ W (Cb s H A cs fp) h7 h8) (notSet_ok h2 _)) fun D σ H q => lc_reads (X := X) (c := c) h9 _ _ _ q
      · obtain ⟨elt, tgt, iter, tgt1, iter1, ifs1, scope, pos, ea, h2, h2', h3, h4, h5, h5', h6, h6', h7, h8, h9, h10, h11, h12⟩ := chk_lc2 h
        cases ea
        have ok := C.blkOk h4
        have Cb := fun s H A cs fp => C.blk ok.kind s H A cs fp
        have hv : ∀ i ∈ vs1, i ∈ (ownOf c.N vs).map (·.2) := fun i hi => by
          rw [own_slots]
          have := List.all_eq_true.mp h11 i hi
          simpa using this
        exact PS.of (ps_setLc2 (own := ownOf c.N vs) (vs1 := vs1) C.calm (C.N ▸ C.nd) l1 hloc (sw_true C.kind hloc n2 n3) (allI it c X _ _ W C h3).1 ok hv (fun s H A cs fp => s_tg (Cb s H A cs fp) h5) (fun s H A cs fp => pts_nil) (fun s H A cs fp => (allI it1 { c with sc := scope } _ _ _ W (Cb s H A cs fp) h5').2 h12) (fun s H A cs fp => s_tg (Cb s H A cs fp) h6) (fun s H A cs fp => allC t { c with sc := scope } _ _ W (Cb s H A cs fp) h6') (fun s H A cs fp => (allE e').val { c with sc := scope } _ _ W (Cb s H A cs fp) h7 h8) (notSet_ok h2 _) (notSet_ok h2')) fun D σ H q => lc2_reads (X := X) (c := c) h9 h10 _ _ _ q
    · cases hn
  · split at hn
    · obtain ⟨l1, l2, l3⟩ := C.loc hl
      exact ps_set (C.N ▸ C.nd) l1 l2 (hS.new c X _ W C h hN) (sw_cell (C.cell (of_decide_eq_true hn))) l3
    · cases hn
theorem done_set {pa : Option Addr} {F0 H0 F F' : Hp} {ρ : Rho} {pl pl' : Pl} {σ : L2.St} {H H' : Hp} {i : Nat} {d : D} {v : V} {D : Ends} (g : GB T pa F0 H0 F ρ pl σ H) (hd : Done T pa F0 H0 F D (.nx (ρ.set i (some (.val d))) pl')) (x : Ext pa F H F' H') (s : Sit T pa F' H' pl') (r : RV T pa F' d v) : D.nx (σ.set i (some v)) H' :=
  hd _ F' H' ((g.ext x s).set r i) x.sub
theorem ss_setN {i : Nat} {e : E} (hS : SE T k cl e) : SS T k cl (.setN i e) := fun c X a W C hp h => by
  unfold chkS at h
  split at h
  · simp only [Bool.and_eq_true] at h
    obtain ⟨⟨⟨h1, h2⟩, h3⟩, h4⟩ := h
    refine PS.of (ps_comp W C hS h1 h2 h4 h3) fun D σ H ⟨pa, F0, H0, F, ρ, pl, r, g, e1, dn⟩ => ?_
    rw [evS] at e1
    obtain ⟨d, q, e2, e3⟩ := bndS_ok e1 dn
    cases e3
    exact ⟨pa, F, ρ, pl, d, q, g.gd, e2, fun p F' H' x s n1 n2 n3 r => dn _ F' H' (g.setN x s n1 n2 n3 r i) x.sub⟩
  · cases h
theorem ss_set {i : Nat} {e : E} (hS : SE T k cl e) : SS T k cl (.set i e) := fun c X a W C hp h => by
  unfold chkS at h
  split at h
  · simp only [Bool.and_eq_true] at h
    obtain ⟨⟨⟨h1, h2⟩, h3⟩, h4⟩ := h
    have hk : e.isPk = false := by simpa using h3
    rename_i x px v pos
    by_cases hc : notComp v = true
    · refine PS.of (ps_name C h1 (hS.val c X _ W C h2 hk) hc) fun D σ H ⟨pa, F0, H0, F, ρ, pl, r, g, e1, dn⟩ => ?_
      rw [evS] at e1
      obtain ⟨d, q, e2, e3⟩ := bndS_ok e1 dn
      cases e3
      exact ⟨pa, F, ρ, pl, d, q, g.gd, e2, fun v F' H' x s r => done_set g dn x s r⟩
    · have hN : e.isN = true ∧ ∀ ρ pl d pl', evE cl e ρ pl = some (.ok d pl') → ∃ l, d = .lst l := by
        have : ∃ elt gs scope pos, v = .ListComp elt gs scope pos := by
          unfold compOk at h4
          have hc' : notComp v = false := by simpa using hc
          rw [hc', Bool.false_or, Bool.or_eq_true] at h4
          rcases h4 with h4 | h4
          · unfold compSwap at h4
            split at h4
            · exact ⟨_, _, _, _, rfl⟩
            · cases h4
          · split at h4
            · exact ⟨_, _, _, _, rfl⟩
            · cases h4
        obtain ⟨elt, gs, scope, pos', rfl⟩ := this
        rcases comp_cases h2 with ⟨vs, tg, it, t, e', rfl⟩ | ⟨vs, vs1, tg, it, tg1, it1, t, e', rfl⟩
        · exact ⟨rfl, fun ρ pl d pl' h => lst_of h⟩
        · exact ⟨rfl, fun ρ pl d pl' h => lst_of2 h⟩
      refine PS.of (ps_comp W C hS h1 h2 h4 hN.1) fun D σ H ⟨pa, F0, H0, F, ρ, pl, r, g, e1, dn⟩ => ?_
      rw [evS] at e1
      obtain ⟨d, q, e2, e3⟩ := bndS_ok e1 dn
      cases e3
      obtain ⟨l, rfl⟩ := hN.2 _ _ _ _ e2
      exact ⟨pa, F, ρ, pl, _, q, g.gd, e2, FinN.of fun v F' H' x s r => done_set g dn x s r⟩
  · cases h
theorem ss_ret {e : E} (hS : SE T k cl e) : SS T k cl (.ret e) := fun c X a W C hp h => by
  unfold chkS at h
  split at h
  · simp only [Bool.and_eq_true] at h
    refine PS.of (ps_ret (hS.val c X _ W C h.1 (by simpa using h.2))) fun D σ H ⟨pa, F0, H0, F, ρ, pl, r, g, e1, dn⟩ => ?_
    rw [evS] at e1
    obtain ⟨d, q, e2, e3⟩ := bndS_ok e1 dn
    cases e3
    exact ⟨pa, F, ρ, pl, d, q, g.gd, e2, fun v F' H' x s r => dn v F' H' (g.ex.tr x s) s r⟩
  · cases h
theorem ss_retN : SS T k cl .retN := fun c X a W C hp h => by
  unfold chkS at h
  split at h
  · refine PS.of ps_retN fun D σ H ⟨pa, F0, H0, F, ρ, pl, r, g, e1, dn⟩ => ?_
    rw [evS] at e1
    cases e1
    exact dn .non F H g.ex g.gd.sit rfl
  · cases h
theorem ss_brk : SS T k cl .brk := fun c X a W C hp h => by
  unfold chkS at h
  split at h
  · refine PS.of ps_break fun D σ H ⟨pa, F0, H0, F, ρ, pl, r, g, e1, dn⟩ => ?_
    rw [evS] at e1
    cases e1
    exact dn σ F H g fun _ _ z => z
  · cases h
theorem ss_ex {e : E} (hS : SE T k cl e) : SS T k cl (.ex e) := fun c X a W C hp h => by
  unfold chkS at h
  split at h
  · simp only [Bool.and_eq_true] at h
    refine PS.of (ps_expr (hS.val c X _ W C h.1.1 (by simpa using h.1.2)) (sw_notComp h.2 _ _ _)) fun D σ H ⟨pa, F0, H0, F, ρ, pl, r, g, e1, dn⟩ => ?_
    rw [evS] at e1
    obtain ⟨d, q, e2, e3⟩ := bndS_ok e1 dn
    cases e3
    exact ⟨pa, F, ρ, pl, d, q, g.gd, e2, fun v F' H' x s r => dn σ F' H' (g.ext x s) x.sub⟩
  · cases h
theorem boolOf_bl {d : D} {b : Bool} (h : boolOf d = some b) : d = .bl b := by
  cases d <;> simp [boolOf] at h
  subst h; rfl
theorem ss_iff {t : E} {p q : Ss} (hS : SE T k cl t) (hp' : SSs T k cl p) (hq : SSs T k cl q) : SS T k cl (.iff t p q) := fun c X a W C hp h => by
  unfold chkS at h
  split at h
  · simp only [Bool.and_eq_true] at h
    obtain ⟨⟨⟨h1, h0⟩, h2⟩, h3⟩ := h
    refine PS.of (ps_if (hS.tst c X _ W C h1 (by simpa using h0)) (hp' c X _ W C hp h2) (hq c X _ W C hp h3)) fun D σ H ⟨pa, F0, H0, F, ρ, pl, r, g, e1, dn⟩ => ?_
    rw [evS] at e1
    obtain ⟨d, q1, e2, e3⟩ := bndS_ok e1 dn
    split at e3
    · rename_i eb
      cases boolOf_bl eb
      refine ⟨pa, F, ρ, pl, true, q1, g.gd, e2, fun F' H' x s => ?_⟩
      show (if true = true then _ else _)
      rw [if_pos rfl]
      exact ⟨pa, F0, H0, F', ρ, q1, r, g.ext x s, e3, dn.sub x.sub⟩
    · rename_i eb
      cases boolOf_bl eb
      refine ⟨pa, F, ρ, pl, false, q1, g.gd, e2, fun F' H' x s => ?_⟩
      show (if false = true then _ else _)
      rw [if_neg Bool.false_ne_true]
      exact ⟨pa, F0, H0, F', ρ, q1, r, g.ext x s, e3, dn.sub x.sub⟩
    · cases e3
  · cases h
theorem ss_whl {t : E} {b : Ss} (hS : SE T k cl t) (hb : SSs T k cl b) : SS T k cl (.whl t b) := fun c X a W C hp h => by
  unfold chkS at h
  split at h
  · simp only [Bool.and_eq_true] at h
    obtain ⟨⟨h1, h0⟩, h2⟩ := h
    refine PS.of (ps_while hp (hS.tst c X _ W C h1 (by simpa using h0)) (hb c X _ W C hp h2)) fun D σ H ⟨pa, F0, H0, F, ρ, pl, r, g, e1, dn⟩ => ?_
    rw [evS] at e1
    refine ⟨fun m σ' H' => ∃ F' ρ' pl', GB T pa F0 H0 F' ρ' pl' σ' H' ∧ Sub F F' ∧ whlL (fun ρ pl => bnd (evE cl t ρ pl) fun x pl => lift (boolOf x) pl) (fun ρ pl => evSs cl b ρ pl) m ρ' pl' = some r, ⟨WF, F, ρ, pl, g, fun _ _ z => z, e1⟩, fun m σ1 H1 ⟨F1, ρ1, pl1, g1, s1, w1⟩ => ?_⟩
    cases m with
    | zero => cases w1
    | succ m =>
      rw [whlL] at w1
      obtain ⟨bb, q1, e2, e3⟩ := bndS_ok w1 dn
      obtain ⟨d, q2, e4, e5⟩ := bnd_ok e2
      obtain ⟨e6, rfl⟩ := lift_ok e5
      cases boolOf_bl e6
      refine ⟨pa, F1, ρ1, pl1, bb, q1, g1.gd, e4, fun F2 H2 x2 s2 => ?_⟩
      have g2 := g1.ext x2 s2
      have sb2 : Sub F F2 := fun a o z => x2.sub a o (s1 a o z)
      cases bb with
      | false =>
        show (if false = true then _ else _)
        rw [if_neg Bool.false_ne_true]
        cases e3
        exact dn σ1 F2 H2 g2 sb2
      | true =>
        show (if true = true then _ else _)
        rw [if_pos rfl]
        refine ⟨fun σ' H' => ∃ F' ρ' pl', GB T pa F0 H0 F' ρ' pl' σ' H' ∧ Sub F F' ∧ whlL (fun ρ pl => bnd (evE cl t ρ pl) fun x pl => lift (boolOf x) pl) (fun ρ pl => evSs cl b ρ pl) m ρ' pl' = some r, fun σ' H' z => ⟨m, Nat.lt_succ_self m, z⟩, ?_⟩
        simp only at e3
        cases eo : evSs cl b ρ1 q1 with
        | none => rw [eo] at e3; cases e3
        | some o =>
          rw [eo] at e3
          refine ⟨pa, F0, H0, F2, ρ1, q1, o, g2, eo, ?_⟩
          cases o with
          | nx ρ' pl' => exact fun σ' F' H' g' s' => ⟨F', ρ', pl', g', fun a o z => s' a o (sb2 a o z), e3⟩
          | ct ρ' pl' => exact fun σ' F' H' g' s' => ⟨F', ρ', pl', g', fun a o z => s' a o (sb2 a o z), e3⟩
          | bk ρ' pl' =>
            cases e3
            exact fun σ' F' H' g' s' => dn σ' F' H' g' fun a o z => s' a o (sb2 a o z)
          | rt d pl' =>
            cases e3
            exact dn
          | ex x pl' =>
            cases e3
            exact dn
  · cases h
theorem setAll_own : ∀ {is : List Nat} {ds : List D} {ρ ρ' : Rho}, setAll is ds ρ = some ρ' → ∀ {j : Nat} {d : D}, ρ'[j]? = some (some (Sl.own d)) → j ∉ is ∧ ρ[j]? = some (some (Sl.own d))
  | [], [], _, _, e, j, d, h => by cases e; exact ⟨by simp, h⟩
  | [], _ :: _, _, _, e, _, _, _ => by cases e
  | _ :: _, [], _, _, e, _, _, _ => by cases e
  | i :: is, d :: ds, ρ, ρ', e, j, d', h => by
    obtain ⟨n, h2⟩ := setAll_own (is := is) (ds := ds) e h
    rw [List.getElem?_set] at h2
    by_cases q : i = j
    · rw [if_pos q] at h2
      split at h2 <;> cases h2
    · rw [if_neg q] at h2
      exact ⟨fun z => by rcases List.mem_cons.mp z with z | z; exact q z.symm; exact n z, h2⟩
theorem setTg_own {tg : Tg} {d : D} {ρ ρ' : Rho} (e : setTg tg d ρ = some ρ') {j : Nat} {d' : D} (h : ρ'[j]? = some (some (Sl.own d'))) : j ∉ tg.slots ∧ ρ[j]? = some (some (Sl.own d')) := by
  cases tg with
  | nm i => exact setAll_own (is := [i]) (ds := [d]) e h
  | tp l =>
    cases d <;> try cases e
    exact setAll_own e h
theorem GB.tg {pa : Option Addr} {F0 H0 F : Hp} {ρ ρ' : Rho} {pl : Pl} {σ σ' : L2.St} {H : Hp} {tg : Tg} {d : Ev.D} (g : GB T pa F0 H0 F ρ pl σ H) (et : setTg tg d ρ = some ρ') (g' : Gd T pa F ρ' pl σ' H) (hj : ∀ j, j ∉ tg.slots → σ'[j]? = σ[j]?) : GB T pa F0 H0 F ρ' pl σ' H :=
  ⟨g', g.ex, fun j d' a q1 q2 => by
    obtain ⟨nj, q3⟩ := setTg_own et q1
    rw [hj j nj] at q2
    exact g.fr j d' a q3 q2⟩
theorem ss_forr {tg : Tg} {it : Ev.It} {b : Ss} (hi : SI T k cl it) (hb : SSs T k cl b) : SS T k cl (.forr tg it b) := fun c X a W C hp h => by
  unfold chkS at h
  split at h
  · simp only [Bool.and_eq_true] at h
    obtain ⟨⟨⟨⟨h1, h2⟩, h3⟩, h4⟩, h5⟩ := h
    refine PS.of (ps_for hp C.calm ((hi c X _ _ W C h2).2 h5) (s_tg C h1) (hb c X _ W C hp h4) (notSet_ok h3 _)) fun D σ H ⟨pa, F0, H0, F, ρ, pl, r, g, e1, dn⟩ => ?_
    rw [evS] at e1
    obtain ⟨xs, q1, e2, e3⟩ := bndS_ok e1 dn
    refine ⟨pa, F, ρ, pl, xs, q1, g.gd, e2, fun J F1 H1 x1 s1 its => ?_⟩
    have g1 := g.ext x1 s1
    let body : Ev.D → Rho → Pl → RS := fun x ρ pl => match setTg tg x ρ with
      | some ρ' => evSs cl b ρ' pl
      | none => none
    have e3 : forL body xs ρ q1 = some r := e3
    refine ⟨fun i m σ' H' => i + m = xs.length ∧ ∃ F' ρ' pl', GB T pa F0 H0 F' ρ' pl' σ' H' ∧ Sub F1 F' ∧ forL body (xs.drop i) ρ' pl' = some r, ⟨xs.length, by simp, F1, ρ, q1, g1, fun _ _ z => z, e3⟩, fun i m σ2 H2 ⟨hm, F2, ρ2, pl2, g2, sb2, w2⟩ => ?_⟩
    have sbF : Sub F F2 := fun a o z => sb2 a o (x1.sub a o z)
    have hC : Sub F1 F2 ∧ Sub F2 H2 := ⟨sb2, g2.gd.sit.sub⟩
    cases m with
    | zero =>
      have e0 : i = xs.length := by omega
      subst e0
      rw [List.drop_length] at w2
      cases w2
      exact .inl ⟨its.stop F2 H2 hC, dn σ2 F2 H2 g2 sbF⟩
    | succ m =>
      have hlt : i < xs.length := by omega
      rw [List.drop_eq_getElem_cons hlt, forL] at w2
      refine .inr ⟨its.go i F2 H2 hlt hC, fun σ' H' => ∃ F' ρ' pl', GB T pa F0 H0 F' ρ' pl' σ' H' ∧ Sub F1 F' ∧ forL body (xs.drop (i + 1)) ρ' pl' = some r, fun σ' H' z => ⟨m, Nat.lt_succ_self m, by omega, z⟩, fun x H3 hy => ?_⟩
      obtain ⟨F3, d, ed, x3, s3, r3⟩ := its.yld i F2 H2 x H3 pl2 hlt hC g2.gd.sit hy
      rw [List.getElem?_eq_getElem hlt] at ed
      cases ed
      have g3 := g2.ext x3 s3
      have sb3 : Sub F1 F3 := fun a o z => x3.sub a o (sb2 a o z)
      cases et : setTg tg xs[i] ρ2 with
      | none =>
        have : body xs[i] ρ2 pl2 = none := by show (match setTg tg xs[i] ρ2 with | some ρ' => evSs cl b ρ' pl2 | none => none) = none; rw [et]
        rw [this] at w2; cases w2
      | some ρ3 =>
        have eb : body xs[i] ρ2 pl2 = evSs cl b ρ3 pl2 := by show (match setTg tg xs[i] ρ2 with | some ρ' => evSs cl b ρ' pl2 | none => none) = _; rw [et]
        rw [eb] at w2
        refine ⟨pa, F3, ρ2, pl2, _, ρ3, g3.gd, r3, et, fun σ' g' hl hj => ?_⟩
        have g4 : GB T pa F0 H0 F3 ρ3 pl2 σ' H3 := g3.tg et g' hj
        · cases eo : evSs cl b ρ3 pl2 with
          | none => rw [eo] at w2; cases w2
          | some o =>
            rw [eo] at w2
            refine ⟨pa, F0, H0, F3, ρ3, pl2, o, g4, eo, ?_⟩
            cases o with
            | nx ρ' pl' => exact fun σ' F' H' g' s' => ⟨F', ρ', pl', g', fun a o z => s' a o (sb3 a o z), w2⟩
            | ct ρ' pl' => exact fun σ' F' H' g' s' => ⟨F', ρ', pl', g', fun a o z => s' a o (sb3 a o z), w2⟩
            | bk ρ' pl' =>
              cases w2
              exact fun σ' F' H' g' s' => dn σ' F' H' g' fun a o z => s' a o (sb3 a o (x1.sub a o z))
            | rt d pl' =>
              cases w2
              exact dn
            | ex x pl' =>
              cases w2
              exact dn
  · cases h
theorem isTup_no {v : Expr} (h : isTup v = false) (ts : List Expr) (k : Nat) (p : Pos) (env : Env) : swappedStores [.Tuple ts k p] v env = pure none := by
  cases v <;> first | rfl | (simp [isTup] at h)
theorem swapped_none {ts vs : List Expr} {k k2 : Nat} {p p2 : Pos} {env : Env} (h : vs.all (foldedForSure 8) = true ∨ ∃ id pos, Expr.Name id pos ∈ ts ∧ env.kindOf id = some .cell) : swappedStores [.Tuple ts k p] (.Tuple vs k2 p2) env = pure none := by
  unfold swappedStores
  simp only [pure_bind]
  split
  · rfl
  · split
    · rfl
    · split
      · rfl
      · rename_i hn
        rcases h with h | ⟨id, pos, hm, hk⟩
        · rw [if_pos h]
        · exfalso
          apply hn
          rw [Bool.or_eq_true]
          refine .inl ?_
          rw [bne_iff_ne]
          intro z
          have := List.filterMap_length_eq_length.mp z _ hm
          simp [hk] at this
theorem sw_sole {v : Expr} (h : notComp v = true) (t : Expr) (l : Nat) (env : Env) : swapsWithSole [t] v l env = pure false := sw_notComp h _ _ _
theorem ss_setT {is : List Nat} {e : E} (hS : SE T k cl e) : SS T k cl (.setT is e) := fun c X a W C hp h => by
  unfold chkS at h
  split at h
  · rename_i es kk tp v pos
    simp only [Bool.and_eq_true] at h
    obtain ⟨⟨⟨⟨h1, h2⟩, h3⟩, h4⟩, h5⟩ := h
    have hw : swappedStores [.Tuple es kk tp] v X.env = pure none := by
      cases ht : isTup v with
      | false => exact isTup_no ht _ _ _ _
      | true =>
        rw [ht] at h5
        simp only [Bool.not_true, Bool.false_or] at h5
        split at h5
        · refine swapped_none ?_
          rw [Bool.or_eq_true] at h5
          rcases h5 with h5 | h5
          · exact .inl h5
          · obtain ⟨x, hx, hq⟩ := List.any_eq_true.mp h5
            split at hq
            · exact .inr ⟨_, _, hx, C.cell (of_decide_eq_true hq)⟩
            · cases hq
        · cases h5
    refine PS.of (ps_asg (hS.val c X _ W C h2 (by simpa using h3)) (s_tg (tg := .tp is) C h1) (sw_sole h4 _ _ _) hw) fun D σ H ⟨pa, F0, H0, F, ρ, pl, r, g, e1, dn⟩ => ?_
    rw [evS] at e1
    obtain ⟨d, q, e2, e3⟩ := bndS_ok e1 dn
    split at e3
    · rename_i ρ' et
      cases e3
      refine ⟨pa, F, ρ, pl, d, q, g.gd, e2, fun v F1 H1 x1 s1 r1 => ⟨pa, F1, ρ, q, d, ρ', (g.ext x1 s1).gd, r1, et, fun σ' g' hl hj => ?_⟩⟩
      exact dn σ' F1 H1 ((g.ext x1 s1).tg et g' hj) x1.sub
    · cases e3
  · cases h
theorem ss_aug {i : Nat} {op : Operator} {e : E} (hS : SE T k cl e) : SS T k cl (.aug i op e) := fun c X a W C hp h => by
  unfold chkS at h
  split at h
  · simp only [Bool.and_eq_true] at h
    obtain ⟨⟨⟨⟨⟨h1, h2⟩, h3⟩, h4⟩, h5⟩, h6⟩ := h
    cases of_decide_eq_true h5
    obtain ⟨l1, l2, l3⟩ := C.loc h1
    have ho : op = .Add ∨ op = .Sub ∨ op = .FloorDiv := by simpa [or_assoc] using h6
    refine PS.of (ps_aug (C.N ▸ C.nd) l1 l2 (hS.val c X _ W C h3 (by simpa using h4)) (opI' C.K op ho) l3) fun D σ H ⟨pa, F0, H0, F, ρ, pl, r, g, e1, dn⟩ => ?_
    rw [evS] at e1
    split at e1
    · rename_i x ex
      obtain ⟨d, q, e2, e3⟩ := bndS_ok e1 dn
      split at e3
      · rename_i z ez
        cases e3
        obtain ⟨u, u1, u2⟩ := g.gd.val i x (getV_some ex)
        refine ⟨u, u1, pa, F, ρ, pl, d, q, g.gd, e2, fun v F1 H1 x1 s1 r1 => ⟨pa, F1, q, x, d, z, s1, .inl (RV.mono x1.sub (.inr rfl) _ _ u2), .inl r1, ez, fun w F2 H2 x2 s2 r2 => ?_⟩⟩
        exact dn _ F2 H2 (((g.ext x1 s1).ext x2 s2).set r2 i) fun a o z => x2.sub a o (x1.sub a o z)
      · cases e3
    · cases e1
  · cases h
theorem ss_app {i : Nat} {e : E} (hS : SE T k cl e) : SS T k cl (.app i e) := fun c X a W C hp h => by
  unfold chkS at h
  split at h
  · rename_i x xp m ap v cp pos
    simp only [Bool.and_eq_true] at h
    obtain ⟨⟨⟨⟨⟨h1, h2⟩, h3⟩, h4⟩, h5⟩, h6⟩ := h
    cases of_decide_eq_true h2
    obtain ⟨v1, v2, v3⟩ := C.vis h1
    have st := star_of (as := []) (env := X.env) h5
    refine PS.of (ps_expr (pe_bm PySem.F.plainAttrs_list PySem.F.slot_list_append PySem.F.type_list_append mt_append (pe_var (i := i) v1 v2 (nameOk_1 v3) (nameOk_2 v3)) (pa_cons (hS.val c X _ W C h3 (by simpa using h4)) pa_nil st) rfl (by rw [st]; rfl) h6 st)) fun D σ H ⟨pa, F0, H0, F, ρ, pl, r, g, e1, dn⟩ => ?_
    rw [evS] at e1
    obtain ⟨d, q, e2, e3⟩ := bndS_ok e1 dn
    split at e3
    · rename_i l eo
      split at e3
      · rename_i hl
        cases e3
        have eo := getO_some eo
        obtain ⟨b, q1, q2, q3, us, q4, q5⟩ := g.gd.own i _ eo
        refine ⟨.ref b, q1, .inl ⟨rfl, us, SqL.of q4⟩, pa, F, ρ, pl, d, q, g.gd, e2, fun w F1 H1 x1 s1 r1 => ?_⟩
        have g1 := g.ext x1 s1
        obtain ⟨b', w1, w2, w3, ws, w4, w5⟩ := g1.gd.own i _ eo
        rw [q1] at w1; cases w1
        refine ⟨b, ws, w, rfl, rfl, w4, by rw [w5.len, ← lim_eq]; exact hl, ?_⟩
        exact dn _ F1 _ (g1.mut eo q1 (show RO T pa F1 (upd H1 b (.lst (ws ++ [w]))) (.lst (l ++ [d])) b from ⟨_, upd_same, w5.append (.cons r1 .nil)⟩)) x1.sub
      · cases e3
    · cases e3
  · cases h
theorem ss_ext {i : Nat} {e : E} (hS : SE T k cl e) : SS T k cl (.ext i e) := fun c X a W C hp h => by
  unfold chkS at h
  split at h
  · rename_i x xp m ap v cp pos
    simp only [Bool.and_eq_true] at h
    obtain ⟨⟨⟨⟨⟨h1, h2⟩, h3⟩, h4⟩, h5⟩, h6⟩ := h
    cases of_decide_eq_true h2
    obtain ⟨v1, v2, v3⟩ := C.vis h1
    have st := star_of (as := []) (env := X.env) h5
    refine PS.of (ps_expr (pe_bm PySem.F.plainAttrs_list PySem.F.slot_list_extend PySem.F.type_list_extend mt_extend (pe_var (i := i) v1 v2 (nameOk_1 v3) (nameOk_2 v3)) (pa_cons (hS.val c X _ W C h3 (by simpa using h4)) pa_nil st) rfl (by rw [st]; rfl) h6 st)) fun D σ H ⟨pa, F0, H0, F, ρ, pl, r, g, e1, dn⟩ => ?_
    rw [evS] at e1
    obtain ⟨d, q, e2, e3⟩ := bndS_ok e1 dn
    split at e3
    · rename_i l m eo
      split at e3
      · rename_i hl
        cases e3
        have eo := getO_some eo
        obtain ⟨b, q1, q2, q3, us, q4, q5⟩ := g.gd.own i _ eo
        refine ⟨.ref b, q1, .inl ⟨rfl, us, SqL.of q4⟩, pa, F, ρ, pl, .lst m, q, g.gd, e2, fun w F1 H1 x1 s1 r1 => ?_⟩
        have g1 := g.ext x1 s1
        obtain ⟨b', w1, w2, w3, ws, w4, w5⟩ := g1.gd.own i _ eo
        rw [q1] at w1; cases w1
        obtain ⟨c', zs, rfl, z1, z2⟩ := r1
        refine ⟨b, c', ws, zs, rfl, rfl, w4, s1.sub _ _ z1, by rw [w5.len, z2.len, ← lim_eq]; exact hl, ?_⟩
        exact dn _ F1 _ (g1.mut eo q1 (show RO T pa F1 (upd H1 b (.lst (ws ++ zs))) (.lst (l ++ m)) b from ⟨_, upd_same, w5.append z2⟩)) x1.sub
      · cases e3
    · cases e3
  · cases h
theorem sub_asg {o y : Expr} {pos : Pos} {env : Env} (h : notSlice y = true) : ∀ v, assign (.Subscript o y pos) env v = (do
      let ov ← holding [v] (eval o env)
      let iv ← holding [v, ov] (eval y env)
      standAt pos
      holding [v, ov, iv] (setItem ov iv v)
      release [v, ov, iv] []) := fun v => by
  cases y <;> first | rfl | (simp [notSlice] at h)
theorem ss_sti {i : Nat} {kx e : E} (hK : SE T k cl kx) (hS : SE T k cl e) : SS T k cl (.sti i kx e) := fun c X a W C hp h => by
  unfold chkS at h
  split at h
  · rename_i x xp y sp v pos
    simp only [Bool.and_eq_true] at h
    obtain ⟨⟨⟨⟨⟨⟨h1, h2⟩, h3⟩, h4⟩, h5⟩, h6⟩, h7⟩ := h
    obtain ⟨v1, v2, v3⟩ := C.vis h1
    refine PS.of (ps_asg (hS.val c X _ W C h5 (by simpa using h6)) (pg_sub (pe_var (i := i) v1 v2 (nameOk_1 v3) (nameOk_2 v3)) (hK.val c X _ W C h2 (by simpa using h3)) set_list (sub_asg h4)) (sw_sole h7 _ _ _)) fun D σ H ⟨pa, F0, H0, F, ρ, pl, r, g, e1, dn⟩ => ?_
    rw [evS] at e1
    obtain ⟨d, q, e2, e3⟩ := bndS_ok e1 dn
    obtain ⟨z, q2, e4, e5⟩ := bndS_ok e3 dn
    refine ⟨pa, F, ρ, pl, d, q, g.gd, e2, fun w F1 H1 x1 s1 r1 => ?_⟩
    have g1 := g.ext x1 s1
    split at e5
    · skip
      rename_i l jz eo
      split at e5
      · rename_i j ej
        cases e5
        have eo := getO_some eo
        obtain ⟨b, w1, _⟩ := g1.gd.own i _ eo
        refine ⟨.ref b, w1, pa, F1, ρ, q, _, q2, g1.gd, e4, fun u F2 H2 x2 s2 r2 => ?_⟩
        have g2 := g1.ext x2 s2
        obtain ⟨b', y1, y2, y3, ys, y4, y5⟩ := g2.gd.own i _ eo
        rw [w1] at y1; cases y1
        refine ⟨b, ys, jz, j, rfl, r2, y4, by rw [y5.len]; exact ej, ?_⟩
        exact dn _ F2 _ (g2.mut eo w1 (show RO T pa F2 (upd H2 b (.lst (ys.set j w))) (.lst (l.set j d)) b from ⟨_, upd_same, y5.set (RV.mono x2.sub (.inr rfl) _ _ r1) j⟩)) fun a o z => x2.sub a o (x1.sub a o z)
      · cases e5
    · rename_i jz eo ev
      split at e5
      · rename_i j ej
        cases e5
        obtain ⟨u, w1, p, hp', rfl⟩ := g1.gd.val i _ (getV_some ev)
        refine ⟨.ref p, w1, pa, F1, ρ, q, _, q2, g1.gd, e4, fun u F2 H2 x2 s2 r2 => ?_⟩
        have g2 := g1.ext x2 s2
        obtain ⟨ys, y4, y5⟩ := g2.gd.sit.pool p hp'
        refine ⟨p, ys, jz, j, rfl, r2, y4, by rw [y5.len]; exact ej, ?_⟩
        exact dn _ F2 _ (g2.pput hp' (y5.set (RV.mono x2.sub (.inr rfl) _ _ r1) j)) fun a o z => x2.sub a o (x1.sub a o z)
      · cases e5
    · cases e5
  · cases h
theorem not_names2 {t1 t2 : Expr} {kt : Nat} {pt : Pos} {v : Expr} {env : Env} (h1 : ∀ x p, t1 ≠ .Name x p) : swappedStores [.Tuple [t1, t2] kt pt] v env = pure none := by
  cases ht : isTup v with
  | false => exact isTup_no ht _ _ _ _
  | true =>
    cases v <;> simp [isTup] at ht
    unfold swappedStores
    simp only [pure_bind]
    split
    · rfl
    · split
      · rfl
      · split
        · rfl
        · rename_i hn
          exfalso
          apply hn
          rw [Bool.or_eq_true]
          refine .inl ?_
          rw [bne_iff_ne]
          intro z
          have := List.filterMap_length_eq_length.mp z t1 List.mem_cons_self
          revert this
          cases t1 <;> first | (intro h; simp at h; done) | (intro _; exact h1 _ _ rfl)
theorem ss_st2 {i : Nat} {k1 k2 e1 e2 : E} (hk1 : SE T k cl k1) (hk2 : SE T k cl k2) (he1 : SE T k cl e1) (he2 : SE T k cl e2) : SS T k cl (.st2 i k1 k2 e1 e2) := fun c X a W C hp h => by
  unfold chkS at h
  split at h
  · rename_i x xp y1 sp1 x2 xp2 y2 sp2 kt tp v1 v2 kv vp pos
    simp only [Bool.and_eq_true] at h
    obtain ⟨⟨⟨⟨⟨⟨⟨⟨⟨⟨⟨⟨⟨h1, h2⟩, h3⟩, h4⟩, h5⟩, h6⟩, h7⟩, h8⟩, h9⟩, h10⟩, h11⟩, h12⟩, h13⟩, h14⟩ := h
    obtain ⟨u1, u2, u3⟩ := C.vis h1
    obtain ⟨w1, w2, w3⟩ := C.vis h2
    have pv := pa_cons (he1.val c X _ W C h9 (by simpa using h10)) (pa_cons (he2.val c X _ W C h12 (by simpa using h13)) pa_nil (star_of h14)) (star_of h11)
    have g1 := pg_sub (pos := sp1) (pe_var (i := i) (pos := xp) u1 u2 (nameOk_1 u3) (nameOk_2 u3)) (hk1.val c X _ W C h3 (by simpa using h4)) set_list (sub_asg h5)
    have g2 := pg_sub (pos := sp2) (pe_var (i := i) (pos := xp2) w1 w2 (nameOk_1 w3) (nameOk_2 w3)) (hk2.val c X _ W C h6 (by simpa using h7)) set_list (sub_asg h8)
    refine PS.of (ps_asg (pe_tup pv) (pg_tup (n := 2) C.calm (pgs_cons g1 (pgs_cons g2 pgs_nil))) rfl (not_names2 fun _ _ z => by cases z)) fun D σ H ⟨pa, F0, H0, F, ρ, pl, r, g, ev, dn⟩ => ?_
    rw [evS] at ev
    obtain ⟨d1, q1, e3, e4⟩ := bndS_ok ev dn
    obtain ⟨d2, q2, e5, e6⟩ := bndS_ok e4 dn
    obtain ⟨z1, q3, e7, e8⟩ := bndS_ok e6 dn
    refine ⟨pa, F, ρ, pl, d1, q1, g.gd, e3, fun v F1 H1 x1 s1 r1 => ⟨pa, F1, ρ, q1, d2, q2, (g.ext x1 s1).gd, e5, fun w F2 H2 x2 s2 r2 => ⟨le1000 (by show 2 ≤ 1000; decide), fun p hp => ?_⟩⟩⟩
    have g2' := (g.ext x1 s1).ext x2 s2
    have x3 : Ext pa F2 H2 (upd F2 p (.tup [v, w])) (upd H2 p (.tup [v, w])) := Ext.new s2 hp
    have g3 := g2'.ext x3 (Sit.new s2 hp)
    have r1' : RV T pa (upd F2 p (.tup [v, w])) d1 v := RV.mono x3.sub (.inr rfl) _ _ (RV.mono x2.sub (.inr rfl) _ _ r1)
    have r2' : RV T pa (upd F2 p (.tup [v, w])) d2 w := RV.mono x3.sub (.inr rfl) _ _ r2
    refine ⟨p, [v, w], rfl, .inl (.inl upd_same), rfl, v, [w], rfl, ?_⟩
    split at e8
    · rename_i l j eo
      split at e8
      · rename_i j1 ej
        obtain ⟨z2, q4, e9, e10⟩ := bndS_ok e8 dn
        split at e10
        · rename_i jj2
          split at e10
          · rename_i j2 ej2
            cases e10
            have eo := getO_some eo
            obtain ⟨b, y1, _⟩ := g3.gd.own i _ eo
            refine ⟨.ref b, y1, pa, _, ρ, q2, _, q3, g3.gd, e7, fun u3 F3 H3 x4 s4 r4 => ?_⟩
            have g4 := g3.ext x4 s4
            obtain ⟨b', n1, n2, n3, ys, n4, n5⟩ := g4.gd.own i _ eo
            rw [y1] at n1; cases n1
            refine ⟨b, ys, j, j1, rfl, r4, n4, by rw [n5.len]; exact ej, w, [], rfl, ?_⟩
            have g5 := g4.mut eo y1 (show RO T pa F3 (upd H3 b (.lst (ys.set j1 v))) (.lst (l.set j1 d1)) b from ⟨_, upd_same, n5.set (RV.mono x4.sub (.inr rfl) _ _ r1') j1⟩)
            have eo2 : (ρ.set i (some (.own (.lst (l.set j1 d1)))))[i]? = some (some (.own (.lst (l.set j1 d1)))) := by
              rw [List.getElem?_set, if_pos rfl, if_pos (by
                rcases Nat.lt_or_ge i ρ.length with z | z
                · exact z
                · rw [List.getElem?_eq_none z] at eo; cases eo)]
            refine ⟨.ref b, y1, pa, F3, _, q3, _, q4, g5.gd, e9, fun u4 F5 H5 x6 s6 r6 => ?_⟩
            have g6 := g5.ext x6 s6
            obtain ⟨b', m1, m2, m3, zs, m4, m5⟩ := g6.gd.own i _ eo2
            rw [y1] at m1; cases m1
            refine ⟨b, zs, jj2, j2, rfl, r6, m4, by rw [m5.len, List.length_set]; exact ej2, rfl, ?_⟩
            have g7 := g6.mut eo2 y1 (show RO T pa F5 (upd H5 b (.lst (zs.set j2 w))) (.lst ((l.set j1 d1).set j2 d2)) b from ⟨_, upd_same, m5.set (RV.mono x6.sub (.inr rfl) _ _ (RV.mono x4.sub (.inr rfl) _ _ r2')) j2⟩)
            rw [List.set_set] at g7
            exact dn _ F5 _ g7 fun a o z => x6.sub a o (x4.sub a o (x3.sub a o (x2.sub a o (x1.sub a o z))))
          · cases e10
        · cases e10
      · cases e8
    · cases e8
  · cases h
end
end Ev

set_option Elab.async false
set_option linter.all false
set_option maxRecDepth 100000
set_option maxHeartbeats 4000000
/-! Ev14: several names at once; blocks; all statements. -/
namespace Ev
open PySem PySem.Spec PyProof.Rows L2
section
variable {T : Tb} {k : Nat} {cl : Call}
theorem any2 {f : Expr → Bool} {a b : Expr} (hf : ∀ v, notStar v = true → f v = false) (ha : notStar a = true) (hb : notStar b = true) : ¬ ([a, b].any f = true) := by
  simp [hf a ha, hf b hb]
theorem any3 {f : Expr → Bool} {a b c : Expr} (hf : ∀ v, notStar v = true → f v = false) (ha : notStar a = true) (hb : notStar b = true) (hc : notStar c = true) : ¬ ([a, b, c].any f = true) := by
  simp [hf a ha, hf b hb, hf c hc]
theorem swapped2 {x y : Str} {px py pt pt2 : Pos} {kt k2 : Nat} {a b : Expr} {env : Env} (hk : env.scope.kind = .function) (hx : env.scope.names.lookup x = some .local) (hy : env.scope.names.lookup y = some .local) (hne : (y == x) = false) (hl : (py.line == px.line) = true)
    (ha : notStar a = true) (hb : notStar b = true) (hf : [a, b].all (foldedForSure 8) = false) (hc : [a, b].all (constantsAlone 8) = false) :
    swappedStores [.Tuple [.Name x px, .Name y py] kt pt] (.Tuple [a, b] k2 pt2) env = pure (some [x, y]) := by
  have hbk : env.blockKind = .function := by unfold Env.blockKind; rw [hk]; rfl
  have kx : env.kindOf x = some .local := hx
  have ky : env.kindOf y = some .local := hy
  have hl : py.line = px.line := by simpa using hl
  unfold swappedStores
  simp only [pure_bind]
  refine (if_neg (by simp [hbk])).trans ?_
  refine (if_neg (any2 ?_ ha hb)).trans ?_
  · intro v hv
    cases v <;> first | rfl | (simp [notStar] at hv)
  rw [hf, hc]
  simp [kx, ky, hl, Expr.pos, List.eraseDups_cons, hne]
theorem swapped3 {x y z : Str} {px py pz pt pt2 : Pos} {kt k2 : Nat} {a b c : Expr} {env : Env} (hk : env.scope.kind = .function) (hx : env.scope.names.lookup x = some .local) (hy : env.scope.names.lookup y = some .local) (hz : env.scope.names.lookup z = some .local) (hne : (y == x) = false) (hne2 : (z == x) = false) (hne3 : (z == y) = false) (hl : (py.line == px.line) = true) (hl2 : (pz.line == px.line) = true)
    (ha : notStar a = true) (hb : notStar b = true) (hcc : notStar c = true) (hf : [a, b, c].all (foldedForSure 8) = false) (hc : [a, b, c].all (constantsAlone 8) = false) :
    swappedStores [.Tuple [.Name x px, .Name y py, .Name z pz] kt pt] (.Tuple [a, b, c] k2 pt2) env = pure (some [x, y, z]) := by
  have hbk : env.blockKind = .function := by unfold Env.blockKind; rw [hk]; rfl
  have kx : env.kindOf x = some .local := hx
  have ky : env.kindOf y = some .local := hy
  have kz : env.kindOf z = some .local := hz
  have hl : py.line = px.line := by simpa using hl
  have hl2 : pz.line = px.line := by simpa using hl2
  unfold swappedStores
  simp only [pure_bind]
  refine (if_neg (by simp [hbk])).trans ?_
  refine (if_neg (any3 ?_ ha hb hcc)).trans ?_
  · intro v hv
    cases v <;> first | rfl | (simp [notStar] at hv)
  rw [hf, hc]
  simp [kx, ky, kz, hl, hl2, Expr.pos, List.eraseDups_cons, hne, hne2, hne3]
theorem CtxOk.lcl {c : Ck} {X : Cx} (C : CtxOk T k c X) {i : Nat} {x : Str} (h : c.lc i x = true) : X.N[i]? = some x ∧ X.env.scope.names.lookup x = some .local := by
  unfold Ck.lc at h
  rw [Bool.and_eq_true] at h
  exact ⟨(C.loc h.1).1, C.local (of_decide_eq_true h.2)⟩
theorem ss_par {is : List Nat} {es : Es} (hS : SEs T k cl es) : SS T k cl (.par is es) := fun c X a W C hp h => by
  unfold chkS at h
  split at h
  · rename_i i j x px y py kt pt va vb k2 pt2 pos
    simp only [Bool.and_eq_true, Bool.not_eq_true', decide_eq_false_iff_not] at h
    obtain ⟨⟨⟨⟨⟨⟨⟨⟨⟨h1, h2⟩, h3⟩, h4⟩, h5⟩, h6⟩, h7⟩, h8⟩, h9⟩, h10⟩ := h
    obtain ⟨a1, a2⟩ := C.lcl h1
    obtain ⟨b1, b2⟩ := C.lcl h2
    refine PS.of (ps_par C.calm (C.N ▸ C.nd) a1 b1 h4 a2 b2 (hS c X _ W C h3).1 (swapped2 C.kind a2 b2 h5 h6 h7 h8 h9 h10)) fun D σ H ⟨pa, F0, H0, F, ρ, pl, r, g, e1, dn⟩ => ?_
    rw [evS] at e1
    obtain ⟨ds, q, e2, e3⟩ := bndS_ok e1 dn
    refine ⟨pa, F, ρ, pl, ds, q, g.gd, e2, fun vs F1 H1 x1 s1 r1 => ?_⟩
    have hl := evEs_len e2 h3
    match ds, hl with
    | [d1, d2], _ =>
      obtain ⟨u, _, rfl, r1, w, _, rfl, r2, rfl⟩ := r1
      cases e3
      exact ⟨u, w, rfl, dn _ F1 H1 (((g.ext x1 s1).set r1 i).set r2 j) x1.sub⟩
  · rename_i i j l x px y py z pz kt pt va vb vc k2 pt2 pos
    simp only [Bool.and_eq_true, Bool.not_eq_true', decide_eq_false_iff_not] at h
    obtain ⟨⟨⟨⟨⟨⟨⟨⟨⟨⟨⟨⟨⟨⟨⟨⟨h1, h2⟩, h3⟩, h4⟩, h5⟩, h6⟩, h7⟩, h8⟩, h9⟩, h10⟩, h11⟩, h12⟩, h13⟩, h14⟩, h15⟩, h16⟩, h17⟩ := h
    obtain ⟨a1, a2⟩ := C.lcl h1
    obtain ⟨b1, b2⟩ := C.lcl h2
    obtain ⟨c1, c2⟩ := C.lcl h3
    refine PS.of (ps_par3 C.calm (C.N ▸ C.nd) a1 b1 c1 h5 h6 h7 a2 b2 c2 (hS c X _ W C h4).1 (swapped3 C.kind a2 b2 c2 h8 h9 h10 h11 h12 h13 h14 h15 h16 h17)) fun D σ H ⟨pa, F0, H0, F, ρ, pl, r, g, e1, dn⟩ => ?_
    rw [evS] at e1
    obtain ⟨ds, q, e2, e3⟩ := bndS_ok e1 dn
    refine ⟨pa, F, ρ, pl, ds, q, g.gd, e2, fun vs F1 H1 x1 s1 r1 => ?_⟩
    have hl := evEs_len e2 h4
    match ds, hl with
    | [d1, d2, d3], _ =>
      obtain ⟨u, _, rfl, r1, w, _, rfl, r2, v, _, rfl, r3, rfl⟩ := r1
      cases e3
      exact ⟨u, w, v, rfl, dn _ F1 H1 ((((g.ext x1 s1).set r1 i).set r2 j).set r3 l) x1.sub⟩
  · cases h
theorem sss_nil : SSs T k cl .nil := fun c X as W C hp h => by
  unfold chkSs at h
  cases List.isEmpty_iff.mp h
  refine PSs.of pss_nil fun D σ H ⟨pa, F0, H0, F, ρ, pl, r, g, e1, dn⟩ => ?_
  rw [evSs] at e1
  cases e1
  exact dn σ F H g fun _ _ z => z
theorem sss_frz {i : Nat} {r : Ss} (hr : SSs T k cl r) : SSs T k cl (.cons (.frz i) r) := fun c X as W C hp h => by
  unfold chkSs at h
  refine PSs.of (hr c X as W C hp h) fun D σ H ⟨pa, F0, H0, F, ρ, pl, r, g, e1, dn⟩ => ?_
  rw [evSs, evS] at e1
  cases ed : getO ρ i with
  | none => rw [ed] at e1; cases e1
  | some d =>
    rw [ed] at e1
    obtain ⟨F', sb, g'⟩ := g.frz (getO_some ed)
    exact ⟨pa, F0, H0, F', _, _, r, g', e1, dn.sub sb⟩
theorem evSs_cons {s : S} {r : Ss} {ρ : Rho} {pl : Pl} {o : SOut} (h : evSs cl (.cons s r) ρ pl = some o) : ∃ o1, evS cl s ρ pl = some o1 ∧ ((∃ ρ' pl', o1 = .nx ρ' pl' ∧ evSs cl r ρ' pl' = some o) ∨ ((∀ ρ' pl', o1 ≠ .nx ρ' pl') ∧ o1 = o)) := by
  rw [evSs] at h
  split at h
  · rename_i ρ' pl' e
    exact ⟨_, e, .inl ⟨ρ', pl', rfl, h⟩⟩
  · rename_i o' hn
    exact ⟨o, h, .inr ⟨fun ρ' pl' z => hn ρ' pl' (by rw [h, z]), rfl⟩⟩
theorem sss_cons {s : S} {r : Ss} (hz : ∀ i, s ≠ .frz i) (hs : SS T k cl s) (hr : SSs T k cl r) : SSs T k cl (.cons s r) := fun c X as W C hp h => by
  have h' : ∃ a bs, as = a :: bs ∧ chkS c s a = true ∧ chkSs c r bs = true := by
    unfold chkSs at h
    split at h
    · rename_i i; exact (hz i rfl).elim
    · split at h
      · rw [Bool.and_eq_true] at h
        exact ⟨_, _, rfl, h.1, h.2⟩
      · cases h
  obtain ⟨a, bs, rfl, h1, h2⟩ := h'
  refine PSs.of (pss_cons (hs c X a W C hp h1) (hr c X bs W C hp h2)) fun D σ H ⟨pa, F0, H0, F, ρ, pl, o, g, e1, dn⟩ => ?_
  obtain ⟨o1, e2, e3⟩ := evSs_cons e1
  refine ⟨pa, F0, H0, F, ρ, pl, o1, g, e2, ?_⟩
  rcases e3 with ⟨ρ', pl', rfl, e4⟩ | ⟨hn, rfl⟩
  · exact fun σ' F' H' g' s' => ⟨pa, F0, H0, F', ρ', pl', o, g', e4, dn.sub s'⟩
  · cases o1 with
    | nx ρ' pl' => exact (hn _ _ rfl).elim
    | bk ρ' pl' => exact dn
    | ct ρ' pl' => exact dn
    | rt d pl' => exact dn
    | ex x pl' => exact dn
theorem ss_frz {i : Nat} : SS T k cl (.frz i) := fun c X a W C hp h => by
  unfold chkS at h; cases h
mutual
theorem allS : ∀ s : S, SS T k cl s
  | .set _ e => ss_set (allE e)
  | .setN _ e => ss_setN (allE e)
  | .setT _ e => ss_setT (allE e)
  | .par _ es => ss_par (allEs es)
  | .aug _ _ e => ss_aug (allE e)
  | .app _ e => ss_app (allE e)
  | .ext _ e => ss_ext (allE e)
  | .sti _ kx e => ss_sti (allE kx) (allE e)
  | .ret e => ss_ret (allE e)
  | .retN => ss_retN
  | .iff t p q => ss_iff (allE t) (allSs p) (allSs q)
  | .whl t b => ss_whl (allE t) (allSs b)
  | .forr _ it b => ss_forr (allI it) (allSs b)
  | .ex e => ss_ex (allE e)
  | .frz _ => ss_frz
  | .brk => ss_brk
  | .st2 _ k1 k2 e1 e2 => ss_st2 (allE k1) (allE k2) (allE e1) (allE e2)
theorem allSs : ∀ s : Ss, SSs T k cl s
  | .nil => sss_nil
  | .cons (.frz _) r => sss_frz (allSs r)
  | .cons (.set i e) r => sss_cons (fun _ z => by cases z) (allS (.set i e)) (allSs r)
  | .cons (.setN i e) r => sss_cons (fun _ z => by cases z) (allS (.setN i e)) (allSs r)
  | .cons (.setT i e) r => sss_cons (fun _ z => by cases z) (allS (.setT i e)) (allSs r)
  | .cons (.par i e) r => sss_cons (fun _ z => by cases z) (allS (.par i e)) (allSs r)
  | .cons (.aug i o e) r => sss_cons (fun _ z => by cases z) (allS (.aug i o e)) (allSs r)
  | .cons (.app i e) r => sss_cons (fun _ z => by cases z) (allS (.app i e)) (allSs r)
  | .cons (.ext i e) r => sss_cons (fun _ z => by cases z) (allS (.ext i e)) (allSs r)
  | .cons (.sti i j e) r => sss_cons (fun _ z => by cases z) (allS (.sti i j e)) (allSs r)
  | .cons (.ret e) r => sss_cons (fun _ z => by cases z) (allS (.ret e)) (allSs r)
  | .cons .retN r => sss_cons (fun _ z => by cases z) (allS .retN) (allSs r)
  | .cons (.iff t p q) r => sss_cons (fun _ z => by cases z) (allS (.iff t p q)) (allSs r)
  | .cons (.whl t b) r => sss_cons (fun _ z => by cases z) (allS (.whl t b)) (allSs r)
  | .cons (.forr tg it b) r => sss_cons (fun _ z => by cases z) (allS (.forr tg it b)) (allSs r)
  | .cons (.ex e) r => sss_cons (fun _ z => by cases z) (allS (.ex e)) (allSs r)
  | .cons (.st2 i a b c d) r => sss_cons (fun _ z => by cases z) (allS (.st2 i a b c d)) (allSs r)
  | .cons .brk r => sss_cons (fun _ z => by cases z) (allS .brk) (allSs r)
end
end
end Ev

set_option Elab.async false
set_option linter.all false
set_option maxRecDepth 100000
set_option maxHeartbeats 4000000
/-! Ev15: the defs of a program, the law. -/
namespace Ev
open PySem PySem.Spec PyProof.Rows L2
theorem evF_succ (P : List DefI) (k n : Nat) (ds : List D) (pl : Pl) : evF P (k + 1) n ds pl = (match P[n]? with
    | some d => if ds.length = d.ps.length then retS (evSs (evF P k) d.body (startR d.N.length ds) pl) else none
    | none => none) := rfl
def chkD (g : List (Str × D)) (fr : List Str) (d : DefI) (r : He.DefD) : Bool := chkSs ⟨g, fr, d.N, r.scope⟩ d.body r.body && C8.scC d.N d.ps r.scope
structure Top (T : Tb) (P : List DefI) (g : List (Str × D)) (fr : List Str) : Prop where
  glob : ∀ x d, gGet g x = some d → ∃ u v, T.mg x = some u ∧ RelV v u ∧ RV T none (fun _ => none) d v
  free : ∀ x, fr.contains x = true → T.mg x = none
  fd : ∀ n d, P[n]? = some d → ∃ (r : He.DefD) (fd : FuncData), FunD T.K r.name r.qual r.params r.body r.scope [] [] (T.fa n) fd ∧ Binds T.K fd d.ps [] ∧ chkD g fr d r = true
section
variable {T : Tb} {k : Nat} {cl : Call}
/-- a def's start -/
theorem gd_start {pa : Option Addr} {F H : Hp} {pl : Pl} {ds : List Ev.D} {vs : List V} {N : List Str} (s : Sit T pa F H pl) (r : RVs T pa F ds vs) : Gd T pa F (startR N.length ds) pl (L2.start N vs) H where
  sit := s
  len := by
    unfold startR L2.start
    rw [List.length_append, List.length_append, List.length_map, List.length_map, List.length_replicate, List.length_replicate, r.len]
  val := fun i d h => by
    unfold startR at h
    unfold L2.start
    rw [List.getElem?_append] at h ⊢
    rw [List.length_map] at h ⊢
    rw [r.len]
    split at h
    · rename_i hi
      rw [if_pos hi]
      rw [List.getElem?_map] at h ⊢
      cases q : ds[i]? with
      | none => rw [q] at h; cases h
      | some d' =>
        rw [q] at h
        cases h
        obtain ⟨v, e1, e2⟩ := r.get q
        exact ⟨v, by rw [e1]; rfl, e2⟩
    · rw [List.getElem?_replicate] at h
      split at h <;> cases h
  own := fun i d h => by
    unfold startR at h
    rw [List.getElem?_append] at h
    split at h
    · rw [List.getElem?_map] at h
      cases q : ds[i]? with
      | none => rw [q] at h; cases h
      | some d' => rw [q] at h; cases h
    · rw [List.getElem?_replicate] at h
      split at h <;> cases h
  apart := fun i j d d' a h => by
    unfold startR at h
    rw [List.getElem?_append] at h
    split at h
    · rw [List.getElem?_map] at h
      cases q : ds[i]? with
      | none => rw [q] at h; cases h
      | some d' => rw [q] at h; cases h
    · rw [List.getElem?_replicate] at h
      split at h <;> cases h
theorem no_own {ds : List Ev.D} {n i : Nat} {d : Ev.D} (h : (startR n ds)[i]? = some (some (Sl.own d))) : False := by
  unfold startR at h
  rw [List.getElem?_append] at h
  split at h
  · rw [List.getElem?_map] at h
    cases q : ds[i]? with
    | none => rw [q] at h; cases h
    | some d' => rw [q] at h; cases h
  · rw [List.getElem?_replicate] at h
    split at h <;> cases h
theorem gb_start {pa : Option Addr} {F H : Hp} {pl : Pl} {ds : List Ev.D} {vs : List V} {N : List Str} (s : Sit T pa F H pl) (r : RVs T pa F ds vs) : GB T pa F H F (startR N.length ds) pl (L2.start N vs) H :=
  ⟨gd_start s r, .refl, fun i d a h => (no_own h).elim⟩
/-- the context of a def's body -/
theorem ctx_of {g : List (Str × Ev.D)} {fr : List Str} {N : List Str} {qual : Str} {scope : Scope} {f : Addr} {cdv : Value} {A : Around} {outer : List Env} {s : Shared} {H : Hp} {E : XK} (hk : scope.kind = .function) (hn : N.Nodup) (hr : Room k (A.deeper (envOfC qual scope s.heap.objs.size f cdv))) :
    CtxOk T k ⟨g, fr, N, scope⟩ (cxOf CX0 T.P T.w T.K T.mg T.base N qual scope f cdv A outer s H E).nox where
  prog := rfl
  w := rfl
  K := rfl
  mg := rfl
  base := rfl
  N := rfl
  nd := hn
  calm := rfl
  room := hr
  kind := hk
  sc := fun x kd h => ⟨kd, h, .inl rfl⟩
  fn := fun _ _ => rfl
/-- THE RULE: each def keeps to the evaluator, as deep as the room is -/
theorem okAll {P : List DefI} {g : List (Str × Ev.D)} {fr : List Str} (Tp : Top T P g fr) : ∀ (j n : Nat) (ds : List Ev.D) (pl : Pl) (r : Out Ev.D), evF P j n ds pl = some r → FnK T j (evF P j) n
  | 0, n, ds, pl, r, h => by cases h
  | j + 1, n, ds, pl, r, h => by
    have W : World0 T j (evF P j) g fr := ⟨Tp.glob, Tp.free, fun n ds pl r h => okAll Tp j n ds pl r h⟩
    have hd : ∃ d, P[n]? = some d := by
      rw [evF_succ] at h
      split at h
      · rename_i d e; exact ⟨d, e⟩
      · cases h
    obtain ⟨d, hd⟩ := hd
    obtain ⟨r', fd, F, B, ck⟩ := Tp.fd n d hd
    unfold chkD at ck
    rw [Bool.and_eq_true] at ck
    have S : FnScope d.N d.ps r'.scope := C8.fnScope_by ck.2
    refine ⟨fd, d.ps, F.ok S (fun vs H Q E h => ?_) fun cdv A outer s H vs Q E hr h => ⟨_, PSs.nox (allSs d.body ⟨g, fr, d.N, r'.scope⟩ _ r'.body W (ctx_of S.kind S.nd hr) PassesOwn.never ck.1), ?_⟩, F.kp, B⟩
    · obtain ⟨pa, F1, pl1, ds1, d1, pl1', s1, r1, e1, _⟩ := h
      rw [evF_succ, hd] at e1
      simp only at e1
      split at e1
      · rename_i hl
        rw [r1.len, hl]
      · cases e1
    · obtain ⟨pa, F1, pl1, ds1, d1, pl1', s1, r1, e1, f1⟩ := h
      rw [evF_succ, hd] at e1
      simp only at e1
      split at e1
      · rename_i hl
        cases ev : evSs (evF P j) d.body (startR d.N.length ds1) pl1 with
        | none => rw [ev] at e1; cases e1
        | some o =>
          rw [ev] at e1
          refine ⟨pa, F1, H, F1, _, pl1, o, gb_start s1 r1, ev, ?_⟩
          cases o with
          | nx ρ pl =>
            cases e1
            exact fun σ F' H' g' _ => f1 .non F' H' g'.ex g'.gd.sit rfl
          | rt d2 pl =>
            cases e1
            exact fun v F' H' x s r => f1 v F' H' x s r
          | bk ρ pl => cases e1
          | ct ρ pl => cases e1
          | ex x pl => cases e1
      · cases e1
/-! ### a def that ends by a new list -/
def endN (cl : Call) : Ss → Rho → Pl → R D
  | .nil, _, _ => none
  | .cons (.ret e) .nil, ρ, pl => if e.isN = true then evE cl e ρ pl else none
  | .cons s r, ρ, pl => match evS cl s ρ pl with
    | some (.nx ρ' pl') => endN cl r ρ' pl'
    | _ => none
def tEnd (T : Tb) (cl : Call) (s : Ss) : TS := fun D σ H => ∃ pa F0 H0 F ρ pl d pl', GB T pa F0 H0 F ρ pl σ H ∧ endN cl s ρ pl = some (.ok d pl') ∧
  ∀ p F' H', Ext pa F0 H0 F' H' → Sit T pa F' H' pl' → F' p = none → pa ≠ some p → H0 p = none → RO T pa F' H' d p → D.rt (.ref p) H'
theorem endN_cons {s : S} {r : Ss} (h : (∀ e, s ≠ .ret e) ∨ r ≠ .nil) (ρ : Rho) (pl : Pl) : endN cl (.cons s r) ρ pl = (match evS cl s ρ pl with
    | some (.nx ρ' pl') => endN cl r ρ' pl'
    | _ => none) := by
  cases s <;> cases r <;> first
    | rfl
    | (rcases h with h | h
       · exact (h _ rfl).elim
       · exact (h rfl).elim)
theorem sss_end : ∀ s : Ss, ∀ c X as, World0 T k cl c.g c.fr → CtxOk T k c X → PassesOwn (model X.prog X.w) X.A X.env X.xe → chkSs c s as = true → PSs X as (tEnd T cl s)
  | .nil, c, X, as, W, C, hp, h => PSs.of (pss_never (sts := as)) fun D σ H ⟨pa, F0, H0, F, ρ, pl, d, pl', g, e, f⟩ => by cases e
  | .cons s r, c, X, as, W, C, hp, h => by
    by_cases hz : ∃ i, s = .frz i
    · obtain ⟨i, rfl⟩ := hz
      unfold chkSs at h
      refine PSs.of (sss_end r c X as W C hp h) fun D σ H ⟨pa, F0, H0, F, ρ, pl, d, pl', g, e, f⟩ => ?_
      rw [endN_cons (.inl fun _ z => by cases z), evS] at e
      cases ed : getO ρ i with
      | none => rw [ed] at e; cases e
      | some d1 =>
        rw [ed] at e
        obtain ⟨F', sb, g'⟩ := g.frz (getO_some ed)
        exact ⟨pa, F0, H0, F', _, _, d, pl', g', e, f⟩
    · have h' : ∃ a bs, as = a :: bs ∧ chkS c s a = true ∧ chkSs c r bs = true := by
        unfold chkSs at h
        split at h
        · rename_i i; exact (hz ⟨i, rfl⟩).elim
        · split at h
          · rw [Bool.and_eq_true] at h
            exact ⟨_, _, rfl, h.1, h.2⟩
          · cases h
      obtain ⟨a, bs, rfl, h1, h2⟩ := h'
      by_cases hr : (∀ e, s ≠ .ret e) ∨ r ≠ .nil
      · refine PSs.of (pss_cons (allS s c X a W C hp h1) (sss_end r c X bs W C hp h2)) fun D σ H ⟨pa, F0, H0, F, ρ, pl, d, pl', g, e, f⟩ => ?_
        rw [endN_cons hr] at e
        split at e
        · rename_i ρ' pl1 e1
          exact ⟨pa, F0, H0, F, ρ, pl, _, g, e1, fun σ' F' H' g' _ => ⟨pa, F0, H0, F', ρ', pl1, d, pl', g', e, f⟩⟩
        · cases e
      · have : (∃ e, s = .ret e) ∧ r = .nil := by
          constructor
          · cases Classical.em (∃ e, s = .ret e) with
            | inl q => exact q
            | inr q => exact (hr (.inl fun e z => q ⟨e, z⟩)).elim
          · cases r with
            | nil => rfl
            | cons a b => exact (hr (.inr fun z => by cases z)).elim
        obtain ⟨⟨e0, rfl⟩, rfl⟩ := this
        have hb : bs = [] := by
          unfold chkSs at h2
          exact List.isEmpty_iff.mp h2
        subst hb
        unfold chkS at h1
        split at h1
        · simp only [Bool.and_eq_true] at h1
          by_cases hn : e0.isN = true
          · refine PSs.of (pss_one (ps_ret ((allE e0).new c X _ W C h1.1 hn))) fun D σ H ⟨pa, F0, H0, F, ρ, pl, d, pl', g, e, f⟩ => ?_
            rw [endN, if_pos hn] at e
            exact ⟨pa, F, ρ, pl, d, pl', g.gd, e, fun p F' H' x s n1 n2 n3 r => f p F' H' (g.ex.tr x s) s n1 n2 (g.ex.none_of n3 n2) r⟩
          · refine PSs.of (pss_never (sts := _)) fun D σ H ⟨pa, F0, H0, F, ρ, pl, d, pl', g, e, f⟩ => ?_
            rw [endN, if_neg hn] at e
            cases e
        · cases h1
/-! ### the law -/
/-- the promise of _law_pool -/
def spPool (T : Tb) (cl : Call) (d : DefI) : Sp := fun vs H Q _ => ∃ F ds l pl', Sit T none F H [] ∧ RVs T none F ds vs ∧ ds.length = d.ps.length ∧ endN cl d.body (startR d.N.length ds) [] = some (.ok (.lst l) pl') ∧
  ∀ p F' H' vs, Ext none F H F' H' → Sub F' H' → F' p = none → H' p = some (.lst vs) → RVs T none F' l vs → Q (.ref p) H'
theorem okPool {P : List DefI} {g : List (Str × Ev.D)} {fr : List Str} (Tp : Top T P g fr) (j n : Nat) {d : DefI} (hd : P[n]? = some d) : ∃ fd, FnOk T.P T.w T.K T.mg T.base CX0 (j + 1) (T.fa n) fd d.ps (spPool T (evF P j) d) ∧ PySem.W.keepIn T.K (.ref (T.fa n)) = true ∧ Binds T.K fd d.ps [] := by
  have W : World0 T j (evF P j) g fr := ⟨Tp.glob, Tp.free, fun n ds pl r h => okAll Tp j n ds pl r h⟩
  obtain ⟨r', fd, F, B, ck⟩ := Tp.fd n d hd
  unfold chkD at ck
  rw [Bool.and_eq_true] at ck
  have S : FnScope d.N d.ps r'.scope := C8.fnScope_by ck.2
  refine ⟨fd, F.ok S (fun vs H Q E h => ?_) fun cdv A outer s H vs Q E hr h => ⟨_, PSs.nox (sss_end d.body ⟨g, fr, d.N, r'.scope⟩ _ r'.body W (ctx_of S.kind S.nd hr) PassesOwn.never ck.1), ?_⟩, F.kp, B⟩
  · obtain ⟨F1, ds1, l, pl1', s1, r1, e1, _⟩ := h
    rw [r1.len, e1]
  · obtain ⟨F1, ds1, l, pl1', s1, r1, e1, e2, f1⟩ := h
    refine ⟨none, F1, H, F1, _, [], .lst l, pl1', gb_start s1 r1, e2, fun p F' H' x s n1 n2 n3 r => ?_⟩
    obtain ⟨us, u1, u2⟩ := r
    exact f1 p F' H' us x s.sub n1 u1 u2
/-- the law's def: pool = _law_pool(script), then the rest -/
def spLawK (K : PySem.W.Frag) (n : Nat) : Sp := fun vs H Q _ => ∃ (a : Addr) (ns : List Int), vs = [.ref a] ∧ ns.length ≤ n ∧ SqL K H a (ns.map V.int) ∧ ∀ H', Q (.bl true) H'
abbrev spLaw (T : Tb) (n : Nat) : Sp := spLawK T.K n
def isPoolSt (a : Stmt) : Bool := match a with
  | .Assign [.Name x _] (.Call (.Name y _) [.Name z _] [] _) _ => decide (x = "pool") && decide (y = "_law_pool") && decide (z = "script")
  | _ => false
/-- what the head has to show of the law's def; np: where _law_pool stands -/
def chkL (g : List (Str × D)) (fr : List Str) (np : Nat) (d : DefI) (r : He.DefD) : Bool := (match r.body with
  | a :: as => isPoolSt a && chkSs ⟨g, fr, d.N, r.scope⟩ d.body as
  | [] => false) && C8.scC d.N ["script"] r.scope && decide (d.N[0]? = some ("script" : Str)) && decide (d.N[1]? = some ("pool" : Str)) && (⟨g, fr, d.N, r.scope⟩ : Ck).loc 1 "pool" && (⟨g, fr, d.N, r.scope⟩ : Ck).vis 0 "script" && (⟨g, fr, d.N, r.scope⟩ : Ck).glob "_law_pool" && (match gGet g "_law_pool" with
  | some (.fn m) => decide (m = np)
  | _ => false)
/-- what the evaluator is to say of it -/
def lawSays (P : List DefI) (j : Nat) (dp dl : DefI) (ns : List Int) : Prop := ∃ l pl', endN (evF P j) dp.body (startR dp.N.length [.scr ns]) [] = some (.ok (.lst l) pl') ∧
  ∃ pl2, evSs (evF P (j + 1)) dl.body ((startR dl.N.length [.scr ns]).set 1 (some (.val .pool))) l = some (.rt (.bl true) pl2)
theorem okLaw {P : List DefI} {g : List (Str × Ev.D)} {fr : List Str} (Tp : Top T P g fr) {j n np : Nat} {dp dl : DefI} {r : He.DefD} {f : Addr} {fd : FuncData} (F : FunD T.K r.name r.qual r.params r.body r.scope [] [] f fd) (hp : P[np]? = some dp) (h1 : dp.ps.length = 1) (ck : chkL g fr np dl r = true)
    (hs : ∀ ns : List Int, ns.length ≤ n → lawSays P j dp dl ns) : FnOk T.P T.w T.K T.mg T.base CX0 (j + 2) f fd ["script"] (spLaw T n) := by
  have W : World0 T (j + 1) (evF P (j + 1)) g fr := ⟨Tp.glob, Tp.free, fun n ds pl r h => okAll Tp (j + 1) n ds pl r h⟩
  unfold chkL at ck
  simp only [Bool.and_eq_true] at ck
  obtain ⟨⟨⟨⟨⟨⟨⟨c1, c2⟩, c3⟩, c4⟩, c5⟩, c6⟩, c7⟩, c8⟩ := ck
  have S : FnScope dl.N ["script"] r.scope := C8.fnScope_by c2
  split at c1
  · rename_i a as eb
    rw [Bool.and_eq_true] at c1
    obtain ⟨c0, c1⟩ := c1
    unfold isPoolSt at c0
    split at c0
    · rename_i x px y py z pz cp sp
      simp only [Bool.and_eq_true] at c0
      obtain ⟨⟨q1, q2⟩, q3⟩ := c0
      cases of_decide_eq_true q1
      cases of_decide_eq_true q2
      cases of_decide_eq_true q3
      split at c8
      · rename_i m em
        cases of_decide_eq_true c8
        obtain ⟨u, v, m1, m2, m3⟩ := W.glob _ _ em
        cases (show v = .ref (T.fa np) from m3)
        cases (show u = .ref (T.fa np) from m2)
        obtain ⟨fdP, FP, kpP, BP⟩ := okPool Tp j np hp
        refine F.ok S (fun vs H Q E h => ?_) fun cdv A outer s H vs Q E hr h => ⟨?t, PSs.nox ?p, ?q⟩
        case t => exact tSeq (tAsg (tCall (spPool T (evF P j) dp) [] E0 (tCons (tVar 0) tNil)) (gName 1)) (tSs T (evF P (j + 1)) dl.body)
        case p =>
          have C : CtxOk T (j + 1) ⟨g, fr, dl.N, r.scope⟩ (cxOf CX0 T.P T.w T.K T.mg T.base dl.N r.qual r.scope f cdv A outer s H E).nox := ctx_of S.kind S.nd hr
          obtain ⟨v1, v2, v3⟩ := C.vis c6
          obtain ⟨g1, g2⟩ := C.gl c7
          obtain ⟨l1, l2, l3⟩ := C.loc c5
          rw [eb]
          refine pss_cons (ps_set C.nd l1 l2 (pe_call FP C.room g1 m1 kpP BP .nil pass0 (pa_cons (pe_var v1 v2 (nameOk_1 v3) (nameOk_2 v3)) pa_nil)) rfl l3) (allSs dl.body ⟨g, fr, dl.N, r.scope⟩ _ as W C PassesOwn.never c1)
        case q =>
          obtain ⟨b, ns, rfl, hl, hS, hQ⟩ := h
          obtain ⟨l, pl', e1, pl2, e2⟩ := hs ns hl
          have s0 : Sit T none H H [] := ⟨fun _ _ z => z, fun _ z => (by cases z), fun _ z => (by cases z)⟩
          have r0 : RVs T none H [.scr ns] [.ref b] := .cons ⟨b, rfl, hS⟩ .nil
          have g0 : Gd T none H (startR dl.N.length [.scr ns]) [] (L2.start dl.N [.ref b]) H := gd_start s0 r0
          refine ⟨.ref b, rfl, H, [.scr ns], l, pl', s0, r0, by rw [h1]; rfl, e1, fun p F' H' us x sb n1 u1 u2 => ?_⟩
          have hp0 : H p = none := by
            cases q : H p with
            | none => rfl
            | some u =>
              have := x.sub p u q
              rw [n1] at this; cases this
          have s1 : Sit T (some p) F' H' l := ⟨sb, fun a z => (by cases z; exact n1), fun a z => (by cases z; exact ⟨us, u1, RVs.mono (fun _ _ z => z) (.inl rfl) _ _ u2⟩)⟩
          have r1 : RVs T (some p) F' [.scr ns] [.ref b] := RVs.mono x.sub (.inl rfl) _ _ r0
          have g1 : GB T (some p) F' H' F' (startR dl.N.length [.scr ns]) l (L2.start dl.N [.ref b]) H' := gb_start s1 r1
          refine ⟨some p, F', H', F', _, l, _, g1.set (d := .pool) (v := .ref p) ⟨p, rfl, rfl⟩ 1, e2, fun v F2 H2 _ _ rv => ?_⟩
          cases (show v = .bl true from rv)
          exact hQ H2
        · obtain ⟨a, ns, rfl, _⟩ := h
          rfl
      · cases c8
    · cases c0
  · cases c1
end
end Ev

set_option Elab.async false
set_option linter.all false
set_option maxRecDepth 100000
set_option maxHeartbeats 4000000
/-! Ev16: the head's facts. -/
namespace Ev
open PySem PySem.Spec PyProof.Rows L2
/-! ### a module's value, read -/
mutual
def rvB (K : PySem.W.Frag) (fa : Nat → Addr) : D → Value → Bool
  | .non, .none => true
  | .bl b, .bool c => b == c
  | .int i, .int j _ => decide (i = j)
  | .str s, .str t _ => decide (s = t)
  | .tup l, .ref a => (match K.lookup a with
    | some ⟨.type c, _, .seq its _, _⟩ => decide (c = "tuple") && decide (its.size ≤ sizeLine) && rvBs K fa l its.toList
    | _ => false)
  | .fn n, .ref a => decide (a = fa n)
  | _, _ => false
def rvBs (K : PySem.W.Frag) (fa : Nat → Addr) : List D → List Value → Bool
  | [], [] => true
  | d :: ds, u :: us => rvB K fa d u && rvBs K fa ds us
  | _, _ => false
end
section
variable {T : Tb}
mutual
theorem rvB_ok : ∀ (d : D) (u : Value), rvB T.K T.fa d u = true → ∃ v, RelV v u ∧ RV T none (fun _ => none) d v
  | .non, u, h => by
    cases u <;> simp [rvB] at h
    exact ⟨.non, rfl, rfl⟩
  | .bl b, u, h => by
    cases u <;> simp [rvB] at h
    subst h
    exact ⟨.bl b, rfl, rfl⟩
  | .int i, u, h => by
    cases u <;> simp [rvB] at h
    subst h
    exact ⟨.int i, ⟨_, rfl⟩, rfl⟩
  | .str i, u, h => by
    cases u <;> simp [rvB] at h
    subst h
    exact ⟨.str i, ⟨_, rfl⟩, rfl⟩
  | .tup l, u, h => by
    cases u <;> simp only [rvB] at h <;> try cases h
    rename_i a
    split at h
    · rename_i c dd its n sl e
      simp only [Bool.and_eq_true] at h
      obtain ⟨⟨h1, h2⟩, h3⟩ := h
      cases of_decide_eq_true h1
      obtain ⟨vs, r1, r2⟩ := rvBs_ok l its.toList h3
      exact ⟨.ref a, rfl, a, vs, rfl, .inr ⟨_, its, n, e, rfl, rfl, of_decide_eq_true h2, r1⟩, r2⟩
    · cases h
  | .fn n, u, h => by
    cases u <;> simp [rvB] at h
    subst h
    exact ⟨.ref (T.fa n), rfl, rfl⟩
  | .lst _, u, h => by cases u <;> simp [rvB] at h
  | .dct _, u, h => by cases u <;> simp [rvB] at h
  | .tab _, u, h => by cases u <;> simp [rvB] at h
  | .pool, u, h => by cases u <;> simp [rvB] at h
  | .scr _, u, h => by cases u <;> simp [rvB] at h
theorem rvBs_ok : ∀ (ds : List D) (us : List Value), rvBs T.K T.fa ds us = true → ∃ vs, Vals vs us ∧ RVs T none (fun _ => none) ds vs
  | [], us, h => by
    cases us with
    | nil => exact ⟨[], .nil, rfl⟩
    | cons u us => simp [rvBs] at h
  | d :: ds, us, h => by
    cases us with
    | nil => simp [rvBs] at h
    | cons u us =>
      simp only [rvBs, Bool.and_eq_true] at h
      obtain ⟨v, r1, r2⟩ := rvB_ok d u h.1
      obtain ⟨vs, r3, r4⟩ := rvBs_ok ds us h.2
      exact ⟨v :: vs, .cons r1 r3, v, vs, rfl, r2, r4⟩
end
end
/-! ### the Hook -/
/-- where the n-th def stands -/
def faK (K : PySem.W.Frag) (R : List He.DefD) (n : Nat) : Addr := match R[n]? with
  | some d => He.fAd K d.at_
  | none => 0
def gB (K : PySem.W.Frag) (R : List He.DefD) (p : Str × D) : Bool := match PySem.W.nsIn K mainGlobals p.1 with
  | some (some u) => rvB K (faK K R) p.2 u
  | _ => false
def obsK (g : List (Str × D)) (fr : List Str) (R : List He.DefD) (K : PySem.W.Frag) : He.AlD := ((g.all (gB K R) && fr.all fun x => He.eqO (PySem.W.nsIn K mainGlobals x) (some none)) && R.all fun d => d.ok K, R.map fun d => He.fnW K d.at_)
def SaysK (g : List (Str × D)) (fr : List Str) (R : List He.DefD) (K : PySem.W.Frag) : Prop := obsK g fr R K = He.valD R
def obsKG (n : Nat) (g : List (Str × D)) (fr : List Str) (R : List He.DefD) (h : Addr → Option Obj) : He.AlD := obsK g fr R (He.frG h (He.asD h n))
def hookK (n : Nat) (g : List (Str × D)) (fr : List Str) (R : List He.DefD) : PySem.W.Hook where
  α := He.AlD
  obs := fun s => obsKG n g fr R s.heap.get?
  val := fun _ => He.valD R
  says := fun _ h => ∃ K : PySem.W.Frag, K.In h ∧ SaysK g fr R K
  of := fun _ _ e => ⟨_, He.frG_in, e⟩
  keeps := fun _ _ _ ⟨K, hK, c⟩ k => ⟨K, PySem.W.Frag.In.keeps hK k, c⟩
theorem obsKG_eq {n : Nat} {g : List (Str × D)} {fr : List Str} {R : List He.DefD} {h : Addr → Option Obj} {s : Shared} (e : ∀ a, h a = s.heap.get? a) : obsKG n g fr R h = (hookK n g fr R).obs s := by
  have e : h = s.heap.get? := funext e
  rw [e] <;> rfl
section
variable {g : List (Str × D)} {fr : List Str} {R : List He.DefD} {K : PySem.W.Frag}
theorem SaysK.parts (c : SaysK g fr R K) : (g.all (gB K R) = true ∧ (fr.all fun x => He.eqO (PySem.W.nsIn K mainGlobals x) (some none)) = true) ∧ (R.all fun d => d.ok K) = true := by
  have c1 : ((g.all (gB K R) && fr.all fun x => He.eqO (PySem.W.nsIn K mainGlobals x) (some none)) && R.all fun d => d.ok K) = true := congrArg (fun z : He.AlD => z.1) c
  rw [Bool.and_eq_true, Bool.and_eq_true] at c1
  exact c1
theorem SaysK.def_ (c : SaysK g fr R K) (i : Nat) {d : He.DefD} (h : R[i]? = some d) : ∃ fd, FunD K d.name d.qual d.params d.body d.scope (d.dvs K) (d.kws K) (He.fAd K d.at_) fd := by
  have e : R.map (fun d => He.fnW K d.at_) = R.map He.DefD.val := congrArg (fun z : He.AlD => z.2) c
  have e2 : (R.map fun d => He.fnW K d.at_)[i]? = (R.map He.DefD.val)[i]? := by rw [e]
  rw [List.getElem?_map, List.getElem?_map, h] at e2
  exact He.DefD.funD (Option.some.inj e2) (List.all_eq_true.mp c.parts.2 d (List.mem_of_getElem? h))
/-- binding of plain parameters -/
def BindD (ps : List Str) (r : He.DefD) : Prop := ∀ (kV doc pm : Value) (an : Option Addr) (cdv ct : Value) (us : List Value), us.length = ps.length → bindArgs (PySem.W.fnOf r.name r.qual r.params r.body r.scope .none kV doc pm an cdv ct) ⟨us, []⟩ = pure (ps.zip us)
/-- what is shown of each def by itself -/
structure DefOk (g : List (Str × D)) (fr : List Str) (d : DefI) (r : He.DefD) : Prop where
  chk : chkD g fr d r = true
  bind : BindD d.ps r
  dfl : r.dfl = []
  kwd : r.kwd = []
inductive AllOk (g : List (Str × D)) (fr : List Str) : List DefI → List He.DefD → Prop where
  | nil {R : List He.DefD} : AllOk g fr [] R
  | cons {d : DefI} {r : He.DefD} {P : List DefI} {R : List He.DefD} : DefOk g fr d r → AllOk g fr P R → AllOk g fr (d :: P) (r :: R)
theorem AllOk.get : ∀ {P : List DefI} {R : List He.DefD}, AllOk g fr P R → ∀ {n : Nat} {d : DefI}, P[n]? = some d → ∃ r, R[n]? = some r ∧ DefOk g fr d r
  | _, _, .nil, n, d, h => by simp at h
  | _, _, .cons h1 h2, 0, d, h => by
    cases h
    exact ⟨_, rfl, h1⟩
  | _, _, .cons h1 h2, n + 1, d, h => by
    obtain ⟨r, e, q⟩ := h2.get (n := n) (by simpa using h)
    exact ⟨r, by simpa using e, q⟩
theorem top_of {Pr : Program} {w : World} {mg : Str → Option Value} {base h : Heap} {P : List DefI} (X : K.In h) (G : h.Ns mainGlobals mg) (c : SaysK g fr R K) (A : AllOk g fr P R) : Top ⟨Pr, w, K, mg, base, faK K R⟩ P g fr where
  glob := fun x d e => by
    have hm : (x, d) ∈ g := PySem.mem_of_lookup e
    have q := List.all_eq_true.mp c.parts.1.1 _ hm
    unfold gB at q
    split at q
    · rename_i u eu
      obtain ⟨v, r1, r2⟩ := rvB_ok (T := ⟨Pr, w, K, mg, base, faK K R⟩) d u q
      exact ⟨u, v, PySem.W.mg_of X G eu, r1, r2⟩
    · cases q
  free := fun x e => PySem.W.mg_none_of X G (He.eqO_ok (List.all_eq_true.mp c.parts.1.2 x (by simpa using e)))
  fd := fun n d e => by
    obtain ⟨r, er, ok⟩ := A.get e
    obtain ⟨fd, F⟩ := c.def_ n er
    have e1 : r.dvs K = [] := by unfold He.DefD.dvs; rw [ok.dfl]; rfl
    have e2 : r.kws K = [] := by unfold He.DefD.kws; rw [ok.kwd]; rfl
    rw [e1, e2] at F
    have ef : faK K R n = He.fAd K r.at_ := by unfold faK; rw [er]
    rw [← ef] at F
    exact ⟨r, fd, F, F.bindsN ok.bind, ok.chk⟩
/-- the law's end: the promise of its def -/
theorem law_of {Pr : Program} {w : World} {mg : Str → Option Value} {h : Heap} {P : List DefI} {f : Addr} {j n np nl : Nat} {dp dl : DefI} {r : He.DefD} (X : K.In h) (G : h.Ns mainGlobals mg) (hf : mg ("law" : Str) = some (.ref f)) (c : SaysK g fr R K) (A : AllOk g fr P R)
    (hl : R[nl]? = some r) (hat : r.at_ = (("law" : Str), (none : Option Str))) (hdf : r.dfl = []) (hkw : r.kwd = []) (hb : BindD ["script"] r) (hg : gGet g "law" = some (.fn nl)) (hp : P[np]? = some dp) (h1 : dp.ps.length = 1) (ck : chkL g fr np dl r = true)
    (hs : ∀ ns : List Int, ns.length ≤ n → lawSays P j dp dl ns) :
    ∃ fd : FuncData, (∀ (s : Shared) (v : Value), BindsTo s fd ⟨[v], []⟩ [("script", v)]) ∧ ∀ base : Heap, K.In base → base.Ns mainGlobals mg → FnOk Pr w K mg base CX0 (j + 2) f fd ["script"] (spLawK K n) := by
  obtain ⟨fd, F⟩ := c.def_ nl hl
  have e1 : r.dvs K = [] := by unfold He.DefD.dvs; rw [hdf]; rfl
  have e2 : r.kws K = [] := by unfold He.DefD.kws; rw [hkw]; rfl
  rw [e1, e2, hat] at F
  have ef : He.fAd K (("law" : Str), (none : Option Str)) = f := by
    have hm : (("law" : Str), D.fn nl) ∈ g := PySem.mem_of_lookup hg
    have q := List.all_eq_true.mp c.parts.1.1 _ hm
    unfold gB at q
    split at q
    · rename_i u eu
      have e3 := PySem.W.mg_of X G eu
      rw [hf] at e3
      cases e3
      have q2 : f = faK K R nl := of_decide_eq_true (show decide (f = faK K R nl) = true from q)
      have e4 : faK K R nl = He.fAd K r.at_ := by unfold faK; rw [hl]
      rw [q2, e4, hat]
    · cases q
  rw [ef] at F
  have b := FunD.bindsA (ps := ["script"]) F hb
  refine ⟨fd, fun s v => b s [v] rfl, fun base KX' G' => ?_⟩
  have Tp : Top ⟨Pr, w, K, mg, base, faK K R⟩ P g fr := top_of X G c A
  exact okLaw (T := ⟨Pr, w, K, mg, base, faK K R⟩) Tp F hp h1 ck hs
end
end Ev

set_option Elab.async false
set_option linter.all false
set_option maxRecDepth 100000
set_option maxHeartbeats 4000000
/-! EvP: lemmas about the evaluator (plain Lean). -/
namespace Ev
open PySem L2
theorem bnd_k {α β : Type} {a : α} {p : Pl} {f : α → Pl → R β} : bnd (some (.ok a p)) f = f a p := rfl
theorem bndS_k {α : Type} {a : α} {p : Pl} {f : α → Pl → RS} : bndS (some (.ok a p)) f = f a p := rfl
theorem lift_k {α : Type} {a : α} {p : Pl} : lift (some a) p = some (.ok a p) := rfl
theorem ret_rt {d : D} {p : Pl} : retS (some (.rt d p)) = some (.ok d p) := rfl
theorem ret_nx {d : Rho} {p : Pl} : retS (some (.nx d p)) = some (.ok .non p) := rfl
/-- it ends well, with Q -/
def Ok {α : Type} (r : R α) (Q : α → Pl → Prop) : Prop := ∃ a pl, r = some (.ok a pl) ∧ Q a pl
theorem ok_ok {α : Type} {a : α} {pl : Pl} {Q : α → Pl → Prop} : Ok (some (.ok a pl)) Q ↔ Q a pl := by
  unfold Ok
  constructor
  · rintro ⟨b, p, e, h⟩
    cases e; exact h
  · exact fun h => ⟨a, pl, rfl, h⟩
theorem Ok.mono {α : Type} {r : R α} {Q Q' : α → Pl → Prop} (h : Ok r Q) (w : ∀ a pl, Q a pl → Q' a pl) : Ok r Q' := by
  obtain ⟨a, pl, e, q⟩ := h
  exact ⟨a, pl, e, w a pl q⟩
theorem ok_bnd {α β : Type} {r : R α} {f : α → Pl → R β} {Q : β → Pl → Prop} : Ok (bnd r f) Q ↔ Ok r fun a p => Ok (f a p) Q := by
  constructor
  · rintro ⟨b, p, e, h⟩
    unfold bnd at e
    split at e
    · cases e
    · exact ⟨_, _, rfl, b, p, e, h⟩
    · cases e
  · rintro ⟨a, p, rfl, h⟩
    exact h
theorem ok_lift {α : Type} {o : Option α} {pl : Pl} {Q : α → Pl → Prop} : Ok (lift o pl) Q ↔ ∃ a, o = some a ∧ Q a pl := by
  cases o with
  | none =>
    constructor
    · rintro ⟨b, p, e, h⟩; cases e
    · rintro ⟨a, e, h⟩; cases e
  | some a =>
    show Ok (some (.ok a pl)) Q ↔ _
    rw [ok_ok]
    simp
/-- a block ends well -/
def OkS (r : RS) (Q : SOut → Prop) : Prop := ∃ o, r = some o ∧ Q o
theorem okS_some {o : SOut} {Q : SOut → Prop} : OkS (some o) Q ↔ Q o := by
  unfold OkS
  constructor
  · rintro ⟨b, e, h⟩
    cases e; exact h
  · exact fun h => ⟨o, rfl, h⟩
theorem okS_bnd {α : Type} {r : R α} {f : α → Pl → RS} {Q : SOut → Prop} (h : Ok r fun a p => OkS (f a p) Q) : OkS (bndS r f) Q := by
  obtain ⟨a, p, rfl, h⟩ := h
  exact h
theorem OkS.mono {r : RS} {Q Q' : SOut → Prop} (h : OkS r Q) (w : ∀ o, Q o → Q' o) : OkS r Q' := by
  obtain ⟨o, e, q⟩ := h
  exact ⟨o, e, w o q⟩
/-- what follows a statement -/
def Thn (cl : Call) (r : Ss) (Q : SOut → Prop) : SOut → Prop
  | .nx ρ pl => OkS (evSs cl r ρ pl) Q
  | o => Q o
theorem okS_cons {cl : Call} {s : S} {r : Ss} {ρ : Rho} {pl : Pl} {Q : SOut → Prop} (h : OkS (evS cl s ρ pl) (Thn cl r Q)) : OkS (evSs cl (.cons s r) ρ pl) Q := by
  obtain ⟨o, e, q⟩ := h
  rw [evSs, e]
  cases o with
  | nx ρ' pl' => exact q
  | rt d p => exact ⟨_, rfl, q⟩
  | bk d p => exact ⟨_, rfl, q⟩
  | ct d p => exact ⟨_, rfl, q⟩
  | ex d p => exact ⟨_, rfl, q⟩
theorem thn_nx {cl : Call} {r : Ss} {ρ : Rho} {pl : Pl} {Q : SOut → Prop} (h : OkS (evSs cl r ρ pl) Q) : Thn cl r Q (.nx ρ pl) := h
theorem okS_nil {cl : Call} {ρ : Rho} {pl : Pl} {Q : SOut → Prop} (h : Q (.nx ρ pl)) : OkS (evSs cl .nil ρ pl) Q := ⟨_, rfl, h⟩
/-- a def's end -/
def Ret (Q : D → Pl → Prop) : SOut → Prop
  | .rt d pl => Q d pl
  | .nx _ pl => Q .non pl
  | _ => False
theorem ok_ret {r : RS} {Q : D → Pl → Prop} (h : OkS r (Ret Q)) : Ok (retS r) Q := by
  obtain ⟨o, rfl, q⟩ := h
  cases o with
  | rt d pl => exact ⟨_, _, rfl, q⟩
  | nx ρ pl => exact ⟨_, _, rfl, q⟩
  | bk d p => exact q.elim
  | ct d p => exact q.elim
  | ex d p => exact q.elim
theorem evF_def {P : List DefI} {n : Nat} {d : DefI} (h : P[n]? = some d) (k : Nat) {ds : List D} {pl : Pl} (hl : ds.length = d.ps.length) : evF P (k + 1) n ds pl = retS (evSs (evF P k) d.body (startR d.N.length ds) pl) := by
  rw [evF_succ, h]
  exact if_pos hl
/-- by its parts -/
theorem evF_at {P : List DefI} {n : Nat} {d : DefI} (h : P[n]? = some d) (k : Nat) {ds : List D} {pl : Pl} (m : Nat) (b : Ss) (hl : ds.length = d.ps.length := by rfl) (hm : d.N.length = m := by rfl) (hb : d.body = b := by rfl) : evF P (k + 1) n ds pl = retS (evSs (evF P k) b (startR m ds) pl) := by
  rw [evF_def h k hl, hm, hb]
theorem ok_def {P : List DefI} {n : Nat} {d : DefI} (h : P[n]? = some d) (k : Nat) {ds : List D} {pl : Pl} {Q : D → Pl → Prop} (hl : ds.length = d.ps.length) (q : OkS (evSs (evF P k) d.body (startR d.N.length ds) pl) (Ret Q)) : Ok (evF P (k + 1) n ds pl) Q := by
  rw [evF_def h k hl]
  exact ok_ret q
theorem ok_at {P : List DefI} {n : Nat} {d : DefI} (h : P[n]? = some d) (k : Nat) {ds : List D} {pl : Pl} {Q : D → Pl → Prop} (m : Nat) (b : Ss) (q : OkS (evSs (evF P k) b (startR m ds) pl) (Ret Q)) (hl : ds.length = d.ps.length := by rfl) (hm : d.N.length = m := by rfl) (hb : d.body = b := by rfl) : Ok (evF P (k + 1) n ds pl) Q := by
  rw [evF_at h k m b hl hm hb]
  exact ok_ret q
/-! ### comprehensions -/
theorem compL_pure {f : D → Pl → R (List D)} {g : D → List D} {pl : Pl} : ∀ {xs : List D}, (∀ x ∈ xs, f x pl = some (.ok (g x) pl)) → compL f xs pl = some (.ok (xs.flatMap g) pl)
  | [], _ => rfl
  | x :: xs, h => by
    rw [compL, h x List.mem_cons_self]
    simp only
    rw [compL_pure fun y hy => h y (List.mem_cons_of_mem _ hy)]
    rfl
theorem flatMap_one {g : D → D} : ∀ xs : List D, xs.flatMap (fun x => [g x]) = xs.map g
  | [] => rfl
  | x :: xs => by rw [List.flatMap_cons, flatMap_one xs]; rfl
/-- each item one value -/
theorem compL_map {f : D → Pl → R (List D)} {g : D → D} {pl : Pl} {xs : List D} (h : ∀ x ∈ xs, f x pl = some (.ok [g x] pl)) : compL f xs pl = some (.ok (xs.map g) pl) := by
  rw [compL_pure (g := fun x => [g x]) h]
  congr 2
  exact flatMap_one xs
theorem flatMap_filter {p : D → Bool} : ∀ xs : List D, xs.flatMap (fun x => if p x then [x] else []) = xs.filter p
  | [] => rfl
  | x :: xs => by
    rw [List.flatMap_cons, List.filter_cons, flatMap_filter xs]
    split <;> rfl
theorem compL_filter {f : D → Pl → R (List D)} {p : D → Bool} {pl : Pl} {xs : List D} (h : ∀ x ∈ xs, f x pl = some (.ok (if p x then [x] else []) pl)) : compL f xs pl = some (.ok (xs.filter p) pl) := by
  rw [compL_pure (g := fun x => if p x then [x] else []) h]
  congr 2
  exact flatMap_filter xs
/-- items that change the pool -/
theorem compL_ok {f : D → Pl → R (List D)} {I : Pl → Prop} {J : D → Prop} {n : Nat} : ∀ {xs : List D} {pl : Pl}, I pl → (∀ x ∈ xs, ∀ pl, I pl → Ok (f x pl) fun ys pl' => I pl' ∧ (∀ y ∈ ys, J y) ∧ ys.length ≤ n) →
    Ok (compL f xs pl) fun ys pl' => I pl' ∧ (∀ y ∈ ys, J y) ∧ ys.length ≤ n * xs.length
  | [], pl, hI, _ => ⟨[], pl, rfl, hI, by simp, by simp⟩
  | x :: xs, pl, hI, h => by
    obtain ⟨ys, p1, e1, h1, h2, h3⟩ := h x List.mem_cons_self pl hI
    obtain ⟨zs, p2, e2, h4, h5, h6⟩ := compL_ok (xs := xs) h1 fun y hy => h y (List.mem_cons_of_mem _ hy)
    refine ⟨ys ++ zs, p2, by rw [compL, e1]; simp only; rw [e2], h4, fun y hy => ?_, ?_⟩
    · rcases List.mem_append.mp hy with hy | hy
      · exact h2 y hy
      · exact h5 y hy
    · rw [List.length_append, List.length_cons, Nat.mul_add]; omega
/-- a comprehension of one clause, no test -/
theorem lc_map {cl : Call} {vs : List Nat} {i : Nat} {it : It} {e : E} {ρ : Rho} {pl p1 : Pl} {xs : List D} (g : D → D) (h1 : evIt cl it ρ pl = some (.ok xs p1)) (h2 : ∀ x ∈ xs, evE cl e ((wipeR ρ vs).set i (some (.val x))) p1 = some (.ok (g x) p1)) :
    evE cl (.lc vs (.nm i) it .none e) ρ pl = some (.ok (.lst (xs.map g)) p1) := by
  rw [evE, h1, bnd_k, compL_map (g := g)]
  · rfl
  · intro x hx
    simp only [setTg, evC, bnd_k]
    rw [h2 x hx, bnd_k]
/-- .. with a test -/
theorem lc_if {cl : Call} {vs : List Nat} {i : Nat} {it : It} {c e : E} {ρ : Rho} {pl p1 : Pl} {xs : List D} (q : D → Bool) (g : D → D) (h1 : evIt cl it ρ pl = some (.ok xs p1)) (h2 : ∀ x ∈ xs, evE cl c ((wipeR ρ vs).set i (some (.val x))) p1 = some (.ok (.bl (q x)) p1))
    (h3 : ∀ x ∈ xs, q x = true → evE cl e ((wipeR ρ vs).set i (some (.val x))) p1 = some (.ok (g x) p1)) :
    evE cl (.lc vs (.nm i) it (.some c) e) ρ pl = some (.ok (.lst ((xs.filter q).map g)) p1) := by
  rw [evE, h1, bnd_k, compL_pure (g := fun x => if q x then [g x] else [])]
  · rw [bnd_k]
    have : ∀ xs : List D, xs.flatMap (fun x => if q x then [g x] else []) = (xs.filter q).map g := by
      intro xs
      induction xs with
      | nil => rfl
      | cons x xs ih =>
        rw [List.flatMap_cons, ih, List.filter_cons]
        split <;> rfl
    rw [this]
  · intro x hx
    simp only [setTg, evC]
    rw [h2 x hx, bnd_k]
    simp only [boolOf, lift_k, bnd_k]
    cases hq : q x with
    | true =>
      simp only [h3 x hx hq, bnd_k]
      rfl
    | false => rfl
/-- two names taken apart -/
theorem lc_map2 {cl : Call} {vs : List Nat} {i j : Nat} {it : It} {e : E} {ρ : Rho} {pl p1 : Pl} {xs : List D} (g : D → D) (h1 : evIt cl it ρ pl = some (.ok xs p1)) (h2 : ∀ x ∈ xs, ∃ a b, x = .tup [a, b] ∧ evE cl e (((wipeR ρ vs).set i (some (.val a))).set j (some (.val b))) p1 = some (.ok (g x) p1)) :
    evE cl (.lc vs (.tp [i, j]) it .none e) ρ pl = some (.ok (.lst (xs.map g)) p1) := by
  rw [evE, h1, bnd_k, compL_map (g := g)]
  · rfl
  · intro x hx
    obtain ⟨a, b, rfl, h⟩ := h2 x hx
    simp only [setTg, setAll, evC, bnd_k]
    rw [h, bnd_k]
/-- items that change the pool -/
theorem lc_ok {cl : Call} {vs : List Nat} {i : Nat} {it : It} {e : E} {ρ : Rho} {pl p1 : Pl} {xs : List D} {I : Pl → Prop} {J : D → Prop} {Q : D → Pl → Prop} (h1 : evIt cl it ρ pl = some (.ok xs p1)) (hI : I p1)
    (h2 : ∀ x ∈ xs, ∀ p, I p → Ok (evE cl e ((wipeR ρ vs).set i (some (.val x))) p) fun d p' => I p' ∧ J d) (hQ : ∀ ys p, I p → (∀ y ∈ ys, J y) → ys.length ≤ xs.length → Q (.lst ys) p) :
    Ok (evE cl (.lc vs (.nm i) it .none e) ρ pl) Q := by
  rw [evE, h1, bnd_k, ok_bnd]
  refine (compL_ok (I := I) (J := J) (n := 1) hI fun x hx p hp => ?_).mono fun ys p ⟨a, b, c⟩ => ?_
  · simp only [setTg, evC, bnd_k]
    rw [ok_bnd]
    refine (h2 x hx p hp).mono fun d p' ⟨h3, h4⟩ => ?_
    rw [ok_ok]
    exact ⟨h3, by intro y hy; rw [List.mem_singleton.mp hy]; exact h4, by simp⟩
  · rw [ok_ok]
    exact hQ ys p a b (by omega)
theorem s_set {cl : Call} {i : Nat} {e : E} {ρ : Rho} {pl p1 : Pl} {d : D} (h : evE cl e ρ pl = some (.ok d p1)) : evS cl (.set i e) ρ pl = some (.nx (ρ.set i (some (.val d))) p1) := by
  rw [evS, h, bndS_k]
theorem s_ret {cl : Call} {e : E} {ρ : Rho} {pl p1 : Pl} {d : D} (h : evE cl e ρ pl = some (.ok d p1)) : evS cl (.ret e) ρ pl = some (.rt d p1) := by
  rw [evS, h, bndS_k]
theorem s_if {cl : Call} {c : E} {a b : Ss} {ρ : Rho} {pl p1 : Pl} {q : Bool} (h : evE cl c ρ pl = some (.ok (.bl q) p1)) : evS cl (.iff c a b) ρ pl = if q then evSs cl a ρ p1 else evSs cl b ρ p1 := by
  rw [evS, h, bndS_k]
  cases q <;> rfl
theorem ss_nx {cl : Call} {s : S} {r : Ss} {ρ ρ' : Rho} {pl p1 : Pl} (h : evS cl s ρ pl = some (.nx ρ' p1)) : evSs cl (.cons s r) ρ pl = evSs cl r ρ' p1 := by
  rw [evSs, h]
theorem ss_rt {cl : Call} {s : S} {r : Ss} {ρ : Rho} {pl p1 : Pl} {d : D} (h : evS cl s ρ pl = some (.rt d p1)) : evSs cl (.cons s r) ρ pl = some (.rt d p1) := by
  rw [evSs, h]
theorem e_call {cl : Call} {x : Str} {n : Nat} {es : Es} {ρ : Rho} {pl p1 : Pl} {ds : List D} (h : evEs cl es ρ pl = some (.ok ds p1)) : evE cl (.call x n es) ρ pl = cl n ds p1 := by
  rw [evE, h, bnd_k]
theorem e_cons {cl : Call} {e : E} {es : Es} {ρ : Rho} {pl p1 p2 : Pl} {d : D} {ds : List D} (h : evE cl e ρ pl = some (.ok d p1)) (h2 : evEs cl es ρ p1 = some (.ok ds p2)) : evEs cl (.cons e es) ρ pl = some (.ok (d :: ds) p2) := by
  rw [evEs, h, bnd_k, h2, bnd_k]
theorem e_nil {cl : Call} {ρ : Rho} {pl : Pl} : evEs cl .nil ρ pl = some (.ok [] pl) := rfl
theorem e_lst {cl : Call} {es : Es} {ρ : Rho} {pl p1 : Pl} {ds : List D} (h : evEs cl es ρ pl = some (.ok ds p1)) : evE cl (.lst es) ρ pl = some (.ok (.lst ds) p1) := by
  rw [evE, h, bnd_k]
theorem e_tup {cl : Call} {es : Es} {ρ : Rho} {pl p1 : Pl} {ds : List D} (h : evEs cl es ρ pl = some (.ok ds p1)) : evE cl (.tup es) ρ pl = some (.ok (.tup ds) p1) := by
  rw [evE, h, bnd_k]
theorem e_bi {cl : Call} {f : Bi} {e : E} {ρ : Rho} {pl p1 : Pl} {d d' : D} (h : evE cl e ρ pl = some (.ok d p1)) (h2 : biS f d = some d') : evE cl (.bi f e) ρ pl = some (.ok d' p1) := by
  rw [evE, h, bnd_k, h2, lift_k]
theorem e_var {cl : Call} {i : Nat} {ρ : Rho} {pl : Pl} {d : D} (h : getV ρ i = some d) : evE cl (.var i) ρ pl = some (.ok d pl) := by
  rw [evE, h, lift_k]
theorem it_seq {cl : Call} {e : E} {ρ : Rho} {pl p1 : Pl} {d : D} {xs : List D} (h : evE cl e ρ pl = some (.ok d p1)) (h2 : seqOf d = some xs) : evIt cl (.seq e) ρ pl = some (.ok xs p1) := by
  rw [evIt, h, bnd_k, h2, lift_k]
/-! ### loops -/
/-- a for loop by an invariant of the turn -/
theorem okS_for {body : D → Rho → Pl → RS} {Q : SOut → Prop} (W : Nat → Rho → Pl → Prop) : ∀ {xs : List D} {i : Nat} {ρ : Rho} {pl : Pl}, W i ρ pl →
    (∀ j x ρ pl, xs[j]? = some x → W (i + j) ρ pl → OkS (body x ρ pl) fun o => match o with
      | .nx ρ' pl' => W (i + j + 1) ρ' pl'
      | .ct ρ' pl' => W (i + j + 1) ρ' pl'
      | .bk ρ' pl' => Q (.nx ρ' pl')
      | o => Q o) → (∀ ρ pl, W (i + xs.length) ρ pl → Q (.nx ρ pl)) → OkS (forL body xs ρ pl) Q
  | [], i, ρ, pl, hW, _, he => ⟨_, rfl, he ρ pl hW⟩
  | x :: xs, i, ρ, pl, hW, hb, he => by
    obtain ⟨o, e, q⟩ := hb 0 x ρ pl rfl hW
    have go : ∀ ρ' pl', W (i + 1) ρ' pl' → OkS (forL body xs ρ' pl') Q := fun ρ' pl' w => okS_for W (i := i + 1) w (fun j y ρ2 pl2 hy w2 => by
      have := hb (j + 1) y ρ2 pl2 (by simpa using hy) (by rw [show i + (j + 1) = i + 1 + j by omega]; exact w2)
      rw [show i + (j + 1) + 1 = i + 1 + j + 1 by omega] at this
      exact this) fun ρ2 pl2 w2 => he ρ2 pl2 (by rw [List.length_cons, show i + (xs.length + 1) = i + 1 + xs.length by omega]; exact w2)
    rw [forL, e]
    cases o with
    | nx ρ' pl' => exact go ρ' pl' q
    | ct ρ' pl' => exact go ρ' pl' q
    | bk ρ' pl' => exact ⟨_, rfl, q⟩
    | rt d p => exact ⟨_, rfl, q⟩
    | ex d p => exact ⟨_, rfl, q⟩
/-- a while loop by an invariant and a measure -/
theorem okS_whl {c : Rho → Pl → R Bool} {body : Rho → Pl → RS} {Q : SOut → Prop} (W : Nat → Rho → Pl → Prop) (hs : ∀ m ρ pl, W m ρ pl → Ok (c ρ pl) fun b pl1 => match b with
      | false => Q (.nx ρ pl1)
      | true => OkS (body ρ pl1) fun o => match o with
        | .nx ρ' pl' => ∃ m', m' < m ∧ W m' ρ' pl'
        | .ct ρ' pl' => ∃ m', m' < m ∧ W m' ρ' pl'
        | .bk ρ' pl' => Q (.nx ρ' pl')
        | o => Q o) : ∀ (m n : Nat) (ρ : Rho) (pl : Pl), m < n → W m ρ pl → OkS (whlL c body n ρ pl) Q := by
  intro m
  induction m using Nat.strongRecOn with
  | _ m ih =>
    intro n ρ pl hn w
    obtain ⟨n, rfl⟩ : ∃ n', n = n' + 1 := ⟨n - 1, by omega⟩
    obtain ⟨b, p1, e1, q1⟩ := hs m ρ pl w
    rw [whlL, e1]
    cases b with
    | false => exact ⟨_, rfl, q1⟩
    | true =>
      obtain ⟨o, e2, q2⟩ := q1
      show OkS (match body ρ p1 with
        | some (.nx ρ' pl') => whlL c body n ρ' pl'
        | some (.ct ρ' pl') => whlL c body n ρ' pl'
        | some (.bk ρ' pl') => some (.nx ρ' pl')
        | o => o) Q
      rw [e2]
      cases o with
      | nx ρ' pl' =>
        obtain ⟨m', h1, h2⟩ := q2
        exact ih m' h1 n ρ' pl' (by omega) h2
      | ct ρ' pl' =>
        obtain ⟨m', h1, h2⟩ := q2
        exact ih m' h1 n ρ' pl' (by omega) h2
      | bk ρ' pl' => exact ⟨_, rfl, q2⟩
      | rt d p => exact ⟨_, rfl, q2⟩
      | ex d p => exact ⟨_, rfl, q2⟩
theorem at_nat {α : Type} (l : List α) (i : Nat) : atI l (i : Int) = l[i]? := by
  unfold atI ixN
  by_cases h : i < l.length
  · simp [h]
  · simp [h, List.getElem?_eq_none (Nat.le_of_not_lt h)]
/-- the pool -/
def PoolOk (pl : Pl) : Prop := ∃ (ns : List Int) (a b c s : Int), pl = [.lst (ns.map .int), .int a, .int b, .int c, .int s] ∧ 0 ≤ a
theorem toPs_ints : ∀ ns : List Int, toPs (ns.map .int) = some (ns.map PyData.int)
  | [] => rfl
  | n :: ns => by rw [List.map_cons, toPs, toPs_ints ns]; rfl
theorem any_ints (p : Int) : ∀ ns : List Int, ((ns.map PyData.int).any fun q => PyData.eqv q (.int p)) = decide (p ∈ ns)
  | [] => rfl
  | n :: ns => by
    rw [List.map_cons, List.any_cons, any_ints p ns]
    by_cases h : p = n
    · simp [PyData.eqv, h]
    · have h' : n ≠ p := fun z => h z.symm
      simp [PyData.eqv, h, h']
theorem in_ints (p : Int) (ns : List Int) : inS (.int p) (.lst (ns.map .int)) = some (decide (p ∈ ns)) := by
  simp [inS, toP, toPs_ints, dep, PyData.depth, -List.any_map, any_ints]
theorem intL_ints : ∀ ns : List Int, intL (ns.map .int) = some ns
  | [] => rfl
  | n :: ns => by rw [List.map_cons, intL, intL_ints ns]; rfl
theorem boolL_bls : ∀ ns : List Bool, boolL (ns.map .bl) = some ns
  | [] => rfl
  | n :: ns => by rw [List.map_cons, boolL, boolL_bls ns]; rfl
theorem eq_int (a b : Int) : eqS (.int a) (.int b) = some (decide (a = b)) := by
  simp [eqS, toP, dep, PyData.depth, PyData.eqv]
  rfl
theorem ok_eq {α : Type} {r : R α} {x : α} {y : Pl} (h : Ok r fun a p => a = x ∧ p = y) : r = some (.ok x y) := by
  obtain ⟨a, p, e, rfl, rfl⟩ := h
  exact e
theorem eq_ok {α : Type} {r : R α} {x : α} {y : Pl} {Q : α → Pl → Prop} (h : r = some (.ok x y)) (q : Q x y) : Ok r Q := ⟨x, y, h, q⟩
theorem it_r1 {cl : Call} {e : E} {ρ : Rho} {pl p : Pl} {n : Int} (h : evE cl e ρ pl = some (.ok (.int n) p)) (h1 : small n = true) (h2 : n.toNat ≤ LIM) : evIt cl (.r1 e) ρ pl = some (.ok (rng 0 n.toNat) p) := by
  rw [evIt, h]
  simp only [bnd, intOf]
  rw [if_pos ⟨h1, h2⟩]
theorem small_nat {n : Nat} (h : n ≤ LIM) : small (n : Int) = true := by unfold LIM at h; unfold small; simp; omega
/-- range(len(xs)) -/
theorem it_len {cl : Call} {e : E} {ρ : Rho} {pl p : Pl} {n : Nat} (h : evE cl e ρ pl = some (.ok (.int n) p)) (h2 : n ≤ LIM) : evIt cl (.r1 e) ρ pl = some (.ok (rng 0 n) p) := by
  have := it_r1 h (small_nat h2) (by rw [Int.toNat_natCast]; exact h2)
  rwa [Int.toNat_natCast] at this
end Ev

set_option Elab.async false
set_option linter.all false
set_option maxRecDepth 100000
set_option maxHeartbeats 4000000
/-! The language of law_k69_whole_sieves, printed by gen.py. -/
namespace K69
open PySem PySem.Spec PyProof.Rows L2 Ev
def top (i : Nat) : Stmt := PySem.Challenge.pw_everystore_k69_whole_sieves.main.body.getD i (.Pass ⟨0, 0, 0, 0⟩)
/-- is_whole -/
def i_is_whole : DefI := ⟨["value"], ["value"],
(.cons (.ret (.an (.isin (.var 0) .int) (.nt (.isin (.var 0) .bool))))
.nil)⟩
abbrev n_is_whole : Nat := 0
def r_is_whole : He.DefD := ⟨("is_whole", none), "is_whole", "is_whole", C8.fnArgs (top 2), C8.fnBody (top 2), C8.fnScope (top 2), [], []⟩
/-- first_true -/
def i_first_true : DefI := ⟨["flags"], ["flags", "k"],
(.cons (.forr (.nm 1) (.r1 (.bi .len (.var 0))) (.cons (.iff (.ix (.var 0) (.var 1)) (.cons (.ret (.var 1))
.nil) .nil)
.nil))
(.cons (.ret .non)
.nil))⟩
abbrev n_first_true : Nat := 1
def r_first_true : He.DefD := ⟨("first_true", none), "first_true", "first_true", C8.fnArgs (top 3), C8.fnBody (top 3), C8.fnScope (top 3), [], []⟩
/-- fault_at -/
def i_fault_at : DefI := ⟨["word", "place"], ["word", "place"],
(.cons (.ret (.ite (.cmp .Is (.var 1) .non) .non (.tup (.cons (.var 0) (.cons (.var 1) .nil)))))
.nil)⟩
abbrev n_fault_at : Nat := 2
def r_fault_at : He.DefD := ⟨("fault_at", none), "fault_at", "fault_at", C8.fnArgs (top 4), C8.fnBody (top 4), C8.fnScope (top 4), [], []⟩
/-- first_of -/
def i_first_of : DefI := ⟨["faults"], ["faults", "fault"],
(.cons (.forr (.nm 1) (.seq (.var 0)) (.cons (.iff (.cmp .IsNot (.var 1) .non) (.cons (.ret (.var 1))
.nil) .nil)
.nil))
(.cons (.ret .non)
.nil))⟩
abbrev n_first_of : Nat := 3
def r_first_of : He.DefD := ⟨("first_of", none), "first_of", "first_of", C8.fnArgs (top 5), C8.fnBody (top 5), C8.fnScope (top 5), [], []⟩
/-- mixed -/
def i_mixed : DefI := ⟨["key"], ["key"],
(.cons (.ret (.bin .Mod (.bin .Add (.bin .Mult (.int (37)) (.var 0)) (.int (11))) (.int (101))))
.nil)⟩
abbrev n_mixed : Nat := 4
def r_mixed : He.DefD := ⟨("mixed", none), "mixed", "mixed", C8.fnArgs (top 6), C8.fnBody (top 6), C8.fnScope (top 6), [], []⟩
/-- places -/
def i_places : DefI := ⟨["key"], ["key", "turn"],
(.cons (.ret (.lc [1] (.nm 1) (.r1 (.glo "TURNS" (.int (3)))) .none (.bin .Mod (.bin .Add (.bin .Mult (.call "mixed" 4 (.cons (.var 0) .nil)) (.bin .Add (.var 1) (.int (1)))) (.bin .Mult (.int (7)) (.var 1))) (.glo "MANY" (.int (32))))))
.nil)⟩
abbrev n_places : Nat := 5
def r_places : He.DefD := ⟨("places", none), "places", "places", C8.fnArgs (top 10), C8.fnBody (top 10), C8.fnScope (top 10), [], []⟩
/-- sieve_of -/
def i_sieve_of : DefI := ⟨["keys"], ["keys", "held", "key", "place"],
(.cons (.set 1 (.lc2 [2, 3] [3] (.nm 2) (.seq (.var 0)) (.nm 3) (.seq (.call "places" 5 (.cons (.var 2) .nil))) .none (.var 3)))
(.cons (.ret (.bi .tuple (.lc [3] (.nm 3) (.r1 (.glo "MANY" (.int (32)))) .none (.bi .int (.cmp .In (.var 3) (.var 1))))))
.nil))⟩
abbrev n_sieve_of : Nat := 6
def r_sieve_of : He.DefD := ⟨("sieve_of", none), "sieve_of", "sieve_of", C8.fnArgs (top 11), C8.fnBody (top 11), C8.fnScope (top 11), [], []⟩
/-- fault -/
def i_fault : DefI := ⟨["value"], ["value", "length", "bit"],
(.cons (.iff (.orr (.nt (.isin (.var 0) .tuple)) (.nt (.bi .all (.lc [2] (.nm 2) (.seq (.var 0)) .none (.call "is_whole" 0 (.cons (.var 2) .nil)))))) (.cons (.ret (.glo "FORM" (.tup [(.str "form"), (.int (0))])))
.nil) .nil)
(.cons (.set 1 (.ite (.cmp .NotEq (.bi .len (.var 0)) (.glo "MANY" (.int (32)))) (.bi .len (.var 0)) .non))
(.cons (.ret (.call "first_of" 3 (.cons (.lst (.cons (.call "fault_at" 2 (.cons (.str "length") (.cons (.var 1) .nil))) (.cons (.call "fault_at" 2 (.cons (.str "bit") (.cons (.call "first_true" 1 (.cons (.lc [2] (.nm 2) (.seq (.var 0)) .none (.cmp .NotIn (.var 2) (.tup (.cons (.int (0)) (.cons (.int (1)) .nil))))) .nil)) .nil))) .nil))) .nil)))
.nil)))⟩
abbrev n_fault : Nat := 7
def r_fault : He.DefD := ⟨("fault", none), "fault", "fault", C8.fnArgs (top 12), C8.fnBody (top 12), C8.fnScope (top 12), [], []⟩
/-- may_hold -/
def i_may_hold : DefI := ⟨["sieve", "key"], ["sieve", "key", "place"],
(.cons (.ret (.bi .all (.lc [2] (.nm 2) (.seq (.call "places" 5 (.cons (.var 1) .nil))) .none (.cmp .Eq (.ix (.var 0) (.var 2)) (.int (1))))))
.nil)⟩
abbrev n_may_hold : Nat := 8
def r_may_hold : He.DefD := ⟨("may_hold", none), "may_hold", "may_hold", C8.fnArgs (top 13), C8.fnBody (top 13), C8.fnScope (top 13), [], []⟩
/-- with_key -/
def i_with_key : DefI := ⟨["sieve", "key"], ["sieve", "key", "held", "place"],
(.cons (.set 2 (.call "places" 5 (.cons (.var 1) .nil)))
(.cons (.ret (.bi .tuple (.lc [3] (.nm 3) (.r1 (.glo "MANY" (.int (32)))) .none (.ite (.cmp .In (.var 3) (.var 2)) (.int (1)) (.ix (.var 0) (.var 3))))))
.nil))⟩
abbrev n_with_key : Nat := 9
def r_with_key : He.DefD := ⟨("with_key", none), "with_key", "with_key", C8.fnArgs (top 14), C8.fnBody (top 14), C8.fnScope (top 14), [], []⟩
/-- both -/
def i_both : DefI := ⟨["one", "two"], ["one", "two", "a", "b"],
(.cons (.ret (.bi .tuple (.lc [2, 3] (.tp [2, 3]) (.zip (.var 0) (.var 1)) .none (.bi2 .max (.var 2) (.var 3)))))
.nil)⟩
abbrev n_both : Nat := 10
def r_both : He.DefD := ⟨("both", none), "both", "both", C8.fnArgs (top 15), C8.fnBody (top 15), C8.fnScope (top 15), [], []⟩
/-- held_of -/
def i_held_of : DefI := ⟨["sieve", "keys"], ["sieve", "keys", "key"],
(.cons (.ret (.lc [2] (.nm 2) (.seq (.var 1)) (.some (.call "may_hold" 8 (.cons (.var 0) (.cons (.var 2) .nil)))) (.var 2)))
.nil)⟩
abbrev n_held_of : Nat := 11
def r_held_of : He.DefD := ⟨("held_of", none), "held_of", "held_of", C8.fnArgs (top 16), C8.fnBody (top 16), C8.fnScope (top 16), [], []⟩
/-- fullness -/
def i_fullness : DefI := ⟨["sieve"], ["sieve"],
(.cons (.ret (.bi .sum (.var 0)))
.nil)⟩
abbrev n_fullness : Nat := 12
def r_fullness : He.DefD := ⟨("fullness", none), "fullness", "fullness", C8.fnArgs (top 17), C8.fnBody (top 17), C8.fnScope (top 17), [], []⟩
/-- _law_is_integer -/
def i__law_is_integer : DefI := ⟨["actual"], ["actual"],
(.cons (.ret (.an (.isin (.var 0) .int) (.nt (.isin (.var 0) .bool))))
.nil)⟩
abbrev n__law_is_integer : Nat := 13
def r__law_is_integer : He.DefD := ⟨("_law_is_integer", none), "_law_is_integer", "_law_is_integer", C8.fnArgs (top 19), C8.fnBody (top 19), C8.fnScope (top 19), [], []⟩
/-- _law_same -/
def i__law_same : DefI := ⟨["actual", "due"], ["actual", "due", "k"],
(.cons (.iff (.orr (.isin (.var 1) .tuple) (.isin (.var 1) .list)) (.cons (.iff (.orr (.cmp .NotEq (.isin (.var 1) .tuple) (.isin (.var 0) .tuple)) (.orr (.cmp .NotEq (.isin (.var 1) .list) (.isin (.var 0) .list)) (.cmp .NotEq (.bi .len (.var 0)) (.bi .len (.var 1))))) (.cons (.ret (.bl false))
.nil) .nil)
(.cons (.ret (.cmp .Eq (.bi .len (.lc [2] (.nm 2) (.r1 (.bi .len (.var 1))) (.some (.nt (.call "_law_same" 14 (.cons (.ix (.var 0) (.var 2)) (.cons (.ix (.var 1) (.var 2)) .nil))))) (.var 2))) (.int (0))))
.nil)) .nil)
(.cons (.iff (.cmp .Is (.var 1) .non) (.cons (.ret (.cmp .Is (.var 0) .non))
.nil) .nil)
(.cons (.iff (.orr (.isin (.var 1) .bool) (.isin (.var 0) .bool)) (.cons (.ret (.an (.isin (.var 1) .bool) (.an (.isin (.var 0) .bool) (.cmp .Eq (.var 0) (.var 1)))))
.nil) .nil)
(.cons (.iff (.isin (.var 1) .int) (.cons (.ret (.an (.isin (.var 0) .int) (.cmp .Eq (.var 0) (.var 1))))
.nil) .nil)
(.cons (.ret (.an (.isin (.var 0) .str) (.an (.isin (.var 1) .str) (.cmp .Eq (.var 0) (.var 1)))))
.nil)))))⟩
abbrev n__law_same : Nat := 14
def r__law_same : He.DefD := ⟨("_law_same", none), "_law_same", "_law_same", C8.fnArgs (top 20), C8.fnBody (top 20), C8.fnScope (top 20), [], []⟩
/-- _law_pool -/
def i__law_pool : DefI := ⟨["script"], ["script", "salt", "cell"],
(.cons (.set 1 (.int (7)))
(.cons (.forr (.nm 2) (.seq (.slc (.var 0) .none (.some (.int (63))))) (.cons (.set 1 (.bin .Mod (.bi .int (.bin .Add (.bin .Mult (.var 1) (.int (31))) (.var 2))) (.int (1000003))))
.nil))
(.cons (.ret (.lst (.cons (.bi .list (.var 0)) (.cons (.int (0)) (.cons (.int (0)) (.cons (.int (0)) (.cons (.var 1) .nil)))))))
.nil)))⟩
abbrev n__law_pool : Nat := 15
def r__law_pool : He.DefD := ⟨("_law_pool", none), "_law_pool", "_law_pool", C8.fnArgs (top 21), C8.fnBody (top 21), C8.fnScope (top 21), [], []⟩
/-- _law_spread -/
def i__law_spread : DefI := ⟨["cell"], ["cell", "mixed_v", "total", "k"],
(.cons (.set 1 (.bin .Mod (.bi .int (.var 0)) (.int (2147483647))))
(.cons (.set 2 (.int (1)))
(.cons (.forr (.nm 3) (.r1 (.int (4))) (.cons (.set 1 (.bin .Mod (.bi .int (.bin .Add (.bin .Add (.bin .Mult (.var 1) (.int (48271))) (.int (12345))) (.var 3))) (.int (2147483647))))
(.cons (.set 2 (.bin .Add (.bin .Mult (.var 2) (.int (2147483647))) (.var 1)))
.nil)))
(.cons (.ret (.var 2))
.nil))))⟩
abbrev n__law_spread : Nat := 16
def r__law_spread : He.DefD := ⟨("_law_spread", none), "_law_spread", "_law_spread", C8.fnArgs (top 22), C8.fnBody (top 22), C8.fnScope (top 22), [], []⟩
/-- _law_draw -/
def i__law_draw : DefI := ⟨["pool", "many"], ["pool", "many", "value", "cell", "mixed_v"],
(.cons (.iff (.an (.cmp .LtE (.ix (.var 0) (.int (2))) (.int (0))) (.cmp .Lt (.ix (.var 0) (.int (1))) (.bi .len (.ix (.var 0) (.int (0)))))) (.cons (.set 3 (.ix (.ix (.var 0) (.int (0))) (.ix (.var 0) (.int (1)))))
(.cons (.sti 0 (.int (1)) (.bin .Add (.ix (.var 0) (.int (1))) (.int (1))))
(.cons (.sti 0 (.int (2)) (.var 3))
(.cons (.iff (.cmp .Lt (.var 3) (.int (1000000000000000000))) (.cons (.sti 0 (.int (2)) (.call "_law_spread" 16 (.cons (.var 3) .nil)))
.nil) .nil)
.nil)))) .nil)
(.cons (.sti 0 (.int (3)) (.bin .Add (.ix (.var 0) (.int (3))) (.int (1))))
(.cons (.iff (.cmp .LtE (.ix (.var 0) (.int (2))) (.int (0))) (.cons (.set 4 (.bin .Mod (.bi .int (.bin .Add (.bin .Add (.bin .Mult (.ix (.var 0) (.int (4))) (.int (48271))) (.bin .Mult (.ix (.var 0) (.int (3))) (.int (69621)))) (.int (1)))) (.int (2147483647))))
(.cons (.set 4 (.bin .Mod (.bi .int (.bin .Add (.bin .Mult (.var 4) (.int (16807))) (.ix (.var 0) (.int (3))))) (.int (2147483629))))
(.cons (.ret (.bin .Mod (.bin .FloorDiv (.var 4) (.int (5))) (.var 1)))
.nil))) .nil)
(.cons (.set 2 (.bin .Mod (.bi .int (.ix (.var 0) (.int (2)))) (.var 1)))
(.cons (.sti 0 (.int (2)) (.bin .FloorDiv (.ix (.var 0) (.int (2))) (.var 1)))
(.cons (.ret (.var 2))
.nil))))))⟩
abbrev n__law_draw : Nat := 17
def r__law_draw : He.DefD := ⟨("_law_draw", none), "_law_draw", "_law_draw", C8.fnArgs (top 23), C8.fnBody (top 23), C8.fnScope (top 23), [], []⟩
/-- _law_pick -/
def i__law_pick : DefI := ⟨["pool", "items"], ["pool", "items"],
(.cons (.ret (.ix (.var 1) (.call "_law_draw" 17 (.cons (.var 0) (.cons (.bi .len (.var 1)) .nil)))))
.nil)⟩
abbrev n__law_pick : Nat := 18
def r__law_pick : He.DefD := ⟨("_law_pick", none), "_law_pick", "_law_pick", C8.fnArgs (top 24), C8.fnBody (top 24), C8.fnScope (top 24), [], []⟩
/-- _law_bent -/
def i__law_bent : DefI := ⟨["pool", "value"], ["pool", "value", "turn", "at", "other", "items"],
(.cons (.iff (.an (.isin (.var 1) .tuple) (.an (.cmp .Gt (.bi .len (.var 1)) (.int (0))) (.cmp .Gt (.call "_law_draw" 17 (.cons (.var 0) (.cons (.int (4)) .nil))) (.int (0))))) (.cons (.set 3 (.call "_law_draw" 17 (.cons (.var 0) (.cons (.bi .len (.var 1)) .nil))))
(.cons (.ret (.bin .Add (.bin .Add (.slc (.var 1) .none (.some (.var 3))) (.tup (.cons (.call "_law_bent" 19 (.cons (.var 0) (.cons (.ix (.var 1) (.var 3)) .nil))) .nil))) (.slc (.var 1) (.some (.bin .Add (.var 3) (.int (1)))) .none)))
.nil)) .nil)
(.cons (.set 2 (.call "_law_draw" 17 (.cons (.var 0) (.cons (.int (9)) .nil))))
(.cons (.iff (.cmp .Eq (.var 2) (.int (0))) (.cons (.ret (.ix (.tup (.cons (.str "x") (.cons (.bl true) (.cons (.tup .nil) (.cons (.int (0)) (.cons (.neg (.int (1))) (.cons .non (.cons (.bl false) (.cons (.lst .nil) (.cons (.str "in") (.cons (.int (1)) .nil))))))))))) (.call "_law_draw" 17 (.cons (.var 0) (.cons (.int (10)) .nil)))))
.nil) .nil)
(.cons (.iff (.call "_law_is_integer" 13 (.cons (.var 1) .nil)) (.cons (.ret (.bin .Add (.var 1) (.ix (.tup (.cons (.int (1)) (.cons (.neg (.int (1))) (.cons (.int (2)) (.cons (.int (0)) .nil))))) (.call "_law_draw" 17 (.cons (.var 0) (.cons (.int (4)) .nil))))))
.nil) .nil)
(.cons (.iff (.isin (.var 1) .str) (.cons (.ret (.ix (.tup (.cons (.bin .Add (.var 1) (.str "a")) (.cons (.slc (.var 1) (.some (.int (1))) .none) (.cons (.bin .Add (.var 1) (.str "A")) (.cons (.bin .Add (.var 1) (.str " ")) (.cons (.slc (.var 1) .none (.some (.int (1)))) .nil)))))) (.call "_law_draw" 17 (.cons (.var 0) (.cons (.int (5)) .nil)))))
.nil) .nil)
(.cons (.iff (.orr (.nt (.isin (.var 1) .tuple)) (.cmp .Eq (.bi .len (.var 1)) (.int (0)))) (.cons (.ret (.ite (.cmp .Lt (.var 2) (.int (5))) (.tup (.cons (.var 1) (.cons (.int (0)) .nil))) (.tup .nil)))
.nil) .nil)
(.cons (.set 3 (.call "_law_draw" 17 (.cons (.var 0) (.cons (.bi .len (.var 1)) .nil))))
(.cons (.iff (.cmp .Lt (.var 2) (.int (3))) (.cons (.ret (.bin .Add (.slc (.var 1) .none (.some (.var 3))) (.slc (.var 1) (.some (.bin .Add (.var 3) (.int (1)))) .none)))
.nil) .nil)
(.cons (.iff (.cmp .Lt (.var 2) (.int (5))) (.cons (.ret (.bin .Add (.bin .Add (.slc (.var 1) .none (.some (.var 3))) (.tup (.cons (.ix (.var 1) (.var 3)) .nil))) (.slc (.var 1) (.some (.var 3)) .none)))
.nil) .nil)
(.cons (.iff (.cmp .Eq (.var 2) (.int (5))) (.cons (.ret (.bi .list (.var 1)))
.nil) .nil)
(.cons (.set 4 (.call "_law_draw" 17 (.cons (.var 0) (.cons (.bi .len (.var 1)) .nil))))
(.cons (.setN 5 (.bi .list (.var 1)))
(.cons (.sti 5 (.var 3) (.ix (.var 1) (.var 4)))
(.cons (.sti 5 (.var 4) (.ix (.var 1) (.var 3)))
(.cons (.ret (.bi .tuple (.pk 5)))
.nil)))))))))))))))⟩
abbrev n__law_bent : Nat := 19
def r__law_bent : He.DefD := ⟨("_law_bent", none), "_law_bent", "_law_bent", C8.fnArgs (top 25), C8.fnBody (top 25), C8.fnScope (top 25), [], []⟩
/-- _law_booled -/
def i__law_booled : DefI := ⟨["value"], ["value", "one"],
(.cons (.iff (.isin (.var 0) .tuple) (.cons (.ret (.bi .tuple (.lc [1] (.nm 1) (.seq (.var 0)) .none (.call "_law_booled" 20 (.cons (.var 1) .nil)))))
.nil) .nil)
(.cons (.ret (.ite (.an (.call "_law_is_integer" 13 (.cons (.var 0) .nil)) (.cmp .In (.var 0) (.tup (.cons (.int (0)) (.cons (.int (1)) .nil))))) (.cmp .Eq (.var 0) (.int (1))) (.var 0)))
.nil))⟩
abbrev n__law_booled : Nat := 20
def r__law_booled : He.DefD := ⟨("_law_booled", none), "_law_booled", "_law_booled", C8.fnArgs (top 26), C8.fnBody (top 26), C8.fnScope (top 26), [], []⟩
/-- _law_listed -/
def i__law_listed : DefI := ⟨["value", "deep"], ["value", "deep", "one"],
(.cons (.iff (.nt (.isin (.var 0) .tuple)) (.cons (.ret (.var 0))
.nil) .nil)
(.cons (.iff (.cmp .Eq (.var 1) (.int (0))) (.cons (.ret (.bi .list (.var 0)))
.nil) .nil)
(.cons (.ret (.bi .tuple (.lc [2] (.nm 2) (.seq (.var 0)) .none (.call "_law_listed" 21 (.cons (.var 2) (.cons (.bin .Sub (.var 1) (.int (1))) .nil))))))
.nil)))⟩
abbrev n__law_listed : Nat := 21
def r__law_listed : He.DefD := ⟨("_law_listed", none), "_law_listed", "_law_listed", C8.fnArgs (top 27), C8.fnBody (top 27), C8.fnScope (top 27), [], []⟩
/-- _law_odd_values -/
def i__law_odd_values : DefI := ⟨[], ["deep", "k"],
(.cons (.set 0 (.tup .nil))
(.cons (.forr (.nm 1) (.r1 (.int (90))) (.cons (.set 0 (.tup (.cons (.var 0) .nil)))
.nil))
(.cons (.ret (.lst (.cons (.var 0) (.cons (.tup (.cons (.str "plan") (.cons (.var 0) (.cons (.var 0) .nil)))) (.cons .non (.cons (.int (0)) (.cons (.int (1)) (.cons (.bl true) (.cons (.bl false) (.cons (.str "") (.cons (.str "x") (.cons (.tup .nil) (.cons (.lst .nil) (.cons (.dct [] .nil) (.cons (.tup (.cons (.tup .nil) .nil)) (.cons (.tup (.cons (.tup .nil) (.cons (.tup .nil) .nil))) (.cons (.tup (.cons (.int (0)) .nil)) (.cons (.tup (.cons (.int (1)) (.cons (.int (2)) .nil))) (.cons (.tup (.cons (.str "x") .nil)) (.cons (.tup (.cons (.lst .nil) .nil)) (.cons (.dct [(.inr "a")] (.cons (.int (1)) .nil)) (.cons (.tup (.cons .non .nil)) (.cons (.tup (.cons (.tup (.cons (.tup .nil) .nil)) .nil)) (.cons (.neg (.int (1))) .nil))))))))))))))))))))))))
.nil)))⟩
abbrev n__law_odd_values : Nat := 22
def r__law_odd_values : He.DefD := ⟨("_law_odd_values", none), "_law_odd_values", "_law_odd_values", C8.fnArgs (top 28), C8.fnBody (top 28), C8.fnScope (top 28), [], []⟩
/-- _law_first -/
def i__law_first : DefI := ⟨["faults"], ["faults", "one"],
(.cons (.forr (.nm 1) (.seq (.var 0)) (.cons (.iff (.cmp .IsNot (.ix (.var 1) (.int (1))) .non) (.cons (.ret (.var 1))
.nil) .nil)
.nil))
(.cons (.ret .non)
.nil))⟩
abbrev n__law_first : Nat := 23
def r__law_first : He.DefD := ⟨("_law_first", none), "_law_first", "_law_first", C8.fnArgs (top 29), C8.fnBody (top 29), C8.fnScope (top 29), [], []⟩
/-- _law_least -/
def i__law_least : DefI := ⟨["items"], ["items"],
(.cons (.ret (.ite (.cmp .NotEq (.var 0) (.lst .nil)) (.bi .min (.var 0)) .non))
.nil)⟩
abbrev n__law_least : Nat := 24
def r__law_least : He.DefD := ⟨("_law_least", none), "_law_least", "_law_least", C8.fnArgs (top 30), C8.fnBody (top 30), C8.fnScope (top 30), [], []⟩
/-- _law_mixed -/
def i__law_mixed : DefI := ⟨["key"], ["key"],
(.cons (.ret (.bin .Mod (.bi .int (.bin .Add (.bin .Mult (.int (37)) (.var 0)) (.int (11)))) (.int (101))))
.nil)⟩
abbrev n__law_mixed : Nat := 25
def r__law_mixed : He.DefD := ⟨("_law_mixed", none), "_law_mixed", "_law_mixed", C8.fnArgs (top 31), C8.fnBody (top 31), C8.fnScope (top 31), [], []⟩
/-- _law_key -/
def i__law_key : DefI := ⟨["pool"], ["pool"],
(.cons (.ret (.call "_law_draw" 17 (.cons (.var 0) (.cons (.ix (.tup (.cons (.int (12)) (.cons (.int (40)) (.cons (.int (100)) .nil)))) (.call "_law_draw" 17 (.cons (.var 0) (.cons (.int (3)) .nil)))) .nil))))
.nil)⟩
abbrev n__law_key : Nat := 26
def r__law_key : He.DefD := ⟨("_law_key", none), "_law_key", "_law_key", C8.fnArgs (top 32), C8.fnBody (top 32), C8.fnScope (top 32), [], []⟩
/-- _law_bends -/
def i__law_bends : DefI := ⟨["pool", "state"], ["pool", "state", "found", "k", "at", "odd"],
(.cons (.setN 2 (.lst (.cons (.bi .list (.var 1)) (.cons (.slc (.var 1) (.some (.int (1))) .none) (.cons (.slc (.var 1) .none (.some (.neg (.int (1))))) (.cons (.bin .Add (.var 1) (.var 1)) (.cons (.rvt (.var 1)) (.cons (.bin .Add (.var 1) (.slc (.var 1) .none (.some (.int (1))))) (.cons (.call "_law_listed" 21 (.cons (.var 1) (.cons (.int (1)) .nil))) (.cons (.call "_law_listed" 21 (.cons (.var 1) (.cons (.int (2)) .nil))) (.cons (.call "_law_booled" 20 (.cons (.var 1) .nil)) (.cons (.tup .nil) .nil))))))))))))
(.cons (.forr (.nm 3) (.r1 (.int (8))) (.cons (.set 4 (.call "_law_draw" 17 (.cons (.var 0) (.cons (.bin .Add (.bi .len (.var 1)) (.int (1))) .nil))))
(.cons (.set 5 (.call "_law_pick" 18 (.cons (.var 0) (.cons (.bin .Add (.lst (.cons (.int (0)) (.cons (.int (1)) (.cons (.int (5)) (.cons (.int (99)) (.cons (.int (100)) (.cons (.neg (.int (1))) (.cons .non (.cons (.tup .nil) (.cons (.tup (.cons (.int (3)) (.cons (.int (4)) .nil))) (.cons (.tup (.cons (.int (3)) (.cons .non .nil))) (.cons (.tup (.cons (.tup (.cons (.int (3)) (.cons (.int (4)) .nil))) .nil)) (.cons (.tup (.cons (.str "fork") (.cons (.tup .nil) (.cons (.tup .nil) .nil)))) (.cons (.str "gone") (.cons (.str "x") (.cons (.bl true) (.cons (.tup (.cons (.int (7)) (.cons (.int (1)) (.cons (.tup .nil) (.cons (.tup .nil) .nil))))) (.cons (.tup (.cons (.int (7)) (.cons (.int (1)) (.cons (.tup .nil) (.cons (.tup .nil) (.cons (.int (0)) .nil)))))) .nil)))))))))))))))))) (.bi .list (.var 1))) .nil))))
(.cons (.setN 2 (.cat (.pk 2) (.lst (.cons (.bin .Add (.bin .Add (.slc (.var 1) .none (.some (.var 4))) (.tup (.cons (.var 5) .nil))) (.slc (.var 1) (.some (.bin .Add (.var 4) (.int (1)))) .none)) (.cons (.bin .Add (.bin .Add (.slc (.var 1) .none (.some (.var 4))) (.tup (.cons (.var 5) .nil))) (.slc (.var 1) (.some (.var 4)) .none)) (.cons (.bin .Add (.slc (.var 1) .none (.some (.var 4))) (.slc (.var 1) (.some (.bin .Add (.var 4) (.int (1)))) .none)) .nil))))))
(.cons (.app 2 (.call "_law_swapped" 28 (.cons (.var 0) (.cons (.var 1) .nil))))
.nil)))))
(.cons (.ret (.bin .Add (.pk 2) (.lc [3] (.nm 3) (.r1 (.int (12))) .none (.call "_law_bent" 19 (.cons (.var 0) (.cons (.var 1) .nil))))))
.nil)))⟩
abbrev n__law_bends : Nat := 27
def r__law_bends : He.DefD := ⟨("_law_bends", none), "_law_bends", "_law_bends", C8.fnArgs (top 33), C8.fnBody (top 33), C8.fnScope (top 33), [], []⟩
/-- _law_swapped -/
def i__law_swapped : DefI := ⟨["pool", "value"], ["pool", "value", "at", "other", "row"],
(.cons (.iff (.orr (.nt (.isin (.var 1) .tuple)) (.cmp .Eq (.var 1) (.tup .nil))) (.cons (.ret (.var 1))
.nil) .nil)
(.cons (.set 2 (.call "_law_draw" 17 (.cons (.var 0) (.cons (.bi .len (.var 1)) .nil))))
(.cons (.iff (.an (.isin (.ix (.var 1) (.var 2)) .tuple) (.cmp .Gt (.call "_law_draw" 17 (.cons (.var 0) (.cons (.int (4)) .nil))) (.int (0)))) (.cons (.ret (.bin .Add (.bin .Add (.slc (.var 1) .none (.some (.var 2))) (.tup (.cons (.call "_law_swapped" 28 (.cons (.var 0) (.cons (.ix (.var 1) (.var 2)) .nil))) .nil))) (.slc (.var 1) (.some (.bin .Add (.var 2) (.int (1)))) .none)))
.nil) .nil)
(.cons (.set 3 (.call "_law_draw" 17 (.cons (.var 0) (.cons (.bi .len (.var 1)) .nil))))
(.cons (.setN 4 (.bi .list (.var 1)))
(.cons (.st2 4 (.var 2) (.var 3) (.ix (.pk 4) (.var 3)) (.ix (.pk 4) (.var 2)))
(.cons (.ret (.bi .tuple (.pk 4)))
.nil)))))))⟩
abbrev n__law_swapped : Nat := 28
def r__law_swapped : He.DefD := ⟨("_law_swapped", none), "_law_swapped", "_law_swapped", C8.fnArgs (top 34), C8.fnBody (top 34), C8.fnScope (top 34), [], []⟩
/-- _law_places -/
def i__law_places : DefI := ⟨["key"], ["key", "m"],
(.cons (.set 1 (.call "_law_mixed" 25 (.cons (.var 0) .nil)))
(.cons (.ret (.lst (.cons (.bin .Mod (.bi .int (.var 1)) (.int (32))) (.cons (.bin .Mod (.bi .int (.bin .Add (.bin .Mult (.int (2)) (.var 1)) (.int (7)))) (.int (32))) (.cons (.bin .Mod (.bi .int (.bin .Add (.bin .Mult (.int (3)) (.var 1)) (.int (14)))) (.int (32))) .nil)))))
.nil))⟩
abbrev n__law_places : Nat := 29
def r__law_places : He.DefD := ⟨("_law_places", none), "_law_places", "_law_places", C8.fnArgs (top 35), C8.fnBody (top 35), C8.fnScope (top 35), [], []⟩
/-- _law_sieve -/
def i__law_sieve : DefI := ⟨["keys"], ["keys", "held", "key", "place"],
(.cons (.set 1 (.lst .nil))
(.cons (.forr (.nm 2) (.seq (.var 0)) (.cons (.set 1 (.bin .Add (.var 1) (.call "_law_places" 29 (.cons (.var 2) .nil))))
.nil))
(.cons (.ret (.bi .tuple (.lc [3] (.nm 3) (.r1 (.int (32))) .none (.bi .int (.cmp .In (.var 3) (.var 1))))))
.nil)))⟩
abbrev n__law_sieve : Nat := 30
def r__law_sieve : He.DefD := ⟨("_law_sieve", none), "_law_sieve", "_law_sieve", C8.fnArgs (top 36), C8.fnBody (top 36), C8.fnScope (top 36), [], []⟩
/-- _law_f_sieve -/
def i__law_f_sieve : DefI := ⟨["value"], ["value", "bad", "k", "one"],
(.cons (.iff (.orr (.nt (.isin (.var 0) .tuple)) (.cmp .Gt (.bi .len (.lc [3] (.nm 3) (.seq (.var 0)) (.some (.nt (.call "_law_is_integer" 13 (.cons (.var 3) .nil)))) (.var 3))) (.int (0)))) (.cons (.ret (.tup (.cons (.str "form") (.cons (.int (0)) .nil))))
.nil) .nil)
(.cons (.set 1 (.lc [2] (.nm 2) (.r1 (.bi .len (.var 0))) (.some (.cmp .NotIn (.ix (.var 0) (.var 2)) (.tup (.cons (.int (0)) (.cons (.int (1)) .nil))))) (.var 2)))
(.cons (.ret (.call "_law_first" 23 (.cons (.lst (.cons (.tup (.cons (.str "length") (.cons (.ite (.cmp .NotEq (.bi .len (.var 0)) (.int (32))) (.bi .len (.var 0)) .non) .nil))) (.cons (.tup (.cons (.str "bit") (.cons (.call "_law_least" 24 (.cons (.var 1) .nil)) .nil))) .nil))) .nil)))
.nil)))⟩
abbrev n__law_f_sieve : Nat := 31
def r__law_f_sieve : He.DefD := ⟨("_law_f_sieve", none), "_law_f_sieve", "_law_f_sieve", C8.fnArgs (top 37), C8.fnBody (top 37), C8.fnScope (top 37), [], []⟩
/-- law -/
def i_law : DefI := ⟨["script"], ["script", "pool", "one", "two", "sieve", "grown", "key", "held", "value", "k", "other", "place"],
(.cons (.set 2 (.lc [9] (.nm 9) (.r1 (.call "_law_draw" 17 (.cons (.var 1) (.cons (.int (9)) .nil)))) .none (.call "_law_key" 26 (.cons (.var 1) .nil))))
(.cons (.set 3 (.lc [9] (.nm 9) (.r1 (.call "_law_draw" 17 (.cons (.var 1) (.cons (.int (5)) .nil)))) .none (.call "_law_key" 26 (.cons (.var 1) .nil))))
(.cons (.set 4 (.call "sieve_of" 6 (.cons (.var 2) .nil)))
(.cons (.set 5 (.var 4))
(.cons (.forr (.nm 6) (.seq (.var 3)) (.cons (.set 5 (.call "with_key" 9 (.cons (.var 5) (.cons (.var 6) .nil))))
.nil))
(.cons (.iff (.nt (.call "_law_same" 14 (.cons (.lst (.cons (.var 4) (.cons (.var 5) (.cons (.call "both" 10 (.cons (.var 4) (.cons (.call "sieve_of" 6 (.cons (.var 3) .nil)) .nil))) (.cons (.cmp .NotEq (.call "places" 5 (.cons (.call "_law_draw" 17 (.cons (.var 1) (.cons (.int (100)) .nil))) .nil)) (.lst .nil)) .nil))))) (.cons (.lst (.cons (.call "_law_sieve" 30 (.cons (.var 2) .nil)) (.cons (.call "_law_sieve" 30 (.cons (.bin .Add (.var 2) (.var 3)) .nil)) (.cons (.call "_law_sieve" 30 (.cons (.bin .Add (.var 2) (.var 3)) .nil)) (.cons (.bl true) .nil))))) .nil)))) (.cons (.ret (.bl false))
.nil) .nil)
(.cons (.set 6 (.call "_law_key" 26 (.cons (.var 1) .nil)))
(.cons (.set 7 (.lc [10] (.nm 10) (.r1 (.int (100))) (.some (.cmp .Eq (.bi .len (.lc [11] (.nm 11) (.seq (.call "_law_places" 29 (.cons (.var 10) .nil))) (.some (.cmp .Eq (.ix (.var 4) (.var 11)) (.int (0)))) (.var 11))) (.int (0)))) (.var 10)))
(.cons (.iff (.nt (.call "_law_same" 14 (.cons (.lst (.cons (.call "places" 5 (.cons (.var 6) .nil)) (.cons (.call "may_hold" 8 (.cons (.var 4) (.cons (.var 6) .nil))) (.cons (.call "held_of" 11 (.cons (.var 4) (.cons (.lit (.r1 (.int (100)))) .nil))) (.cons (.call "fullness" 12 (.cons (.var 4) .nil)) .nil))))) (.cons (.lst (.cons (.call "_law_places" 29 (.cons (.var 6) .nil)) (.cons (.cmp .In (.var 6) (.var 7)) (.cons (.var 7) (.cons (.bi .sum (.var 4)) .nil))))) .nil)))) (.cons (.ret (.bl false))
.nil) .nil)
(.cons (.iff (.cmp .Gt (.bi .len (.lc [10] (.nm 10) (.seq (.bin .Add (.var 2) (.var 3))) (.some (.nt (.call "may_hold" 8 (.cons (.var 5) (.cons (.var 10) .nil))))) (.var 10))) (.int (0))) (.cons (.ret (.bl false))
.nil) .nil)
(.cons (.forr (.nm 8) (.seq (.bin .Add (.bin .Add (.lst (.cons (.var 4) (.cons (.var 5) .nil))) (.call "_law_bends" 27 (.cons (.var 1) (.cons (.var 4) .nil)))) (.call "_law_odd_values" 22 .nil))) (.cons (.iff (.nt (.call "_law_same" 14 (.cons (.call "fault" 7 (.cons (.var 8) .nil)) (.cons (.call "_law_f_sieve" 31 (.cons (.var 8) .nil)) .nil)))) (.cons (.ret (.bl false))
.nil) .nil)
.nil))
(.cons (.ret (.bl true))
.nil))))))))))))⟩
abbrev n_law : Nat := 32
def r_law : He.DefD := ⟨("law", none), "law", "law", C8.fnArgs (top 38), C8.fnBody (top 38), C8.fnScope (top 38), [], []⟩
abbrev P : List DefI := [i_is_whole, i_first_true, i_fault_at, i_first_of, i_mixed, i_places, i_sieve_of, i_fault, i_may_hold, i_with_key, i_both, i_held_of, i_fullness, i__law_is_integer, i__law_same, i__law_pool, i__law_spread, i__law_draw, i__law_pick, i__law_bent, i__law_booled, i__law_listed, i__law_odd_values, i__law_first, i__law_least, i__law_mixed, i__law_key, i__law_bends, i__law_swapped, i__law_places, i__law_sieve, i__law_f_sieve]
abbrev R : List He.DefD := [r_is_whole, r_first_true, r_fault_at, r_first_of, r_mixed, r_places, r_sieve_of, r_fault, r_may_hold, r_with_key, r_both, r_held_of, r_fullness, r__law_is_integer, r__law_same, r__law_pool, r__law_spread, r__law_draw, r__law_pick, r__law_bent, r__law_booled, r__law_listed, r__law_odd_values, r__law_first, r__law_least, r__law_mixed, r__law_key, r__law_bends, r__law_swapped, r__law_places, r__law_sieve, r__law_f_sieve, r_law]
theorem p_is_whole : P[0]? = some i_is_whole := rfl
theorem p_first_true : P[1]? = some i_first_true := rfl
theorem p_fault_at : P[2]? = some i_fault_at := rfl
theorem p_first_of : P[3]? = some i_first_of := rfl
theorem p_mixed : P[4]? = some i_mixed := rfl
theorem p_places : P[5]? = some i_places := rfl
theorem p_sieve_of : P[6]? = some i_sieve_of := rfl
theorem p_fault : P[7]? = some i_fault := rfl
theorem p_may_hold : P[8]? = some i_may_hold := rfl
theorem p_with_key : P[9]? = some i_with_key := rfl
theorem p_both : P[10]? = some i_both := rfl
theorem p_held_of : P[11]? = some i_held_of := rfl
theorem p_fullness : P[12]? = some i_fullness := rfl
theorem p__law_is_integer : P[13]? = some i__law_is_integer := rfl
theorem p__law_same : P[14]? = some i__law_same := rfl
theorem p__law_pool : P[15]? = some i__law_pool := rfl
theorem p__law_spread : P[16]? = some i__law_spread := rfl
theorem p__law_draw : P[17]? = some i__law_draw := rfl
theorem p__law_pick : P[18]? = some i__law_pick := rfl
theorem p__law_bent : P[19]? = some i__law_bent := rfl
theorem p__law_booled : P[20]? = some i__law_booled := rfl
theorem p__law_listed : P[21]? = some i__law_listed := rfl
theorem p__law_odd_values : P[22]? = some i__law_odd_values := rfl
theorem p__law_first : P[23]? = some i__law_first := rfl
theorem p__law_least : P[24]? = some i__law_least := rfl
theorem p__law_mixed : P[25]? = some i__law_mixed := rfl
theorem p__law_key : P[26]? = some i__law_key := rfl
theorem p__law_bends : P[27]? = some i__law_bends := rfl
theorem p__law_swapped : P[28]? = some i__law_swapped := rfl
theorem p__law_places : P[29]? = some i__law_places := rfl
theorem p__law_sieve : P[30]? = some i__law_sieve := rfl
theorem p__law_f_sieve : P[31]? = some i__law_f_sieve := rfl
def gp (x : Str) (d : D) : Str × D := (x, d)
def g : List (Str × D) := [gp "TURNS" (.int (3)), gp "mixed" (.fn 4), gp "MANY" (.int (32)), gp "places" (.fn 5), gp "is_whole" (.fn 0), gp "FORM" (.tup [(.str "form"), (.int (0))]), gp "first_of" (.fn 3), gp "fault_at" (.fn 2), gp "first_true" (.fn 1), gp "may_hold" (.fn 8), gp "_law_same" (.fn 14), gp "_law_spread" (.fn 16), gp "_law_draw" (.fn 17), gp "_law_bent" (.fn 19), gp "_law_is_integer" (.fn 13), gp "_law_booled" (.fn 20), gp "_law_listed" (.fn 21), gp "_law_pick" (.fn 18), gp "_law_swapped" (.fn 28), gp "_law_mixed" (.fn 25), gp "_law_places" (.fn 29), gp "_law_first" (.fn 23), gp "_law_least" (.fn 24), gp "_law_key" (.fn 26), gp "sieve_of" (.fn 6), gp "with_key" (.fn 9), gp "both" (.fn 10), gp "_law_sieve" (.fn 30), gp "held_of" (.fn 11), gp "fullness" (.fn 12), gp "_law_bends" (.fn 27), gp "_law_odd_values" (.fn 22), gp "fault" (.fn 7), gp "_law_f_sieve" (.fn 31), gp "_law_pool" (.fn 15), gp "law" (.fn 32)]
def fr : List Str := ["isinstance", "int", "bool", "range", "len", "tuple", "all", "zip", "max", "sum", "list", "str", "min", "reversed"]
theorem k_is_whole : DefOk g fr i_is_whole r_is_whole := ⟨by decide +kernel, fun _ _ _ _ _ _ us hl => match us, hl with | [_], _ => rfl, rfl, rfl⟩
theorem k_first_true : DefOk g fr i_first_true r_first_true := ⟨by decide +kernel, fun _ _ _ _ _ _ us hl => match us, hl with | [_], _ => rfl, rfl, rfl⟩
theorem k_fault_at : DefOk g fr i_fault_at r_fault_at := ⟨by decide +kernel, fun _ _ _ _ _ _ us hl => match us, hl with | [_, _], _ => rfl, rfl, rfl⟩
theorem k_first_of : DefOk g fr i_first_of r_first_of := ⟨by decide +kernel, fun _ _ _ _ _ _ us hl => match us, hl with | [_], _ => rfl, rfl, rfl⟩
theorem k_mixed : DefOk g fr i_mixed r_mixed := ⟨by decide +kernel, fun _ _ _ _ _ _ us hl => match us, hl with | [_], _ => rfl, rfl, rfl⟩
theorem k_places : DefOk g fr i_places r_places := ⟨by decide +kernel, fun _ _ _ _ _ _ us hl => match us, hl with | [_], _ => rfl, rfl, rfl⟩
theorem k_sieve_of : DefOk g fr i_sieve_of r_sieve_of := ⟨by decide +kernel, fun _ _ _ _ _ _ us hl => match us, hl with | [_], _ => rfl, rfl, rfl⟩
theorem k_fault : DefOk g fr i_fault r_fault := ⟨by decide +kernel, fun _ _ _ _ _ _ us hl => match us, hl with | [_], _ => rfl, rfl, rfl⟩
theorem k_may_hold : DefOk g fr i_may_hold r_may_hold := ⟨by decide +kernel, fun _ _ _ _ _ _ us hl => match us, hl with | [_, _], _ => rfl, rfl, rfl⟩
theorem k_with_key : DefOk g fr i_with_key r_with_key := ⟨by decide +kernel, fun _ _ _ _ _ _ us hl => match us, hl with | [_, _], _ => rfl, rfl, rfl⟩
theorem k_both : DefOk g fr i_both r_both := ⟨by decide +kernel, fun _ _ _ _ _ _ us hl => match us, hl with | [_, _], _ => rfl, rfl, rfl⟩
theorem k_held_of : DefOk g fr i_held_of r_held_of := ⟨by decide +kernel, fun _ _ _ _ _ _ us hl => match us, hl with | [_, _], _ => rfl, rfl, rfl⟩
theorem k_fullness : DefOk g fr i_fullness r_fullness := ⟨by decide +kernel, fun _ _ _ _ _ _ us hl => match us, hl with | [_], _ => rfl, rfl, rfl⟩
theorem k__law_is_integer : DefOk g fr i__law_is_integer r__law_is_integer := ⟨by decide +kernel, fun _ _ _ _ _ _ us hl => match us, hl with | [_], _ => rfl, rfl, rfl⟩
theorem k__law_same : DefOk g fr i__law_same r__law_same := ⟨by decide +kernel, fun _ _ _ _ _ _ us hl => match us, hl with | [_, _], _ => rfl, rfl, rfl⟩
theorem k__law_pool : DefOk g fr i__law_pool r__law_pool := ⟨by decide +kernel, fun _ _ _ _ _ _ us hl => match us, hl with | [_], _ => rfl, rfl, rfl⟩
theorem k__law_spread : DefOk g fr i__law_spread r__law_spread := ⟨by decide +kernel, fun _ _ _ _ _ _ us hl => match us, hl with | [_], _ => rfl, rfl, rfl⟩
theorem k__law_draw : DefOk g fr i__law_draw r__law_draw := ⟨by decide +kernel, fun _ _ _ _ _ _ us hl => match us, hl with | [_, _], _ => rfl, rfl, rfl⟩
theorem k__law_pick : DefOk g fr i__law_pick r__law_pick := ⟨by decide +kernel, fun _ _ _ _ _ _ us hl => match us, hl with | [_, _], _ => rfl, rfl, rfl⟩
theorem k__law_bent : DefOk g fr i__law_bent r__law_bent := ⟨by decide +kernel, fun _ _ _ _ _ _ us hl => match us, hl with | [_, _], _ => rfl, rfl, rfl⟩
theorem k__law_booled : DefOk g fr i__law_booled r__law_booled := ⟨by decide +kernel, fun _ _ _ _ _ _ us hl => match us, hl with | [_], _ => rfl, rfl, rfl⟩
theorem k__law_listed : DefOk g fr i__law_listed r__law_listed := ⟨by decide +kernel, fun _ _ _ _ _ _ us hl => match us, hl with | [_, _], _ => rfl, rfl, rfl⟩
theorem k__law_odd_values : DefOk g fr i__law_odd_values r__law_odd_values := ⟨by decide +kernel, fun _ _ _ _ _ _ us hl => match us, hl with | [], _ => rfl, rfl, rfl⟩
theorem k__law_first : DefOk g fr i__law_first r__law_first := ⟨by decide +kernel, fun _ _ _ _ _ _ us hl => match us, hl with | [_], _ => rfl, rfl, rfl⟩
theorem k__law_least : DefOk g fr i__law_least r__law_least := ⟨by decide +kernel, fun _ _ _ _ _ _ us hl => match us, hl with | [_], _ => rfl, rfl, rfl⟩
theorem k__law_mixed : DefOk g fr i__law_mixed r__law_mixed := ⟨by decide +kernel, fun _ _ _ _ _ _ us hl => match us, hl with | [_], _ => rfl, rfl, rfl⟩
theorem k__law_key : DefOk g fr i__law_key r__law_key := ⟨by decide +kernel, fun _ _ _ _ _ _ us hl => match us, hl with | [_], _ => rfl, rfl, rfl⟩
theorem k__law_bends : DefOk g fr i__law_bends r__law_bends := ⟨by decide +kernel, fun _ _ _ _ _ _ us hl => match us, hl with | [_, _], _ => rfl, rfl, rfl⟩
theorem k__law_swapped : DefOk g fr i__law_swapped r__law_swapped := ⟨by decide +kernel, fun _ _ _ _ _ _ us hl => match us, hl with | [_, _], _ => rfl, rfl, rfl⟩
theorem k__law_places : DefOk g fr i__law_places r__law_places := ⟨by decide +kernel, fun _ _ _ _ _ _ us hl => match us, hl with | [_], _ => rfl, rfl, rfl⟩
theorem k__law_sieve : DefOk g fr i__law_sieve r__law_sieve := ⟨by decide +kernel, fun _ _ _ _ _ _ us hl => match us, hl with | [_], _ => rfl, rfl, rfl⟩
theorem k__law_f_sieve : DefOk g fr i__law_f_sieve r__law_f_sieve := ⟨by decide +kernel, fun _ _ _ _ _ _ us hl => match us, hl with | [_], _ => rfl, rfl, rfl⟩
theorem A : AllOk g fr P R := (.cons k_is_whole (.cons k_first_true (.cons k_fault_at (.cons k_first_of (.cons k_mixed (.cons k_places (.cons k_sieve_of (.cons k_fault (.cons k_may_hold (.cons k_with_key (.cons k_both (.cons k_held_of (.cons k_fullness (.cons k__law_is_integer (.cons k__law_same (.cons k__law_pool (.cons k__law_spread (.cons k__law_draw (.cons k__law_pick (.cons k__law_bent (.cons k__law_booled (.cons k__law_listed (.cons k__law_odd_values (.cons k__law_first (.cons k__law_least (.cons k__law_mixed (.cons k__law_key (.cons k__law_bends (.cons k__law_swapped (.cons k__law_places (.cons k__law_sieve (.cons k__law_f_sieve .nil))))))))))))))))))))))))))))))))
theorem bL : BindD ["script"] r_law := fun _ _ _ _ _ _ us hl => match us, hl with | [_], _ => rfl
theorem kL : chkL g fr 15 i_law r_law = true := by decide +kernel
end K69

set_option Elab.async false
set_option linter.all false
set_option maxRecDepth 100000
set_option maxHeartbeats 4000000
/-! The law's own helpers, as every law has them. -/
namespace K69
open PySem L2 Ev
theorem e_mixed (k : Nat) (i : Int) (pl : Pl) : evF P (k + 1) n_mixed [.int i] pl = some (.ok (.int ((37 * i + 11) % 101)) pl) := by
  rw [evF_def p_mixed k rfl]
  simp [evSs, evS, evE, evEs, evO, evC, evIt, bnd, bndS, lift, startR, getV, getO, setTg, setAll, boolOf, intOf, binS, augS, cmpS, biS, bi2S, isinS, ixS, slcS, retS, forL, Ev.isNon, seqOf, i_mixed, mulOk]
theorem e_spread (k : Nat) (i : Int) (pl : Pl) : ∃ j, evF P (k + 1) n__law_spread [.int i] pl = some (.ok (.int j) pl) := by
  rw [evF_def p__law_spread k rfl]
  simp [evSs, evS, evE, evEs, evO, evC, evIt, bnd, bndS, lift, startR, getV, getO, setTg, setAll, boolOf, intOf, binS, augS, cmpS, biS, bi2S, isinS, ixS, slcS, retS, forL, Ev.isNon, seqOf, i__law_spread, mulOk, small, LIM, rng, List.range, List.range.loop]
/-- the first statement of a block, the rest -/
def Ss.hd : Ss → S
  | .nil => .brk
  | .cons s _ => s
def Ss.tl : Ss → Ss
  | .nil => .nil
  | .cons _ r => r
/-- the tail of a draw -/
theorem draw_tail (k : Nat) (m : Int) (ns : List Int) (a b c s : Int) (r1 r2 r3 : Option Sl) (ha : 0 ≤ a) (h1 : 0 < m) (h2 : m < 1073741824) : OkS (evSs (evF P k) (Ss.tl i__law_draw.body) [some (.val .pool), some (.val (.int m)), r1, r2, r3] [.lst (ns.map .int), .int a, .int b, .int c, .int s]) (Ret fun d pl' => ∃ v, d = .int v ∧ PoolOk pl' ∧ 0 ≤ v ∧ v < m) := by
  have e0 : ∀ x : Int, 0 ≤ x % m ∧ x % m < m := fun x => ⟨Int.emod_nonneg _ (by omega), Int.emod_lt_of_pos _ h1⟩
  by_cases hb : b ≤ 0
  · simp [i__law_draw, Ss.tl, evSs, evS, evE, evEs, evO, evC, evIt, bnd, bndS, lift, startR, getV, getO, setTg, setAll, boolOf, intOf, binS, augS, cmpS, biS, bi2S, isinS, ixS, slcS, retS, forL, Ev.isNon, seqOf, mulOk, atI, ixN, hb, h1, okS_some, Ret]
    exact ⟨⟨ns, a, b, _, s, rfl, ha⟩, e0 _⟩
  · simp [i__law_draw, Ss.tl, evSs, evS, evE, evEs, evO, evC, evIt, bnd, bndS, lift, startR, getV, getO, setTg, setAll, boolOf, intOf, binS, augS, cmpS, biS, bi2S, isinS, ixS, slcS, retS, forL, Ev.isNon, seqOf, mulOk, atI, ixN, hb, h1, h2, okS_some, Ret]
    exact ⟨⟨ns, a, _, _, s, rfl, ha⟩, e0 _⟩
theorem e_draw (k : Nat) (m : Int) (pl : Pl) (h : PoolOk pl) (h1 : 0 < m) (h2 : m < 1073741824) : Ok (evF P (k + 2) n__law_draw [.pool, .int m] pl) fun d pl' => ∃ v, d = .int v ∧ PoolOk pl' ∧ 0 ≤ v ∧ v < m := by
  obtain ⟨ns, a, b, c, s, rfl, ha⟩ := h
  refine ok_def p__law_draw (k + 1) rfl (okS_cons ?_)
  have go : ∀ (a' b' c' s' : Int) (r : Option Sl), 0 ≤ a' → evS (evF P (k + 1)) (Ss.hd i__law_draw.body) (startR 5 [.pool, .int m]) [.lst (ns.map .int), .int a, .int b, .int c, .int s] = some (.nx [some (.val .pool), some (.val (.int m)), none, r, none] [.lst (ns.map .int), .int a', .int b', .int c', .int s']) → OkS (evS (evF P (k + 1)) (Ss.hd i__law_draw.body) (startR 5 [.pool, .int m]) [.lst (ns.map .int), .int a, .int b, .int c, .int s]) (Thn (evF P (k + 1)) (Ss.tl i__law_draw.body) (Ret fun d pl' => ∃ v, d = .int v ∧ PoolOk pl' ∧ 0 ≤ v ∧ v < m)) := fun a' b' c' s' r ha' e => by
    rw [e]
    exact ⟨_, rfl, draw_tail (k + 1) m ns a' b' c' s' none r none ha' h1 h2⟩
  by_cases hb : b ≤ 0
  · by_cases hl : a < ns.length
    · obtain ⟨n, rfl⟩ := Int.eq_ofNat_of_zero_le ha
      have hn : n < ns.length := by omega
      have hat : atI (ns.map D.int) (n : Int) = some (.int ns[n]) := by rw [at_nat]; simp [hn]
      obtain ⟨j, ej⟩ := e_spread k ns[n] [.lst (ns.map .int), .int (n + 1), .int ns[n], .int c, .int s]
      by_cases hc : ns[n] < 1000000000000000000
      · refine go (n + 1) j c s (some (.val (.int ns[n]))) (by omega) ?_
        simp [i__law_draw, Ss.hd, evSs, evS, evE, evEs, evO, evC, evIt, bnd, bndS, lift, startR, getV, getO, setTg, setAll, boolOf, intOf, binS, augS, cmpS, biS, bi2S, isinS, ixS, slcS, retS, forL, Ev.isNon, seqOf, mulOk, ixN, hb, hn, hat, hc, ej, atI]
      · refine go (n + 1) ns[n] c s (some (.val (.int ns[n]))) (by omega) ?_
        simp [i__law_draw, Ss.hd, evSs, evS, evE, evEs, evO, evC, evIt, bnd, bndS, lift, startR, getV, getO, setTg, setAll, boolOf, intOf, binS, augS, cmpS, biS, bi2S, isinS, ixS, slcS, retS, forL, Ev.isNon, seqOf, mulOk, ixN, hb, hn, hat, hc, ej, atI]
    · refine go a b c s none ha ?_
      simp [i__law_draw, Ss.hd, evSs, evS, evE, evEs, evO, evC, evIt, bnd, bndS, lift, startR, getV, getO, setTg, setAll, boolOf, intOf, binS, augS, cmpS, biS, bi2S, isinS, ixS, slcS, retS, forL, Ev.isNon, seqOf, mulOk, ixN, hb, hl, atI]
  · refine go a b c s none ha ?_
    simp [i__law_draw, Ss.hd, evSs, evS, evE, evEs, evO, evC, evIt, bnd, bndS, lift, startR, getV, getO, setTg, setAll, boolOf, intOf, binS, augS, cmpS, biS, bi2S, isinS, ixS, slcS, retS, forL, Ev.isNon, seqOf, mulOk, ixN, hb, atI]
end K69

set_option Elab.async false
set_option linter.all false
set_option maxRecDepth 100000
set_option maxHeartbeats 4000000
/-! k69: sieves. -/
namespace K69
open PySem L2 Ev
/-- the places of a key -/
def plc (i : Int) : List Int := [(37 * i + 11) % 101 % 32, ((37 * i + 11) % 101 * 2 + 7) % 32, ((37 * i + 11) % 101 * 3 + 14) % 32]
theorem e_places (k : Nat) (i : Int) (pl : Pl) : evF P (k + 2) n_places [.int i] pl = some (.ok (.lst ((plc i).map .int)) pl) := by
  rw [evF_def p_places (k + 1) rfl]
  simp [evSs, evS, evE, evEs, evO, evC, evIt, bnd, bndS, lift, startR, getV, getO, setTg, setAll, boolOf, intOf, binS, augS, cmpS, biS, bi2S, isinS, ixS, slcS, retS, forL, Ev.isNon, seqOf, i_places, mulOk, small, LIM, rng, List.range, List.range.loop, compL, wipeR, e_mixed, plc]
theorem e_law_mixed (k : Nat) (i : Int) (pl : Pl) : evF P (k + 1) n__law_mixed [.int i] pl = some (.ok (.int ((37 * i + 11) % 101)) pl) := by
  rw [evF_def p__law_mixed k rfl]
  simp [evSs, evS, evE, evEs, evO, evC, evIt, bnd, bndS, lift, startR, getV, getO, setTg, setAll, boolOf, intOf, binS, augS, cmpS, biS, bi2S, isinS, ixS, slcS, retS, forL, Ev.isNon, seqOf, i__law_mixed, mulOk]
theorem e_law_places (k : Nat) (i : Int) (pl : Pl) : evF P (k + 2) n__law_places [.int i] pl = some (.ok (.lst ((plc i).map .int)) pl) := by
  rw [evF_def p__law_places (k + 1) rfl]
  simp [evSs, evS, evE, evEs, evO, evC, evIt, bnd, bndS, lift, startR, getV, getO, setTg, setAll, boolOf, intOf, binS, augS, cmpS, biS, bi2S, isinS, ixS, slcS, retS, forL, Ev.isNon, seqOf, i__law_places, mulOk, e_law_mixed, plc]
  constructor <;> omega
/-- a sieve -/
def sv (f : Int → Bool) : List Int := (List.range 32).map fun (k : Nat) => if f (k : Nat) then 1 else 0
def svD (f : Int → Bool) : D := .tup ((sv f).map .int)
def allP (ks : List Int) : List Int := ks.flatMap plc
theorem allP_len (ks : List Int) : (allP ks).length = 3 * ks.length := by
  unfold allP
  induction ks with
  | nil => rfl
  | cons a r ih => rw [List.flatMap_cons, List.length_append, ih]; simp [plc]; omega
theorem flat_plc (ks : List Int) : ((ks.map D.int).flatMap fun x => match x with | .int i => (plc i).map D.int | _ => []) = (allP ks).map D.int := by
  unfold allP
  induction ks with
  | nil => rfl
  | cons a r ih => rw [List.map_cons, List.flatMap_cons, ih, List.flatMap_cons, List.map_append]
theorem mem_rng {x : D} {a : Int} {n : Nat} (h : x ∈ rng a n) : ∃ i : Nat, i < n ∧ x = .int (a + i) := by
  unfold rng at h
  obtain ⟨i, hi, rfl⟩ := List.mem_map.mp h
  exact ⟨i, List.mem_range.mp hi, rfl⟩
/-- int(place in held) for each place -/
def bit01 (ks : List Int) (x : D) : D := match x with
  | .int p => .int (if p ∈ allP ks then 1 else 0)
  | d => d
theorem rng_sv (ks : List Int) : (rng 0 32).map (bit01 ks) = (sv fun p => decide (p ∈ allP ks)).map D.int := by
  unfold rng sv
  rw [List.map_map, List.map_map]
  apply List.map_congr_left
  intro i hi
  simp [bit01]
theorem e_sieve_of (k : Nat) (ks : List Int) (pl : Pl) (h : ks.length ≤ 1000) : evF P (k + 3) n_sieve_of [.lst (ks.map .int)] pl = some (.ok (svD fun p => decide (p ∈ allP ks)) pl) := by
  have hl := allP_len ks
  rw [evF_def p_sieve_of (k + 2) rfl]
  simp [evSs, evS, evE, evEs, evO, evC, evIt, bnd, bndS, lift, startR, getV, getO, setTg, setAll, boolOf, intOf, binS, augS, cmpS, biS, bi2S, isinS, ixS, slcS, retS, forL, Ev.isNon, seqOf, i_sieve_of, noOwn, wipeR, Tg.slots]
  rw [compL_pure (g := fun x => match x with | .int i => (plc i).map .int | _ => [])]
  · rw [flat_plc]
    simp [LIM, hl, show 3 * ks.length ≤ 16777216 by omega, small]
    rw [compL_map (g := bit01 ks)]
    · simp [rng_sv, svD]
    · intro x hx
      obtain ⟨i, hi, rfl⟩ := mem_rng hx
      simp [in_ints, bit01]
  · intro x hx
    obtain ⟨i, hi, rfl⟩ := List.mem_map.mp hx
    simp [e_places]
    rw [compL_map (g := id)]
    · simp
    · intro x hx
      simp
theorem e_law_sieve (k : Nat) (ks : List Int) (pl : Pl) (h : ks.length ≤ 1000) : evF P (k + 3) n__law_sieve [.lst (ks.map .int)] pl = some (.ok (svD fun p => decide (p ∈ allP ks)) pl) := by
  have hl := allP_len ks
  refine ok_eq (ok_def p__law_sieve (k + 2) rfl (okS_cons ?_))
  simp [evSs, evS, evE, evEs, evO, evC, evIt, bnd, bndS, lift, startR, getV, getO, setTg, setAll, boolOf, intOf, binS, augS, cmpS, biS, bi2S, isinS, ixS, slcS, retS, forL, Ev.isNon, seqOf, i__law_sieve, okS_some]
  refine thn_nx (okS_cons ?_)
  simp only [evS, evIt, evE, bnd, lift, getV, List.getElem?_cons_zero, seqOf, bndS]
  refine okS_for (fun j ρ p => p = pl ∧ ∃ r, ρ = [some (.val (.lst (ks.map .int))), some (.val (.lst ((allP (ks.take j)).map .int))), r, none]) (i := 0) ⟨rfl, none, rfl⟩ ?_ ?_
  · rintro j x ρ p hx ⟨rfl, r, rfl⟩
    simp only [List.getElem?_map, Option.map_eq_some_iff] at hx
    obtain ⟨i, hi, rfl⟩ := hx
    have hj : j < ks.length := by
      rcases Nat.lt_or_ge j ks.length with z | z
      · exact z
      · rw [List.getElem?_eq_none z] at hi; cases hi
    have e1 : allP (ks.take (j + 1)) = allP (ks.take j) ++ plc i := by
      unfold allP
      rw [List.take_succ, hi]
      simp
    have hl2 := allP_len (ks.take j)
    have hl3 : (ks.take j).length ≤ 1000 := by rw [List.length_take]; omega
    have hl4 : (allP (ks.take j)).length + (plc i).length ≤ 16777216 := by rw [hl2]; simp [plc]; omega
    simp [evSs, evS, evE, evEs, evO, evC, evIt, bnd, bndS, lift, startR, getV, getO, setTg, setAll, boolOf, intOf, binS, augS, cmpS, biS, bi2S, isinS, ixS, slcS, retS, forL, Ev.isNon, seqOf, e_law_places, LIM, okS_some, e1, hl4]
  · rintro ρ p ⟨rfl, r, rfl⟩
    refine thn_nx (okS_cons ?_)
    simp [evSs, evS, evE, evEs, evO, evC, evIt, bnd, bndS, lift, startR, getV, getO, setTg, setAll, boolOf, intOf, binS, augS, cmpS, biS, bi2S, isinS, ixS, slcS, retS, forL, Ev.isNon, seqOf, wipeR, small, LIM]
    rw [compL_map (g := bit01 ks)]
    · simp [rng_sv, svD, okS_some, Thn, Ret]
    · intro x hx
      obtain ⟨i, hi, rfl⟩ := mem_rng hx
      simp [in_ints, bit01]
def wk (f : Int → Bool) (key : Int) (p : Int) : Bool := decide (p ∈ plc key) || f p
theorem e_with_key (k : Nat) (f : Int → Bool) (key : Int) (pl : Pl) : evF P (k + 3) n_with_key [svD f, .int key] pl = some (.ok (svD (wk f key)) pl) := by
  rw [evF_def p_with_key (k + 2) rfl]
  simp [evSs, evS, evE, evEs, evO, evC, evIt, bnd, bndS, lift, startR, getV, getO, setTg, setAll, boolOf, intOf, binS, augS, cmpS, biS, bi2S, isinS, ixS, slcS, retS, forL, Ev.isNon, seqOf, i_with_key, e_places, wipeR, small, LIM, svD]
  rw [compL_map (g := fun x => match x with | .int p => .int (if wk f key p then 1 else 0) | d => d)]
  · simp [rng, sv]
  · intro x hx
    obtain ⟨i, hi, rfl⟩ := mem_rng hx
    by_cases hm : (i : Int) ∈ plc key
    · simp [in_ints, wk, at_nat, sv, hi, hm]
    · simp [in_ints, wk, at_nat, sv, hi, hm]
end K69

set_option Elab.async false
set_option linter.all false
set_option maxRecDepth 100000
set_option maxHeartbeats 4000000
/-! k69: what holds, faults. -/
namespace K69
open PySem L2 Ev
theorem plc_lt {i p : Int} (h : p ∈ plc i) : ∃ n : Nat, p = (n : Int) ∧ n < 32 := by
  have h0 : 0 ≤ p ∧ p < 32 := by
    simp only [plc, List.mem_cons, List.not_mem_nil, or_false] at h
    omega
  exact ⟨p.toNat, by omega, by omega⟩
theorem sv_at (f : Int → Bool) (n : Nat) (h : n < 32) : atI ((sv f).map D.int) (n : Int) = some (.int (if f n then 1 else 0)) := by
  rw [at_nat]
  simp [sv, h]
theorem sv_len (f : Int → Bool) : (sv f).length = 32 := by simp [sv]
theorem e_may_hold (k : Nat) (f : Int → Bool) (key : Int) (pl : Pl) : evF P (k + 3) n_may_hold [svD f, .int key] pl = some (.ok (.bl ((plc key).all f)) pl) := by
  rw [evF_def p_may_hold (k + 2) rfl]
  simp [evSs, evS, evE, evEs, evO, evC, evIt, bnd, bndS, lift, startR, getV, getO, setTg, setAll, boolOf, intOf, binS, augS, cmpS, biS, bi2S, isinS, ixS, slcS, retS, forL, Ev.isNon, seqOf, i_may_hold, e_places, wipeR, svD]
  rw [compL_map (g := fun x => match x with | .int p => .bl (f p) | d => d)]
  · have : (((plc key).map D.int).map fun x => match x with | .int p => .bl (f p) | d => d) = ((plc key).map f).map D.bl := by
      rw [List.map_map, List.map_map]; rfl
    rw [this]
    simp only [boolL_bls]
    simp
  · intro x hx
    obtain ⟨p, hp, rfl⟩ := List.mem_map.mp hx
    obtain ⟨n, rfl, hn⟩ := plc_lt hp
    cases hf : f (n : Int) <;> simp [sv_at, hn, eq_int, hf]
theorem e_held_of (k : Nat) (f : Int → Bool) (ks : List Int) (pl : Pl) : evF P (k + 4) n_held_of [svD f, .lst (ks.map .int)] pl = some (.ok (.lst ((ks.filter fun key => (plc key).all f).map .int)) pl) := by
  rw [evF_def p_held_of (k + 3) rfl]
  simp [evSs, evS, evE, evEs, evO, evC, evIt, bnd, bndS, lift, startR, getV, getO, setTg, setAll, boolOf, intOf, binS, augS, cmpS, biS, bi2S, isinS, ixS, slcS, retS, forL, Ev.isNon, seqOf, i_held_of, wipeR]
  rw [compL_filter (p := fun x => match x with | .int key => (plc key).all f | _ => false)]
  · simp [List.filter_map]
    rfl
  · intro x hx
    obtain ⟨p, hp, rfl⟩ := List.mem_map.mp hx
    cases hf : (plc p).all f <;> simp [e_may_hold, hf]
theorem e_fullness (k : Nat) (ns : List Int) (pl : Pl) : evF P (k + 1) n_fullness [.tup (ns.map .int)] pl = some (.ok (.int ns.sum) pl) := by
  rw [evF_def p_fullness k rfl]
  simp [evSs, evS, evE, evEs, evO, evC, evIt, bnd, bndS, lift, startR, getV, getO, setTg, setAll, boolOf, intOf, binS, augS, cmpS, biS, bi2S, isinS, ixS, slcS, retS, forL, Ev.isNon, seqOf, i_fullness, intL_ints]
theorem zip_sv (f g : Int → Bool) : zipD ((sv f).map D.int) ((sv g).map D.int) = (List.range 32).map fun (n : Nat) => .tup [.int (if f n then 1 else 0), .int (if g n then 1 else 0)] := by
  unfold sv
  rw [List.map_map, List.map_map]
  generalize List.range 32 = l
  induction l with
  | nil => rfl
  | cons a r ih => simp only [List.map_cons, zipD, ih]; rfl
theorem e_both (k : Nat) (f g : Int → Bool) (pl : Pl) : evF P (k + 1) n_both [svD f, svD g] pl = some (.ok (svD fun p => f p || g p) pl) := by
  rw [evF_def p_both k rfl]
  simp [evSs, evS, evE, evEs, evO, evC, evIt, bnd, bndS, lift, startR, getV, getO, setTg, setAll, boolOf, intOf, binS, augS, cmpS, biS, bi2S, isinS, ixS, slcS, retS, forL, Ev.isNon, seqOf, i_both, wipeR, svD, zip_sv]
  rw [compL_map (g := fun x => match x with | .tup [.int a, .int b] => .int (if b > a then b else a) | d => d)]
  · simp [sv]
    intro n hn
    cases f n <;> cases g n <;> simp
  · intro x hx
    obtain ⟨n, hn, rfl⟩ := List.mem_map.mp hx
    simp
    rfl
/-- the first true -/
def ftD (bs : List Bool) : D := match bs.findIdx? id with
  | some j => .int j
  | none => .non
theorem e_first_true (k : Nat) (bs : List Bool) (pl : Pl) (h : bs.length ≤ LIM) : evF P (k + 1) n_first_true [.lst (bs.map .bl)] pl = some (.ok (ftD bs) pl) := by
  refine ok_eq (ok_def p_first_true k rfl (okS_cons ?_))
  have e : evE (evF P k) (.bi .len (.var 0)) (startR 2 [.lst (bs.map .bl)]) pl = some (.ok (.int bs.length) pl) := by simp [evSs, evS, evE, evEs, evO, evC, evIt, bnd, bndS, lift, startR, getV, getO, setTg, setAll, boolOf, intOf, binS, augS, cmpS, biS, bi2S, isinS, ixS, slcS, retS, forL, Ev.isNon, seqOf]
  rw [evS, show i_first_true.N.length = 2 from rfl, it_len e h]
  refine okS_for (fun j ρ p => p = pl ∧ (∃ r, ρ = [some (.val (.lst (bs.map .bl))), r]) ∧ ∀ i < j, bs[i]? = some false) (i := 0) ⟨rfl, ⟨none, rfl⟩, by simp⟩ ?_ ?_
  · rintro j x ρ p hx ⟨rfl, ⟨r, rfl⟩, hb⟩
    simp only [Nat.zero_add] at hb
    have hj : j < bs.length := by
      rcases Nat.lt_or_ge j bs.length with z | z
      · exact z
      · rw [List.getElem?_eq_none (by rw [rng_len]; exact z)] at hx; cases hx
    rw [rng_at hj] at hx
    cases hx
    cases hbj : bs[j] with
    | false =>
      simp [evSs, evS, evE, evEs, evO, evC, evIt, bnd, bndS, lift, startR, getV, getO, setTg, setAll, boolOf, intOf, binS, augS, cmpS, biS, bi2S, isinS, ixS, slcS, retS, forL, Ev.isNon, seqOf, at_nat, hj, hbj, okS_some]
      intro i hi
      rcases Nat.lt_or_ge i j with z | z
      · exact hb i z
      · have : i = j := by omega
        subst this
        rw [List.getElem?_eq_getElem hj, hbj]
    | true =>
      have : bs.findIdx? id = some j := by
        rw [List.findIdx?_eq_some_iff_getElem]
        refine ⟨hj, hbj, fun i hi => ?_⟩
        have := hb i hi
        rw [List.getElem?_eq_getElem (by omega)] at this
        simp at this
        simp [this]
      simp [evSs, evS, evE, evEs, evO, evC, evIt, bnd, bndS, lift, startR, getV, getO, setTg, setAll, boolOf, intOf, binS, augS, cmpS, biS, bi2S, isinS, ixS, slcS, retS, forL, Ev.isNon, seqOf, at_nat, hj, hbj, okS_some, Thn, Ret, ftD, this]
  · rintro ρ p ⟨rfl, ⟨r, rfl⟩, hb⟩
    refine thn_nx (okS_cons ?_)
    have : bs.findIdx? id = none := by
      rw [List.findIdx?_eq_none_iff]
      intro x hx
      obtain ⟨i, hi, rfl⟩ := List.getElem_of_mem hx
      have := hb i (by simp [rng_len]; omega)
      rw [List.getElem?_eq_getElem hi] at this
      simpa using this
    simp [evSs, evS, evE, evEs, evO, evC, evIt, bnd, bndS, lift, startR, getV, getO, setTg, setAll, boolOf, intOf, binS, augS, cmpS, biS, bi2S, isinS, ixS, slcS, retS, forL, Ev.isNon, seqOf, okS_some, Thn, Ret, ftD, this]
end K69

set_option Elab.async false
set_option linter.all false
set_option maxRecDepth 100000
set_option maxHeartbeats 4000000
/-! k69: faults. -/
namespace K69
open PySem L2 Ev
/-- data, seen from above -/
def dt : D → Bool
  | .non | .bl _ | .int _ | .str _ | .tup _ | .lst _ | .dct _ => true
  | _ => false
def wh : D → Bool
  | .int _ => true
  | _ => false
def isT : D → Bool
  | .tup _ => true
  | _ => false
theorem e_is_whole (k : Nat) (d : D) (pl : Pl) (h : dt d = true) : evF P (k + 1) n_is_whole [d] pl = some (.ok (.bl (wh d)) pl) := by
  rw [evF_def p_is_whole k rfl]
  cases d <;> simp [dt] at h <;> simp [evSs, evS, evE, evEs, evO, evC, evIt, bnd_k, bndS_k, lift_k, startR, getV, getO, setTg, setAll, boolOf, intOf, binS, augS, cmpS, biS, bi2S, isinS, ixS, slcS, ret_rt, ret_nx, forL, Ev.isNon, seqOf, i_is_whole, wh]
theorem e_is_integer (k : Nat) (d : D) (pl : Pl) (h : dt d = true) : evF P (k + 1) n__law_is_integer [d] pl = some (.ok (.bl (wh d)) pl) := by
  rw [evF_def p__law_is_integer k rfl]
  cases d <;> simp [dt] at h <;> simp [evSs, evS, evE, evEs, evO, evC, evIt, bnd_k, bndS_k, lift_k, startR, getV, getO, setTg, setAll, boolOf, intOf, binS, augS, cmpS, biS, bi2S, isinS, ixS, slcS, ret_rt, ret_nx, forL, Ev.isNon, seqOf, i__law_is_integer, wh]
theorem isT_S {d : D} (h : dt d = true) : isinS .tuple d = some (isT d) := by
  cases d <;> simp [dt] at h <;> rfl
theorem e_fault_at (k : Nat) (s : Str) (d : D) (pl : Pl) : evF P (k + 1) n_fault_at [.str s, d] pl = some (.ok (if Ev.isNon d then .non else .tup [.str s, d]) pl) := by
  rw [evF_def p_fault_at k rfl]
  cases h : Ev.isNon d <;> simp [evSs, evS, evE, evEs, evO, evC, evIt, bnd_k, bndS_k, lift_k, startR, getV, getO, setTg, setAll, boolOf, intOf, binS, augS, cmpS, biS, bi2S, isinS, ixS, slcS, ret_rt, ret_nx, forL, Ev.isNon, seqOf, i_fault_at, -Ev.isNon, h]
theorem e_first_of (k : Nat) (a b : D) (pl : Pl) : evF P (k + 1) n_first_of [.lst [a, b]] pl = some (.ok (if Ev.isNon a then (if Ev.isNon b then .non else b) else a) pl) := by
  rw [evF_def p_first_of k rfl]
  cases h : Ev.isNon a <;> cases h2 : Ev.isNon b <;> simp [evSs, evS, evE, evEs, evO, evC, evIt, bnd_k, bndS_k, lift_k, startR, getV, getO, setTg, setAll, boolOf, intOf, binS, augS, cmpS, biS, bi2S, isinS, ixS, slcS, ret_rt, ret_nx, forL, Ev.isNon, seqOf, i_first_of, -Ev.isNon, h, h2]
theorem e_law_first (k : Nat) (s t : Str) (a b : D) (pl : Pl) : evF P (k + 1) n__law_first [.lst [.tup [.str s, a], .tup [.str t, b]]] pl = some (.ok (if Ev.isNon a then (if Ev.isNon b then .non else .tup [.str t, b]) else .tup [.str s, a]) pl) := by
  rw [evF_def p__law_first k rfl]
  have e1 : ∀ x y : D, atI [x, y] 1 = some y := fun x y => rfl
  cases h : Ev.isNon a <;> cases h2 : Ev.isNon b <;> simp [evSs, evS, evE, evEs, evO, evC, evIt, bnd_k, bndS_k, lift_k, startR, getV, getO, setTg, setAll, boolOf, intOf, binS, augS, cmpS, biS, bi2S, isinS, ixS, slcS, ret_rt, ret_nx, forL, Ev.isNon, seqOf, i__law_first, -Ev.isNon, h, h2, e1]
def badI (n : Int) : Bool := !(decide (n = 0) || decide (n = 1))
theorem in01 (n : Int) : inS (.int n) (.tup [.int 0, .int 1]) = some (!badI n) := by
  simp [inS, toP, toPs, dep, PyData.depth, PyData.eqv, badI]
  rw [Bool.eq_iff_iff]
  simp
  omega
def fRes (ns : List Int) : D := if ns.length = 32 then (match ns.findIdx? badI with
    | some j => .tup [.str "bit", .int j]
    | none => .non) else .tup [.str "length", .int ns.length]
theorem ints_of {l : List D} (h : l.all wh = true) : ∃ ns : List Int, l = ns.map .int := by
  induction l with
  | nil => exact ⟨[], rfl⟩
  | cons a r ih =>
    rw [List.all_cons, Bool.and_eq_true] at h
    obtain ⟨ns, rfl⟩ := ih h.2
    cases a <;> simp [wh] at h
    exact ⟨_ :: ns, rfl⟩
def fD : D → D
  | .tup l => if l.all wh then fRes (l.filterMap fun d => match d with | .int i => some i | _ => none) else .tup [.str "form", .int 0]
  | _ => .tup [.str "form", .int 0]
theorem fm_ints (ns : List Int) : ((ns.map D.int).filterMap fun d => match d with | .int i => some i | _ => none) = ns := by
  induction ns with
  | nil => rfl
  | cons a r ih => simp [ih]
theorem all_ints (ns : List Int) : (ns.map D.int).all wh = true := by
  induction ns with
  | nil => rfl
  | cons a r ih => simp [wh]
theorem fD_ints (ns : List Int) : fD (.tup (ns.map .int)) = fRes ns := by
  unfold fD
  simp only [all_ints, if_true, fm_ints]
theorem map_bl (l : List D) : boolL (l.map fun x => .bl (wh x)) = some (l.map wh) := by
  have : (l.map fun x => D.bl (wh x)) = (l.map wh).map .bl := by rw [List.map_map]; rfl
  rw [this, boolL_bls]
theorem e_fault (k : Nat) (d : D) (pl : Pl) (h : dt d = true) (hl : ∀ l, d = .tup l → l.length ≤ LIM ∧ ∀ x ∈ l, dt x = true) : evF P (k + 2) n_fault [d] pl = some (.ok (fD d) pl) := by
  rw [evF_at p_fault (k + 1) 3 i_fault.body]
  have s1 : ∀ x pl, dt x = true → evF P (k + 1) 0 [x] pl = some (.ok (.bl (wh x)) pl) := e_is_whole k
  have s5 : ∀ bs pl, bs.length ≤ LIM → evF P (k + 1) 1 [.lst (bs.map .bl)] pl = some (.ok (ftD bs) pl) := e_first_true k
  have s6 : ∀ s d pl, evF P (k + 1) 2 [.str s, d] pl = some (.ok (if Ev.isNon d then .non else .tup [.str s, d]) pl) := e_fault_at k
  have s7 : ∀ a b pl, evF P (k + 1) 3 [.lst [a, b]] pl = some (.ok (if Ev.isNon a then (if Ev.isNon b then .non else b) else a) pl) := e_first_of k
  generalize evF P (k + 1) = cl at *
  unfold i_fault
  cases ht : isT d with
  | false =>
    have : fD d = .tup [.str "form", .int 0] := by cases d <;> first | rfl | (simp [isT] at ht)
    rw [this]
    have e1 : evE cl (.isin (.var 0) .tuple) (startR 3 [d]) pl = some (.ok (.bl false) pl) := by
      rw [evE, e_var (d := d) rfl, bnd_k, isT_S h, ht]; rfl
    have e2 : ∀ q, evE cl (.orr (.nt (.isin (.var 0) .tuple)) q) (startR 3 [d]) pl = some (.ok (.bl true) pl) := fun q => by
      rw [evE, evE, e1]; rfl
    rw [evSs, s_if (e2 _)]
    rfl
  | true =>
    cases d <;> simp [isT] at ht
    rename_i l
    obtain ⟨h1, h2⟩ := hl l rfl
    have e1 : evE cl (.bi .all (.lc [2] (.nm 2) (.seq (.var 0)) .none (.call "is_whole" 0 (.cons (.var 2) .nil)))) (startR 3 [.tup l]) pl = some (.ok (.bl (l.all wh)) pl) := by
      refine e_bi (lc_map (fun x => .bl (wh x)) (it_seq (e_var rfl) rfl) fun x hx => ?_) ?_
      · rw [e_call (e_cons (e_var rfl) e_nil)]
        exact s1 x pl (h2 x hx)
      · simp only [biS, map_bl, Option.map_some]
        rw [List.all_map]
        rfl
    have e2 : evE cl (.orr (.nt (.isin (.var 0) .tuple)) (.nt (.bi .all (.lc [2] (.nm 2) (.seq (.var 0)) .none (.call "is_whole" 0 (.cons (.var 2) .nil)))))) (startR 3 [.tup l]) pl = some (.ok (.bl (!l.all wh)) pl) := by
      rw [evE, evE, evE, e_var (d := .tup l) rfl, bnd_k]
      simp only [isinS, Option.map_some, lift_k, bnd_k, boolOf, Bool.not_true]
      rw [evE, e1, bnd_k]
      rfl
    cases hw : l.all wh with
    | false =>
      have hf : fD (.tup l) = .tup [.str "form", .int 0] := by unfold fD; simp [hw]
      rw [hf, evSs, s_if e2, hw]
      rfl
    | true =>
      obtain ⟨ns, rfl⟩ := ints_of hw
      rw [fD_ints, ss_nx (ρ' := startR 3 [.tup (ns.map .int)]) (p1 := pl) (by rw [s_if e2, hw]; rfl)]
      rw [ss_nx (ρ' := [some (.val (.tup (ns.map .int))), some (.val (if ns.length = 32 then .non else .int ns.length)), none]) (p1 := pl)]
      · have e4 : evE cl (.lc [2] (.nm 2) (.seq (.var 0)) .none (.cmp .NotIn (.var 2) (.tup (.cons (.int 0) (.cons (.int 1) .nil))))) [some (.val (.tup (ns.map .int))), some (.val (if ns.length = 32 then .non else .int ns.length)), none] pl = some (.ok (.lst ((ns.map badI).map .bl)) pl) := by
          rw [lc_map (fun x => match x with | .int n => .bl (badI n) | d => d) (it_seq (e_var rfl) rfl)]
          · rw [List.map_map, List.map_map]; rfl
          · intro x hx
            obtain ⟨n, hn, rfl⟩ := List.mem_map.mp hx
            simp [evS, evE, evEs, evO, evC, evIt, bnd_k, bndS_k, lift_k, startR, getV, getO, setTg, setAll, boolOf, intOf, binS, augS, cmpS, biS, bi2S, isinS, ixS, slcS, ret_rt, ret_nx, forL, Ev.isNon, seqOf, wipeR, in01]
        have e5 := s5 (ns.map badI) pl (by rw [List.length_map] at h1 ⊢; exact h1)
        generalize hLD : (if ns.length = 32 then D.non else D.int ns.length) = LD at *
        rw [ss_rt (s_ret (d := fRes ns) (p1 := pl) ?_)]
        · rfl
        · rw [e_call (e_cons (e_lst (e_cons (d := if Ev.isNon LD then .non else .tup [.str "length", LD]) (p1 := pl) ?_ (e_cons (d := if Ev.isNon (ftD (ns.map badI)) then .non else .tup [.str "bit", ftD (ns.map badI)]) (p1 := pl) ?_ e_nil))) e_nil), s7]
          · congr 2
            subst hLD
            unfold fRes ftD
            rw [List.findIdx?_map, show (id ∘ badI) = badI from rfl]
            by_cases h32 : ns.length = 32
            · simp only [h32, if_true]
              cases ns.findIdx? badI <;> rfl
            · simp only [h32, if_false]
              cases ns.findIdx? badI <;> rfl
          · rw [e_call (e_cons rfl (e_cons (e_var rfl) e_nil))]
            exact s6 _ _ _
          · rw [e_call (e_cons rfl (e_cons (d := ftD (ns.map badI)) (p1 := pl) ?_ e_nil))]
            · exact s6 _ _ _
            · rw [e_call (e_cons e4 e_nil)]
              exact e5
      · refine s_set ?_
        by_cases h32 : ns.length = 32
        · simp [evS, evE, evEs, evO, evC, evIt, bnd_k, bndS_k, lift_k, startR, getV, getO, setTg, setAll, boolOf, intOf, binS, augS, cmpS, biS, bi2S, isinS, ixS, slcS, ret_rt, ret_nx, forL, Ev.isNon, seqOf, eq_int, h32]
        · have h33 : ¬ ((ns.length : Int) = 32) := by omega
          simp [evS, evE, evEs, evO, evC, evIt, bnd_k, bndS_k, lift_k, startR, getV, getO, setTg, setAll, boolOf, intOf, binS, augS, cmpS, biS, bi2S, isinS, ixS, slcS, ret_rt, ret_nx, forL, Ev.isNon, seqOf, eq_int, h32, h33]
end K69

set_option Elab.async false
set_option linter.all false
set_option maxRecDepth 100000
set_option maxHeartbeats 4000000
/-! k69: the law's own fault. -/
namespace K69
open PySem L2 Ev
theorem eq_nil (ns : List Int) : eqS (.lst (ns.map .int)) (.lst []) = some (decide (ns = [])) := by
  cases ns with
  | nil => simp [eqS, toP, toPs, dep, PyData.depth, PyData.depthAll, PyData.eqv, PyData.eqvAll]
  | cons a r =>
    have h := toPs_ints r
    simp [eqS, toP, h, toPs, dep, PyData.depth, PyData.depthAll, PyData.eqv, PyData.eqvAll]
theorem e_least (k : Nat) (ns : List Int) (pl : Pl) : evF P (k + 1) n__law_least [.lst (ns.map .int)] pl = some (.ok (match minL ns with | some m => .int m | none => .non) pl) := by
  rw [evF_at p__law_least k 1 i__law_least.body]
  generalize evF P k = cl at *
  unfold i__law_least
  have e1 : evE cl (.cmp .NotEq (.var 0) (.lst .nil)) (startR 1 [.lst (ns.map .int)]) pl = some (.ok (.bl (!decide (ns = []))) pl) := by
    rw [evE, e_var (d := .lst (ns.map .int)) rfl, bnd_k, e_lst e_nil, bnd_k]
    simp only [cmpS, eq_nil, Option.map_some, lift_k]
  have e2 : evE cl (.bi .min (.var 0)) (startR 1 [.lst (ns.map .int)]) pl = (match minL ns with | some m => some (.ok (.int m) pl) | none => none) := by
    rw [evE, e_var (d := .lst (ns.map .int)) rfl, bnd_k]
    simp only [biS, intL_ints]
    cases minL ns <;> rfl
  rw [ss_rt (s_ret (d := match minL ns with | some m => .int m | none => .non) (p1 := pl) ?_)]
  · rfl
  · rw [evE, e1, bnd_k]
    cases ns with
    | nil => rfl
    | cons a r =>
      simp only [boolOf, e2, minL]
      rfl
def bads (ns : List Int) : List Int := ((List.range ns.length).filter fun k => badI (ns.getD k 0)).map fun (k : Nat) => (k : Int)
theorem bads_min (ns : List Int) : (match minL (bads ns) with | some m => D.int m | none => D.non) = (match ns.findIdx? badI with | some j => .int j | none => .non) := by
  have hmem : ∀ x : Int, x ∈ bads ns ↔ ∃ i : Nat, ∃ h : i < ns.length, badI ns[i] = true ∧ x = i := by
    intro x
    unfold bads
    simp only [List.mem_map, List.mem_filter, List.mem_range]
    constructor
    · rintro ⟨i, ⟨h1, h2⟩, rfl⟩
      refine ⟨i, h1, ?_, rfl⟩
      simpa [List.getD, List.getElem?_eq_getElem h1] using h2
    · rintro ⟨i, h1, h2, rfl⟩
      refine ⟨i, ⟨h1, ?_⟩, rfl⟩
      simpa [List.getD, List.getElem?_eq_getElem h1] using h2
  cases hf : ns.findIdx? badI with
  | none =>
    have hb : bads ns = [] := by
      cases hb : bads ns with
      | nil => rfl
      | cons a r =>
        obtain ⟨i, h1, h2, _⟩ := (hmem a).mp (by rw [hb]; exact List.mem_cons_self)
        rw [List.findIdx?_eq_none_iff] at hf
        have := hf _ (List.getElem_mem h1)
        rw [h2] at this; cases this
    rw [hb]; rfl
  | some j =>
    rw [List.findIdx?_eq_some_iff_getElem] at hf
    obtain ⟨hj, hb, hmin⟩ := hf
    have hjm : (j : Int) ∈ bads ns := (hmem _).mpr ⟨j, hj, hb, rfl⟩
    cases hm : minL (bads ns) with
    | none =>
      cases hq : bads ns with
      | nil => rw [hq] at hjm; cases hjm
      | cons a r => rw [hq] at hm; cases hm
    | some m =>
      obtain ⟨m1, m2⟩ := minL_spec hm
      obtain ⟨i, h1, h2, rfl⟩ := (hmem m).mp m1
      have h3 := m2 _ hjm
      have h4 : ¬ i < j := fun z => by
        have := hmin i z
        rw [h2] at this
        exact this rfl
      show D.int (i : Int) = D.int (j : Int)
      congr 1
      omega
theorem e_f_sieve (k : Nat) (d : D) (pl : Pl) (h : dt d = true) (hl : ∀ l, d = .tup l → l.length ≤ LIM ∧ ∀ x ∈ l, dt x = true) : evF P (k + 2) n__law_f_sieve [d] pl = some (.ok (fD d) pl) := by
  rw [evF_at p__law_f_sieve (k + 1) 4 i__law_f_sieve.body]
  have s1 : ∀ x pl, dt x = true → evF P (k + 1) 13 [x] pl = some (.ok (.bl (wh x)) pl) := e_is_integer k
  have s5 : ∀ ns pl, evF P (k + 1) 24 [.lst (ns.map .int)] pl = some (.ok (match minL ns with | some m => .int m | none => .non) pl) := e_least k
  have s7 : ∀ s t a b pl, evF P (k + 1) 23 [.lst [.tup [.str s, a], .tup [.str t, b]]] pl = some (.ok (if Ev.isNon a then (if Ev.isNon b then .non else .tup [.str t, b]) else .tup [.str s, a]) pl) := e_law_first k
  generalize evF P (k + 1) = cl at *
  unfold i__law_f_sieve
  cases ht : isT d with
  | false =>
    have : fD d = .tup [.str "form", .int 0] := by cases d <;> first | rfl | (simp [isT] at ht)
    rw [this]
    have e1 : evE cl (.isin (.var 0) .tuple) (startR 4 [d]) pl = some (.ok (.bl false) pl) := by
      rw [evE, e_var (d := d) rfl, bnd_k, isT_S h, ht]; rfl
    have e2 : ∀ q, evE cl (.orr (.nt (.isin (.var 0) .tuple)) q) (startR 4 [d]) pl = some (.ok (.bl true) pl) := fun q => by
      rw [evE, evE, e1]; rfl
    rw [evSs, s_if (e2 _)]
    rfl
  | true =>
    cases d <;> simp [isT] at ht
    rename_i l
    obtain ⟨h1, h2⟩ := hl l rfl
    have e1 : evE cl (.lc [3] (.nm 3) (.seq (.var 0)) (.some (.nt (.call "_law_is_integer" 13 (.cons (.var 3) .nil)))) (.var 3)) (startR 4 [.tup l]) pl = some (.ok (.lst ((l.filter fun x => !wh x).map id)) pl) := by
      refine lc_if (fun x => !wh x) id (it_seq (e_var rfl) rfl) (fun x hx => ?_) fun x hx _ => e_var rfl
      rw [evE, e_call (e_cons (e_var rfl) e_nil), s1 x pl (h2 x hx)]
      rfl
    have e2 : evE cl (.orr (.nt (.isin (.var 0) .tuple)) (.cmp .Gt (.bi .len (.lc [3] (.nm 3) (.seq (.var 0)) (.some (.nt (.call "_law_is_integer" 13 (.cons (.var 3) .nil)))) (.var 3))) (.int (0)))) (startR 4 [.tup l]) pl = some (.ok (.bl (!l.all wh)) pl) := by
      rw [evE, evE, evE, e_var (d := .tup l) rfl, bnd_k]
      simp only [isinS, Option.map_some, lift_k, bnd_k, boolOf, Bool.not_true]
      rw [evE, e_bi e1 rfl, bnd_k, evE, bnd_k]
      simp only [cmpS, Option.map_some, lift_k]
      congr 3
      rw [Bool.eq_iff_iff]
      simp [List.length_pos_iff]
    cases hw : l.all wh with
    | false =>
      have hf : fD (.tup l) = .tup [.str "form", .int 0] := by unfold fD; simp [hw]
      rw [hf, evSs, s_if e2, hw]
      rfl
    | true =>
      obtain ⟨ns, rfl⟩ := ints_of hw
      rw [fD_ints, ss_nx (ρ' := startR 4 [.tup (ns.map .int)]) (p1 := pl) (by rw [s_if e2, hw]; rfl)]
      have hlen : ns.length ≤ LIM := by rw [List.length_map] at h1; exact h1
      have e3 : evE cl (.lc [2] (.nm 2) (.r1 (.bi .len (.var 0))) (.some (.cmp .NotIn (.ix (.var 0) (.var 2)) (.tup (.cons (.int (0)) (.cons (.int (1)) .nil))))) (.var 2)) (startR 4 [.tup (ns.map .int)]) pl = some (.ok (.lst ((bads ns).map .int)) pl) := by
        have ei : evIt cl (.r1 (.bi .len (.var 0))) (startR 4 [.tup (ns.map .int)]) pl = some (.ok (rng 0 ns.length) pl) := by
          refine it_len (e_bi (e_var rfl) ?_) hlen
          simp only [biS, List.length_map]
        rw [lc_if (fun x => match x with | .int i => badI (ns.getD i.toNat 0) | _ => false) id ei]
        · refine congrArg (fun z => some (Out.ok (D.lst z) pl)) ?_
          unfold rng bads
          rw [List.map_id, List.filter_map, List.map_map]
          have e8 : ((fun (x : D) => match x with | .int i => badI (ns.getD i.toNat 0) | _ => false) ∘ fun (k : Nat) => D.int (0 + (k : Int))) = fun k => badI (ns.getD k 0) := by
            funext n
            show badI (ns.getD (0 + (n : Int)).toNat 0) = _
            rw [Int.zero_add, Int.toNat_natCast]
          have e9 : (D.int ∘ fun (k : Nat) => (k : Int)) = fun (k : Nat) => D.int (0 + (k : Int)) := by
            funext n
            show D.int (n : Int) = D.int (0 + (n : Int))
            rw [Int.zero_add]
          rw [e8, e9]
        · intro x hx
          obtain ⟨i, hi, rfl⟩ := mem_rng hx
          simp [evS, evE, evEs, evO, evC, evIt, bnd_k, bndS_k, lift_k, startR, getV, getO, setTg, setAll, boolOf, intOf, binS, augS, cmpS, biS, bi2S, isinS, ixS, slcS, ret_rt, ret_nx, forL, Ev.isNon, seqOf, wipeR, at_nat, hi, in01, List.getD]
        · intro x hx _
          exact e_var rfl
      rw [ss_nx (s_set e3)]
      generalize hLD : (if ns.length = 32 then D.non else D.int ns.length) = LD at *
      have e6 : evE cl (.ite (.cmp .NotEq (.bi .len (.var 0)) (.int (32))) (.bi .len (.var 0)) .non) ((startR 4 [.tup (ns.map .int)]).set 1 (some (.val (.lst ((bads ns).map .int))))) pl = some (.ok LD pl) := by
        subst hLD
        by_cases h32 : ns.length = 32
        · simp [evS, evE, evEs, evO, evC, evIt, bnd_k, bndS_k, lift_k, startR, getV, getO, setTg, setAll, boolOf, intOf, binS, augS, cmpS, biS, bi2S, isinS, ixS, slcS, ret_rt, ret_nx, forL, Ev.isNon, seqOf, eq_int, h32]
        · have h33 : ¬ ((ns.length : Int) = 32) := by omega
          simp [evS, evE, evEs, evO, evC, evIt, bnd_k, bndS_k, lift_k, startR, getV, getO, setTg, setAll, boolOf, intOf, binS, augS, cmpS, biS, bi2S, isinS, ixS, slcS, ret_rt, ret_nx, forL, Ev.isNon, seqOf, eq_int, h32, h33]
      rw [ss_rt (s_ret (d := fRes ns) (p1 := pl) ?_)]
      · rfl
      · rw [e_call (e_cons (e_lst (e_cons (e_tup (e_cons rfl (e_cons e6 e_nil))) (e_cons (e_tup (e_cons rfl (e_cons (d := match minL (bads ns) with | some m => .int m | none => .non) (p1 := pl) ?_ e_nil))) e_nil))) e_nil), s7]
        · refine congrArg (fun z => some (Out.ok z pl)) ?_
          rw [bads_min]
          subst hLD
          unfold fRes
          by_cases h32 : ns.length = 32
          · simp only [h32, if_true]
            cases ns.findIdx? badI <;> rfl
          · simp only [h32, if_false]
            cases ns.findIdx? badI <;> rfl
        · rw [e_call (e_cons (e_var rfl) e_nil)]
          exact s5 _ _
end K69

set_option Elab.async false
set_option linter.all false
set_option maxRecDepth 100000
set_option maxHeartbeats 4000000
/-! the law's own equality is reflexive. -/
namespace K69
open PySem L2 Ev
theorem eq_bl (a b : Bool) : eqS (.bl a) (.bl b) = some (decide (a = b)) := by
  simp [eqS, toP, dep, PyData.depth, PyData.eqv]
  rfl
theorem eq_str (a b : Str) : eqS (.str a) (.str b) = some (decide (a = b)) := by
  simp [eqS, toP, dep, PyData.depth, PyData.eqv]
  rfl
/-- data of depth n, not too long -/
def okD : Nat → D → Prop
  | _, .non => True
  | _, .bl _ => True
  | _, .int _ => True
  | _, .str _ => True
  | n + 1, .tup l => l.length ≤ LIM ∧ ∀ x ∈ l, okD n x
  | n + 1, .lst l => l.length ≤ LIM ∧ ∀ x ∈ l, okD n x
  | _, _ => False
theorem e_same : ∀ (n : Nat) (d : D), okD n d → ∀ (k : Nat) (pl : Pl), evF P (k + n + 1) n__law_same [d, d] pl = some (.ok (.bl true) pl) := by
  intro n
  induction n with
  | zero =>
    intro d h k pl
    rw [evF_at p__law_same (k + 0) 3 i__law_same.body]
    generalize evF P (k + 0) = cl
    cases d <;> simp only [okD] at h <;> simp [evSs, evS, evE, evEs, evO, evC, evIt, bnd_k, bndS_k, lift_k, startR, getV, getO, setTg, setAll, boolOf, intOf, binS, augS, cmpS, biS, bi2S, isinS, ixS, slcS, ret_rt, ret_nx, forL, Ev.isNon, seqOf, i__law_same, eq_bl, eq_int, eq_str]
  | succ n ih =>
    intro d h k pl
    rw [evF_at p__law_same (k + (n + 1)) 3 i__law_same.body]
    have s1 : ∀ d pl, okD n d → evF P (k + (n + 1)) 14 [d, d] pl = some (.ok (.bl true) pl) := fun d pl hd => ih d hd k pl
    generalize evF P (k + (n + 1)) = cl at *
    have key : ∀ (l : List D) (ρ : Rho), l.length ≤ LIM → (∀ x ∈ l, okD n x) → (∀ j (hj : j < l.length), evE cl (.ix (.var 0) (.var 2)) ((wipeR ρ [2]).set 2 (some (.val (.int j)))) pl = some (.ok l[j] pl) ∧ evE cl (.ix (.var 1) (.var 2)) ((wipeR ρ [2]).set 2 (some (.val (.int j)))) pl = some (.ok l[j] pl)) → evE cl (.bi .len (.var 1)) ρ pl = some (.ok (.int l.length) pl) →
        evE cl (.cmp .Eq (.bi .len (.lc [2] (.nm 2) (.r1 (.bi .len (.var 1))) (.some (.nt (.call "_law_same" 14 (.cons (.ix (.var 0) (.var 2)) (.cons (.ix (.var 1) (.var 2)) .nil))))) (.var 2))) (.int (0))) ρ pl = some (.ok (.bl true) pl) := by
      intro l ρ hl hx hi hlen
      have e1 : evE cl (.lc [2] (.nm 2) (.r1 (.bi .len (.var 1))) (.some (.nt (.call "_law_same" 14 (.cons (.ix (.var 0) (.var 2)) (.cons (.ix (.var 1) (.var 2)) .nil))))) (.var 2)) ρ pl = some (.ok (.lst (((rng 0 l.length).filter fun _ => false).map id)) pl) := by
        refine lc_if (fun _ => false) id (it_len hlen hl) (fun x hx' => ?_) fun x _ z => by cases z
        obtain ⟨j, hj, rfl⟩ := mem_rng hx'
        rw [Int.zero_add]
        obtain ⟨i1, i2⟩ := hi j hj
        rw [evE, e_call (e_cons i1 (e_cons i2 e_nil)), s1 _ pl (hx _ (List.getElem_mem hj))]
        rfl
      have e2 : ((rng 0 l.length).filter fun _ => false).map id = [] := by simp
      rw [e2] at e1
      rw [evE, e_bi e1 rfl, bnd_k, evE, bnd_k]
      simp [cmpS, eq_int, lift_k]
    cases d <;> simp only [okD] at h
    case tup l =>
      have k1 := key l (startR 3 [.tup l, .tup l]) h.1 h.2 (fun j hj => by
        constructor <;> simp [evS, evE, evEs, evO, evC, evIt, bnd_k, bndS_k, lift_k, startR, getV, getO, setTg, setAll, boolOf, intOf, binS, augS, cmpS, biS, bi2S, isinS, ixS, slcS, ret_rt, ret_nx, forL, Ev.isNon, seqOf, wipeR, at_nat, hj]) (by simp [evS, evE, evEs, evO, evC, evIt, bnd_k, bndS_k, lift_k, startR, getV, getO, setTg, setAll, boolOf, intOf, binS, augS, cmpS, biS, bi2S, isinS, ixS, slcS, ret_rt, ret_nx, forL, Ev.isNon, seqOf])
      unfold i__law_same
      rw [ss_rt (d := .bl true) (p1 := pl)]
      · rfl
      · rw [s_if (q := true) (p1 := pl) (by simp [evS, evE, evEs, evO, evC, evIt, bnd_k, bndS_k, lift_k, startR, getV, getO, setTg, setAll, boolOf, intOf, binS, augS, cmpS, biS, bi2S, isinS, ixS, slcS, ret_rt, ret_nx, forL, Ev.isNon, seqOf])]
        simp only [if_true]
        rw [ss_nx (ρ' := startR 3 [.tup l, .tup l]) (p1 := pl)]
        · rw [ss_rt (s_ret k1)]
        · rw [s_if (q := false) (p1 := pl) (by simp [evS, evE, evEs, evO, evC, evIt, bnd_k, bndS_k, lift_k, startR, getV, getO, setTg, setAll, boolOf, intOf, binS, augS, cmpS, biS, bi2S, isinS, ixS, slcS, ret_rt, ret_nx, forL, Ev.isNon, seqOf, eq_bl, eq_int])]
          rfl
    case lst l =>
      have k1 := key l (startR 3 [.lst l, .lst l]) h.1 h.2 (fun j hj => by
        constructor <;> simp [evS, evE, evEs, evO, evC, evIt, bnd_k, bndS_k, lift_k, startR, getV, getO, setTg, setAll, boolOf, intOf, binS, augS, cmpS, biS, bi2S, isinS, ixS, slcS, ret_rt, ret_nx, forL, Ev.isNon, seqOf, wipeR, at_nat, hj]) (by simp [evS, evE, evEs, evO, evC, evIt, bnd_k, bndS_k, lift_k, startR, getV, getO, setTg, setAll, boolOf, intOf, binS, augS, cmpS, biS, bi2S, isinS, ixS, slcS, ret_rt, ret_nx, forL, Ev.isNon, seqOf])
      unfold i__law_same
      rw [ss_rt (d := .bl true) (p1 := pl)]
      · rfl
      · rw [s_if (q := true) (p1 := pl) (by simp [evS, evE, evEs, evO, evC, evIt, bnd_k, bndS_k, lift_k, startR, getV, getO, setTg, setAll, boolOf, intOf, binS, augS, cmpS, biS, bi2S, isinS, ixS, slcS, ret_rt, ret_nx, forL, Ev.isNon, seqOf])]
        simp only [if_true]
        rw [ss_nx (ρ' := startR 3 [.lst l, .lst l]) (p1 := pl)]
        · rw [ss_rt (s_ret k1)]
        · rw [s_if (q := false) (p1 := pl) (by simp [evS, evE, evEs, evO, evC, evIt, bnd_k, bndS_k, lift_k, startR, getV, getO, setTg, setAll, boolOf, intOf, binS, augS, cmpS, biS, bi2S, isinS, ixS, slcS, ret_rt, ret_nx, forL, Ev.isNon, seqOf, eq_bl, eq_int])]
          rfl
    all_goals simp [evSs, evS, evE, evEs, evO, evC, evIt, bnd_k, bndS_k, lift_k, startR, getV, getO, setTg, setAll, boolOf, intOf, binS, augS, cmpS, biS, bi2S, isinS, ixS, slcS, ret_rt, ret_nx, forL, Ev.isNon, seqOf, i__law_same, eq_bl, eq_int, eq_str]
end K69

set_option Elab.async false
set_option linter.all false
set_option maxRecDepth 100000
set_option maxHeartbeats 4000000
/-! the law's bends. -/
namespace K69
open PySem L2 Ev
/-- data of depth n, sequences at most L long, no texts -/
def sz (L : Nat) : Nat → D → Prop
  | _, .non => True
  | _, .bl _ => True
  | _, .int _ => True
  | n + 1, .tup l => l.length ≤ L ∧ ∀ x ∈ l, sz L n x
  | n + 1, .lst l => l.length ≤ L ∧ ∀ x ∈ l, sz L n x
  | _, _ => False
theorem sz_dt {L n : Nat} {d : D} (h : sz L n d) : dt d = true := by
  cases d <;> first | rfl | (cases n <;> exact h.elim)
/-- a result, seen from above -/
def rOk (L : Nat) (d : D) : Prop := dt d = true ∧ ∀ l, d = .tup l → l.length ≤ L ∧ ∀ x ∈ l, dt x = true
theorem rOk_atom {L : Nat} {d : D} (h : dt d = true) (h2 : isT d = false) : rOk L d := ⟨h, fun l e => by subst e; cases h2⟩
theorem rOk_tup {L : Nat} {l : List D} (h : l.length ≤ L) (h2 : ∀ x ∈ l, dt x = true) : rOk L (.tup l) := ⟨rfl, fun l' e => by cases e; exact ⟨h, h2⟩⟩
theorem at_in {α : Type} {l : List α} {v : Int} (h0 : 0 ≤ v) (h1 : v < l.length) : ∃ x, x ∈ l ∧ atI l v = some x := by
  obtain ⟨n, rfl⟩ := Int.eq_ofNat_of_zero_le h0
  have hn : n < l.length := by omega
  exact ⟨l[n], List.getElem_mem hn, by rw [at_nat, List.getElem?_eq_getElem hn]⟩
theorem cut_to {α : Type} (l : List α) (v : Int) (h0 : 0 ≤ v) : cutD l none (some v) = l.take v.toNat := by
  obtain ⟨n, rfl⟩ := Int.eq_ofNat_of_zero_le h0
  unfold cutD
  rw [HT.sIx_none, HT.sIx_nat]
  simp
theorem cut_from {α : Type} (l : List α) (v : Int) (h0 : 0 ≤ v) : cutD l (some v) none = l.drop v.toNat := by
  obtain ⟨n, rfl⟩ := Int.eq_ofNat_of_zero_le h0
  unfold cutD
  rw [HT.sIx_none, HT.sIx_nat]
  rcases Nat.le_total n l.length with h | h
  · rw [Nat.min_eq_left h, Int.toNat_natCast, List.take_of_length_le (by rw [List.length_drop]; exact Nat.le_refl _)]
  · rw [Nat.min_eq_right h, Int.toNat_natCast, List.drop_eq_nil_of_le (Nat.le_refl _), List.drop_eq_nil_of_le h]; simp
/-- what a call of _law_draw gives -/
def Draws (cl : Call) : Prop := ∀ m p, PoolOk p → 0 < m → m < 1073741824 → Ok (cl 17 [.pool, .int m] p) fun d p' => ∃ v, d = .int v ∧ PoolOk p' ∧ 0 ≤ v ∧ v < m
/-- a draw, as an expression -/
theorem ok_draw {cl : Call} (hd : Draws cl) {e : E} {ρ : Rho} {pl : Pl} {m : Int} {Q : D → Pl → Prop} (h0 : getV ρ 0 = some .pool) (he : evE cl e ρ pl = some (.ok (.int m) pl)) (hp : PoolOk pl) (h1 : 0 < m) (h2 : m < 1073741824)
    (q : ∀ v p, PoolOk p → 0 ≤ v → v < m → Q (.int v) p) : Ok (evE cl (.call "_law_draw" 17 (.cons (.var 0) (.cons e .nil))) ρ pl) Q := by
  rw [e_call (e_cons (e_var h0) (e_cons he e_nil))]
  exact (hd m pl hp h1 h2).mono fun d p ⟨v, e, a, b, c⟩ => by subst e; exact q v p a b c
theorem okS_set {cl : Call} {i : Nat} {e : E} {ρ : Rho} {pl : Pl} {r : Ss} {Q : SOut → Prop} (h : Ok (evE cl e ρ pl) fun d p => OkS (evSs cl r (ρ.set i (some (.val d))) p) Q) : OkS (evSs cl (.cons (.set i e) r) ρ pl) Q := by
  obtain ⟨d, p, e1, o, e2, q⟩ := h
  exact ⟨o, by rw [ss_nx (s_set e1)]; exact e2, q⟩
theorem okS_ret {cl : Call} {e : E} {ρ : Rho} {pl : Pl} {r : Ss} {Q : D → Pl → Prop} (h : Ok (evE cl e ρ pl) Q) : OkS (evSs cl (.cons (.ret e) r) ρ pl) (Ret Q) := by
  obtain ⟨d, p, e1, q⟩ := h
  exact ⟨_, ss_rt (s_ret e1), q⟩
/-- if c: return .. -/
theorem okS_ifr {cl : Call} {c e : E} {ρ : Rho} {pl : Pl} {r : Ss} {Q : D → Pl → Prop} (h : Ok (evE cl c ρ pl) fun d p => ∃ b, d = .bl b ∧ if b = true then Ok (evE cl e ρ p) Q else OkS (evSs cl r ρ p) (Ret Q)) : OkS (evSs cl (.cons (.iff c (.cons (.ret e) .nil) .nil) r) ρ pl) (Ret Q) := by
  obtain ⟨d, p, e1, b, rfl, q⟩ := h
  cases b with
  | true =>
    obtain ⟨d, p2, e2, q⟩ := q
    exact ⟨.rt d p2, ss_rt (by rw [s_if e1, if_pos rfl, ss_rt (s_ret e2)]), q⟩
  | false =>
    obtain ⟨o, e2, q⟩ := q
    exact ⟨o, by rw [ss_nx (by rw [s_if e1]; rfl)]; exact e2, q⟩
theorem ok_an {cl : Call} {a b : E} {ρ : Rho} {pl : Pl} {Q : D → Pl → Prop} (h : Ok (evE cl a ρ pl) fun d p => ∃ q, d = .bl q ∧ if q = true then Ok (evE cl b ρ p) Q else Q (.bl false) p) : Ok (evE cl (.an a b) ρ pl) Q := by
  obtain ⟨d, p, e1, q, rfl, h⟩ := h
  rw [evE, e1, bnd_k]
  cases q with
  | true => exact h
  | false => exact ⟨_, _, rfl, h⟩
/-- one of ten odd ones -/
theorem pick10 {cl : Call} (hd : Draws cl) {ρ : Rho} {pl : Pl} {L : Nat} (h0 : getV ρ 0 = some .pool) (hp : PoolOk pl) : Ok (evE cl (.ix (.tup (.cons (.str "x") (.cons (.bl true) (.cons (.tup .nil) (.cons (.int (0)) (.cons (.neg (.int (1))) (.cons .non (.cons (.bl false) (.cons (.lst .nil) (.cons (.str "in") (.cons (.int (1)) .nil))))))))))) (.call "_law_draw" 17 (.cons (.var 0) (.cons (.int (10)) .nil)))) ρ pl) fun d p => PoolOk p ∧ rOk L d := by
  have e1 : evE cl (.tup (.cons (.str "x") (.cons (.bl true) (.cons (.tup .nil) (.cons (.int (0)) (.cons (.neg (.int (1))) (.cons .non (.cons (.bl false) (.cons (.lst .nil) (.cons (.str "in") (.cons (.int (1)) .nil))))))))))) ρ pl = some (.ok (.tup [.str "x", .bl true, .tup [], .int 0, .int (-1), .non, .bl false, .lst [], .str "in", .int 1]) pl) := by
    simp [evS, evE, evEs, evO, evC, evIt, bnd_k, bndS_k, lift_k, startR, getV, getO, setTg, setAll, boolOf, intOf, binS, augS, cmpS, biS, bi2S, isinS, ixS, slcS, ret_rt, ret_nx, forL, Ev.isNon, seqOf]
  rw [evE, e1, bnd_k, ok_bnd]
  refine ok_draw hd h0 rfl hp (by decide) (by decide) fun v p hp h1 h2 => ?_
  obtain ⟨x, hx, ex⟩ := at_in (l := [D.str "x", .bl true, .tup [], .int 0, .int (-1), .non, .bl false, .lst [], .str "in", .int 1]) h1 (by simpa using h2)
  rw [ok_lift]
  refine ⟨x, ex, hp, ?_⟩
  simp only [List.mem_cons, List.not_mem_nil, or_false] at hx
  rcases hx with rfl | rfl | rfl | rfl | rfl | rfl | rfl | rfl | rfl | rfl <;> first
    | exact rOk_atom rfl rfl
    | exact rOk_tup (Nat.zero_le _) (fun x hx => by cases hx)
/-- a place of a sequence's end cut, joined -/
theorem join3 {cl : Call} {a b : E} {x : E} {ρ : Rho} {p : Pl} {l : List D} {L : Nat} (hl : l.length ≤ L) (hL : L + 1 ≤ LIM) (hx : ∀ x ∈ l, dt x = true) {v w : Int} (hv : 0 ≤ v) (hw : v ≤ w)
    (h1 : evE cl a ρ p = some (.ok (.tup (cutD l none (some v))) p)) {Q : D → Pl → Prop} (h2 : Ok (evE cl x ρ p) fun d p' => dt d = true ∧ PoolOk p' ∧ evE cl b ρ p' = some (.ok (.tup (cutD l (some w) none)) p') )
    (hQ : ∀ d p', PoolOk p' → rOk (L + 1) d → Q d p') : Ok (evE cl (.bin .Add (.bin .Add a (.tup (.cons x .nil))) b) ρ p) Q := by
  obtain ⟨d, p', e1, d1, d2, e2⟩ := h2
  rw [cut_to l v hv] at h1
  rw [cut_from l w (by omega)] at e2
  have hlen : (l.take v.toNat).length + 1 + (l.drop w.toNat).length ≤ L + 1 := by
    rw [List.length_take, List.length_drop]; omega
  have e3 : evE cl (.bin .Add a (.tup (.cons x .nil))) ρ p = some (.ok (.tup (l.take v.toNat ++ [d])) p') := by
    rw [evE, h1, bnd_k, e_tup (e_cons e1 e_nil), bnd_k]
    simp only [binS]
    rw [if_pos (by simp only [List.length_cons, List.length_nil]; omega), lift_k]
  have e4 : evE cl (.bin .Add (.bin .Add a (.tup (.cons x .nil))) b) ρ p = some (.ok (.tup (l.take v.toNat ++ [d] ++ l.drop w.toNat)) p') := by
    rw [evE, e3, bnd_k, e2, bnd_k]
    simp only [binS]
    rw [if_pos (by simp only [List.length_append, List.length_cons, List.length_nil]; omega), lift_k]
  refine ⟨_, p', e4, hQ _ _ d2 (rOk_tup (by simp only [List.length_append, List.length_cons, List.length_nil]; omega) fun y hy => ?_)⟩
  rcases List.mem_append.mp hy with hy | hy
  · rcases List.mem_append.mp hy with hy | hy
    · exact hx y (List.mem_of_mem_take hy)
    · rw [List.mem_singleton.mp hy]; exact d1
  · exact hx y (List.mem_of_mem_drop hy)
theorem join2 {cl : Call} {a b : E} {ρ : Rho} {p : Pl} {l : List D} {L : Nat} (hl : l.length ≤ L) (hL : L + 1 ≤ LIM) (hx : ∀ x ∈ l, dt x = true) {v w : Int} (hv : 0 ≤ v) (hw : v ≤ w)
    (h1 : evE cl a ρ p = some (.ok (.tup (cutD l none (some v))) p)) (e2 : evE cl b ρ p = some (.ok (.tup (cutD l (some w) none)) p)) {Q : D → Pl → Prop} (hQ : ∀ d, rOk (L + 1) d → Q d p) : Ok (evE cl (.bin .Add a b) ρ p) Q := by
  rw [cut_to l v hv] at h1
  rw [cut_from l w (by omega)] at e2
  have hlen : (l.take v.toNat).length + (l.drop w.toNat).length ≤ L := by
    rw [List.length_take, List.length_drop]; omega
  have e4 : evE cl (.bin .Add a b) ρ p = some (.ok (.tup (l.take v.toNat ++ l.drop w.toNat)) p) := by
    rw [evE, h1, bnd_k, e2, bnd_k]
    simp only [binS]
    rw [if_pos (by omega), lift_k]
  refine ⟨_, p, e4, hQ _ (rOk_tup (by simp only [List.length_append]; omega) fun y hy => ?_)⟩
  rcases List.mem_append.mp hy with hy | hy
  · exact hx y (List.mem_of_mem_take hy)
  · exact hx y (List.mem_of_mem_drop hy)
theorem slc_to {cl : Call} {i j : Nat} {ρ : Rho} {p : Pl} {l : List D} {v : Int} (h1 : getV ρ i = some (.tup l)) (h2 : getV ρ j = some (.int v)) : evE cl (.slc (.var i) .none (.some (.var j))) ρ p = some (.ok (.tup (cutD l none (some v))) p) := by
  rw [evE, e_var h1, bnd_k, evO, bnd_k, evO, e_var h2, bnd_k]; rfl
theorem slc_from1 {cl : Call} {i j : Nat} {ρ : Rho} {p : Pl} {l : List D} {v : Int} (h1 : getV ρ i = some (.tup l)) (h2 : getV ρ j = some (.int v)) : evE cl (.slc (.var i) (.some (.bin .Add (.var j) (.int (1)))) .none) ρ p = some (.ok (.tup (cutD l (some (v + 1)) none)) p) := by
  rw [evE, e_var h1, bnd_k, evO, evE, e_var h2, bnd_k, evE, bnd_k]; rfl
theorem slc_from {cl : Call} {i j : Nat} {ρ : Rho} {p : Pl} {l : List D} {v : Int} (h1 : getV ρ i = some (.tup l)) (h2 : getV ρ j = some (.int v)) : evE cl (.slc (.var i) (.some (.var j)) .none) ρ p = some (.ok (.tup (cutD l (some v) none)) p) := by
  rw [evE, e_var h1, bnd_k, evO, e_var h2, bnd_k]; rfl
theorem e_int {cl : Call} {i : Int} {ρ : Rho} {p : Pl} : evE cl (.int i) ρ p = some (.ok (.int i) p) := rfl
theorem e_lenV {cl : Call} {i : Nat} {ρ : Rho} {p : Pl} {l : List D} (h : getV ρ i = some (.tup l)) : evE cl (.bi .len (.var i)) ρ p = some (.ok (.int l.length) p) := e_bi (e_var h) rfl
theorem ixV {cl : Call} {i j : Nat} {ρ : Rho} {p : Pl} {l : List D} {v : Int} (h1 : getV ρ i = some (.tup l)) (h2 : getV ρ j = some (.int v)) (h3 : 0 ≤ v) (h4 : v < l.length) : ∃ x, x ∈ l ∧ evE cl (.ix (.var i) (.var j)) ρ p = some (.ok x p) := by
  obtain ⟨x, hx, e⟩ := at_in h3 h4
  refine ⟨x, hx, ?_⟩
  rw [evE, e_var h1, bnd_k, e_var h2, bnd_k]
  show lift (atI l v) p = _
  rw [e, lift_k]
/-- the tail of _law_bent, the turn drawn -/
theorem bent_tail {cl : Call} (hd : Draws cl) (hi : ∀ x p, dt x = true → cl 13 [x] p = some (.ok (.bl (wh x)) p)) {d : D} {L n : Nat} (hs : sz L n d) (hL : L + 1 ≤ LIM) (hL2 : 2 ≤ L) {pl : Pl} (hp : PoolOk pl) :
    OkS (evSs cl (Ss.tl i__law_bent.body) (startR 6 [.pool, d]) pl) (Ret fun r p' => PoolOk p' ∧ rOk (L + 1) r) := by
  unfold i__law_bent Ss.tl
  refine okS_set (ok_draw hd rfl e_int hp (by decide) (by decide) fun t p1 hp1 t1 t2 => ?_)
  refine okS_ifr ⟨.bl (decide (t = 0)), p1, by simp [evS, evE, evEs, evO, evC, evIt, bnd_k, bndS_k, lift_k, startR, getV, getO, setTg, setAll, boolOf, intOf, binS, augS, cmpS, biS, bi2S, isinS, ixS, slcS, ret_rt, ret_nx, forL, Ev.isNon, seqOf, eq_int], _, rfl, ?_⟩
  by_cases h0 : t = 0
  · rw [if_pos (by simpa using h0)]
    exact pick10 hd rfl hp1
  rw [if_neg (by simpa using h0)]
  refine okS_ifr ⟨.bl (wh d), p1, by rw [e_call (e_cons (e_var rfl) e_nil)]; exact hi d p1 (sz_dt hs), _, rfl, ?_⟩
  cases hw : wh d with
  | true =>
    rw [if_pos rfl]
    cases d <;> simp [wh] at hw
    rename_i z
    rw [evE, e_var (d := .int z) rfl, bnd_k, ok_bnd, evE]
    have e1 : evE cl (.tup (.cons (.int (1)) (.cons (.neg (.int (1))) (.cons (.int (2)) (.cons (.int (0)) .nil))))) ((startR 6 [.pool, .int z]).set 2 (some (.val (.int t)))) p1 = some (.ok (.tup ([1, -1, 2, 0].map .int)) p1) := by
      simp [evS, evE, evEs, evO, evC, evIt, bnd_k, bndS_k, lift_k, startR, getV, getO, setTg, setAll, boolOf, intOf, binS, augS, cmpS, biS, bi2S, isinS, ixS, slcS, ret_rt, ret_nx, forL, Ev.isNon, seqOf]
    rw [e1, bnd_k, ok_bnd]
    refine ok_draw hd rfl e_int hp1 (by decide) (by decide) fun v p hp h1 h2 => ?_
    obtain ⟨x, hx, ex⟩ := at_in (l := ([1, -1, 2, 0] : List Int).map D.int) h1 (by simpa using h2)
    rw [ok_lift]
    obtain ⟨y, hy, rfl⟩ := List.mem_map.mp hx
    refine ⟨_, ex, ?_⟩
    rw [ok_lift]
    exact ⟨_, rfl, hp, rOk_atom rfl rfl⟩
  | false =>
    rw [if_neg Bool.false_ne_true]
    have hstr : isinS .str d = some false := by
      cases d <;> first | rfl | (cases n <;> exact hs.elim)
    refine okS_ifr ⟨.bl false, p1, by rw [evE, e_var (d := d) rfl, bnd_k, hstr]; rfl, _, rfl, ?_⟩
    rw [if_neg Bool.false_ne_true]
    have hend : ∀ ρ, getV ρ 1 = some d → getV ρ 2 = some (.int t) → Ok (evE cl (.ite (.cmp .Lt (.var 2) (.int (5))) (.tup (.cons (.var 1) (.cons (.int (0)) .nil))) (.tup .nil)) ρ p1) fun r p' => PoolOk p' ∧ rOk (L + 1) r := by
      intro ρ g1 g2
      have e1 : evE cl (.cmp .Lt (.var 2) (.int (5))) ρ p1 = some (.ok (.bl (decide (t < 5))) p1) := by
        rw [evE, e_var g2, bnd_k, evE, bnd_k]; rfl
      rw [evE, e1, bnd_k]
      by_cases h5 : t < 5
      · simp only [boolOf, h5, decide_true]
        rw [e_tup (e_cons (e_var g1) (e_cons e_int e_nil)), ok_ok]
        refine ⟨hp1, rOk_tup (by show 2 ≤ L + 1; omega) fun x hx => ?_⟩
        rcases List.mem_cons.mp hx with rfl | hx
        · exact sz_dt hs
        · rw [List.mem_singleton.mp hx]; rfl
      · simp only [boolOf, h5, decide_false]
        rw [e_tup e_nil, ok_ok]
        exact ⟨hp1, rOk_tup (Nat.zero_le _) fun x hx => by cases hx⟩
    by_cases hT : isT d = true ∧ d ≠ .tup []
    · obtain ⟨hT, hne⟩ := hT
      cases d <;> simp [isT] at hT
      rename_i l
      have hlp : 0 < l.length := by
        cases l with
        | nil => exact (hne rfl).elim
        | cons a r => exact Nat.succ_pos _
      have hll : l.length ≤ L ∧ ∀ x ∈ l, dt x = true := by
        cases n with
        | zero => exact hs.elim
        | succ n => exact ⟨hs.1, fun x hx => sz_dt (hs.2 x hx)⟩
      obtain ⟨hl1, hl2⟩ := hll
      have hLl : L + 1 ≤ 16777216 := hL
      refine okS_ifr ⟨.bl false, p1, ?_, _, rfl, ?_⟩
      · have h9 : decide ((l.length : Int) = 0) = false := decide_eq_false (by omega)
        rw [evE, evE, evE, e_var (d := .tup l) rfl, bnd_k]
        simp only [isinS, Option.map_some, lift_k, bnd_k, boolOf, Bool.not_true]
        rw [evE, e_lenV (l := l) rfl, bnd_k, evE, bnd_k]
        simp only [cmpS, eq_int, h9, Option.map_some, lift_k]
      rw [if_neg Bool.false_ne_true]
      refine okS_set (ok_draw hd rfl (e_lenV rfl) hp1 (by omega) (by omega) fun at_ p2 hp2 a1 a2 => ?_)
      refine okS_ifr ⟨.bl (decide (t < 3)), p2, rfl, _, rfl, ?_⟩
      by_cases h3 : t < 3
      · rw [if_pos (by simpa using h3)]
        exact join2 hl1 hL hl2 a1 (by omega) (slc_to rfl rfl) (slc_from1 rfl rfl) fun d h => ⟨hp2, h⟩
      rw [if_neg (by simpa using h3)]
      refine okS_ifr ⟨.bl (decide (t < 5)), p2, rfl, _, rfl, ?_⟩
      by_cases h5 : t < 5
      · rw [if_pos (by simpa using h5)]
        obtain ⟨x, hx, ex⟩ := ixV (cl := cl) (i := 1) (j := 3) (ρ := (((startR 6 [.pool, .tup l]).set 2 (some (.val (.int t)))).set 3 (some (.val (.int at_))))) (p := p2) rfl rfl a1 a2
        exact join3 hl1 hL hl2 a1 (Int.le_refl _) (slc_to rfl rfl) ⟨x, p2, ex, hl2 x hx, hp2, slc_from rfl rfl⟩ fun d p h1 h2 => ⟨h1, h2⟩
      rw [if_neg (by simpa using h5)]
      refine okS_ifr ⟨.bl (decide (t = 5)), p2, by rw [evE, e_var (d := .int t) rfl, bnd_k, evE, bnd_k]; simp only [cmpS, eq_int]; rfl, _, rfl, ?_⟩
      by_cases h6 : t = 5
      · rw [if_pos (by simpa using h6), e_bi (e_var rfl) rfl, ok_ok]
        exact ⟨hp2, rOk_atom rfl rfl⟩
      rw [if_neg (by simpa using h6)]
      refine okS_set (ok_draw hd rfl (e_lenV rfl) hp2 (by omega) (by omega) fun ot p3 hp3 o1 o2 => ?_)
      obtain ⟨n1, rfl⟩ := Int.eq_ofNat_of_zero_le a1
      obtain ⟨n2, rfl⟩ := Int.eq_ofNat_of_zero_le o1
      have q1 : n1 < l.length := by omega
      have q2 : n2 < l.length := by omega
      have hix : ∀ (m : Nat) (l' : List D) (n : Nat), n < l'.length → ixN l'.length (n : Int) = some n := fun _ l' n h => by
        unfold ixN
        rw [if_pos (by omega), if_pos (by omega), Int.toNat_natCast]
      refine ⟨.rt (.tup ((l.set n1 l[n2]).set n2 l[n1])) p3, ?_, hp3, rOk_tup (by rw [List.length_set, List.length_set]; omega) fun x hx => ?_⟩
      · simp [evSs, evS, evE, evEs, evO, evC, evIt, bnd_k, bndS_k, lift_k, startR, getV, getO, setTg, setAll, boolOf, intOf, binS, augS, cmpS, biS, bi2S, isinS, ixS, slcS, ret_rt, ret_nx, forL, Ev.isNon, seqOf, at_nat, q1, q2, hix 0 l n1 q1, hix 0 l n2 q2]
      · rcases List.mem_or_eq_of_mem_set hx with hx | rfl
        · rcases List.mem_or_eq_of_mem_set hx with hx | rfl
          · exact hl2 x hx
          · exact hl2 _ (List.getElem_mem q2)
        · exact hl2 _ (List.getElem_mem q1)
    · refine okS_ifr ⟨.bl true, p1, ?_, _, rfl, ?_⟩
      · cases d <;> first
          | rfl
          | (rename_i l; cases l with
             | nil => simp [evS, evE, evEs, evO, evC, evIt, bnd_k, bndS_k, lift_k, startR, getV, getO, setTg, setAll, boolOf, intOf, binS, augS, cmpS, biS, bi2S, isinS, ixS, slcS, ret_rt, ret_nx, forL, Ev.isNon, seqOf, eq_int]
             | cons a r => exact (hT ⟨rfl, fun z => by cases z⟩).elim)
          | (cases n <;> exact hs.elim)
      · rw [if_pos rfl]
        exact hend _ rfl rfl
theorem draws (k : Nat) : Draws (evF P (k + 2)) := fun m p hp h1 h2 => e_draw k m p hp h1 h2
theorem e_bent : ∀ (n : Nat) (d : D) (L k : Nat) (pl : Pl), sz L n d → L + 1 ≤ LIM → 2 ≤ L → PoolOk pl → Ok (evF P (k + n + 3) n__law_bent [.pool, d] pl) fun r p' => PoolOk p' ∧ rOk (L + 1) r := by
  intro n
  induction n with
  | zero =>
    intro d L k pl hs hL hL2 hp
    refine ok_def p__law_bent (k + 0 + 2) rfl ?_
    have hd := draws (k + 0)
    have hi : ∀ x p, dt x = true → evF P (k + 0 + 2) 13 [x] p = some (.ok (.bl (wh x)) p) := fun x p h => e_is_integer (k + 0 + 1) x p h
    generalize evF P (k + 0 + 2) = cl at *
    have hT : isinS .tuple d = some false := by
      cases d <;> first | rfl | exact hs.elim
    have e1 : evS cl (Ss.hd i__law_bent.body) (startR 6 [.pool, d]) pl = some (.nx (startR 6 [.pool, d]) pl) := by
      unfold i__law_bent Ss.hd
      rw [s_if (q := false) (p1 := pl)]
      · rfl
      · rw [evE, evE, e_var (d := d) rfl, bnd_k, hT]; rfl
    obtain ⟨o, e2, q⟩ := bent_tail hd hi hs hL hL2 hp
    exact ⟨o, by rw [show i__law_bent.body = .cons (Ss.hd i__law_bent.body) (Ss.tl i__law_bent.body) from rfl]; rw [show i__law_bent.N.length = 6 from rfl, ss_nx e1]; exact e2, q⟩
  | succ n ih =>
    intro d L k pl hs hL hL2 hp
    refine ok_def p__law_bent (k + (n + 1) + 2) rfl ?_
    have hd := draws (k + (n + 1))
    have hi : ∀ x p, dt x = true → evF P (k + (n + 1) + 2) 13 [x] p = some (.ok (.bl (wh x)) p) := fun x p h => e_is_integer (k + (n + 1) + 1) x p h
    have hr : ∀ x p, sz L n x → PoolOk p → Ok (evF P (k + (n + 1) + 2) 19 [.pool, x] p) fun r p' => PoolOk p' ∧ rOk (L + 1) r := fun x p hx hp => ih x L k p hx hL hL2 hp
    generalize evF P (k + (n + 1) + 2) = cl at *
    rw [show i__law_bent.N.length = 6 from rfl, show i__law_bent.body = .cons (Ss.hd i__law_bent.body) (Ss.tl i__law_bent.body) from rfl]
    have go : ∀ p1, PoolOk p1 → evS cl (Ss.hd i__law_bent.body) (startR 6 [.pool, d]) pl = some (.nx (startR 6 [.pool, d]) p1) → OkS (evSs cl (.cons (Ss.hd i__law_bent.body) (Ss.tl i__law_bent.body)) (startR 6 [.pool, d]) pl) (Ret fun r p' => PoolOk p' ∧ rOk (L + 1) r) := fun p1 hp1 e1 => by
      obtain ⟨o, e2, q⟩ := bent_tail hd hi hs hL hL2 hp1
      exact ⟨o, by rw [ss_nx e1]; exact e2, q⟩
    by_cases hT : isT d = true ∧ d ≠ .tup []
    · obtain ⟨hT, hne⟩ := hT
      cases d <;> simp [isT] at hT
      rename_i l
      have hlp : 0 < l.length := by
        cases l with
        | nil => exact (hne rfl).elim
        | cons a r => exact Nat.succ_pos _
      have hLl : L + 1 ≤ 16777216 := hL
      have hl1 := hs.1
      have e0 : evE cl (.cmp .Gt (.bi .len (.var 1)) (.int (0))) (startR 6 [.pool, .tup l]) pl = some (.ok (.bl true) pl) := by
        rw [evE, e_lenV (l := l) rfl, bnd_k, evE, bnd_k]
        simp only [cmpS, Option.map_some, lift_k]
        rw [decide_eq_true (by omega)]
      have hc : ∀ v p1, evE cl (.call "_law_draw" 17 (.cons (.var 0) (.cons (.int (4)) .nil))) (startR 6 [.pool, .tup l]) pl = some (.ok (.int v) p1) → evE cl (.an (.isin (.var 1) .tuple) (.an (.cmp .Gt (.bi .len (.var 1)) (.int (0))) (.cmp .Gt (.call "_law_draw" 17 (.cons (.var 0) (.cons (.int (4)) .nil))) (.int (0))))) (startR 6 [.pool, .tup l]) pl = some (.ok (.bl (decide (0 < v))) p1) := by
        intro v p1 e
        have e8 : evE cl (.isin (.var 1) .tuple) (startR 6 [.pool, .tup l]) pl = some (.ok (.bl true) pl) := rfl
        rw [evE, e8, bnd_k]
        simp only [boolOf]
        rw [evE, e0, bnd_k]
        simp only [boolOf]
        rw [evE, e, bnd_k, evE, bnd_k]
        rfl
      obtain ⟨dv, p1, ev, v, rfl, hp1, v1, v2⟩ : Ok (evE cl (.call "_law_draw" 17 (.cons (.var 0) (.cons (.int (4)) .nil))) (startR 6 [.pool, .tup l]) pl) fun d p => ∃ v, d = .int v ∧ PoolOk p ∧ 0 ≤ v ∧ v < 4 := ok_draw hd rfl e_int hp (by decide) (by decide) fun v p a b c => ⟨v, rfl, a, b, c⟩
      have hcv := hc v p1 ev
      by_cases hv : 0 < v
      · rw [decide_eq_true hv] at hcv
        have : OkS (evS cl (Ss.hd i__law_bent.body) (startR 6 [.pool, .tup l]) pl) fun o => ∃ r p, o = .rt r p ∧ PoolOk p ∧ rOk (L + 1) r := by
          unfold i__law_bent Ss.hd
          rw [s_if hcv, if_pos rfl]
          have : OkS (evSs cl (.cons (.set 3 (.call "_law_draw" 17 (.cons (.var 0) (.cons (.bi .len (.var 1)) .nil))))
(.cons (.ret (.bin .Add (.bin .Add (.slc (.var 1) .none (.some (.var 3))) (.tup (.cons (.call "_law_bent" 19 (.cons (.var 0) (.cons (.ix (.var 1) (.var 3)) .nil))) .nil))) (.slc (.var 1) (.some (.bin .Add (.var 3) (.int (1)))) .none)))
.nil)) (startR 6 [.pool, .tup l]) p1) (Ret fun r p => PoolOk p ∧ rOk (L + 1) r) := by
            refine okS_set (ok_draw hd rfl (e_lenV rfl) hp1 (by omega) (by omega) fun a p2 hp2 a1 a2 => okS_ret ?_)
            obtain ⟨x, hx, ex⟩ := ixV (cl := cl) (i := 1) (j := 3) (ρ := ((startR 6 [.pool, .tup l]).set 3 (some (.val (.int a))))) (p := p2) rfl rfl a1 a2
            refine join3 (w := a + 1) hl1 hL (fun x hx => sz_dt (hs.2 x hx)) a1 (by omega) (slc_to rfl rfl) ?_ fun d p h1 h2 => ⟨h1, h2⟩
            rw [e_call (e_cons (e_var rfl) (e_cons ex e_nil))]
            exact (hr x p2 (hs.2 x hx) hp2).mono fun r p ⟨h1, h2⟩ => ⟨h2.1, h1, slc_from1 rfl rfl⟩
          obtain ⟨o, eo, q⟩ := this
          refine ⟨o, eo, ?_⟩
          cases o with
          | rt r p => exact ⟨r, p, rfl, q⟩
          | nx ρ p =>
            rw [evSs] at eo
            split at eo
            · rw [evSs] at eo
              rename_i e5
              unfold evS at eo
              split at eo
              · rename_i e6
                unfold bndS at e6
                split at e6 <;> cases e6
              · exact absurd eo (by
                  intro z
                  unfold bndS at z
                  split at z <;> cases z)
            · rename_i hn
              exact (hn ρ p eo).elim
          | bk ρ p => exact q.elim
          | ct ρ p => exact q.elim
          | ex ρ p => exact q.elim
        obtain ⟨o, eo, r, p, rfl, q⟩ := this
        exact ⟨.rt r p, ss_rt eo, q⟩
      · rw [decide_eq_false hv] at hcv
        refine go p1 hp1 ?_
        unfold i__law_bent Ss.hd
        rw [s_if hcv]
        rfl
    · refine go pl hp ?_
      unfold i__law_bent Ss.hd
      rw [s_if (q := false) (p1 := pl)]
      · rfl
      · cases d <;> first
          | rfl
          | (rename_i l; cases l with
             | nil => rfl
             | cons a r => exact (hT ⟨rfl, fun z => by cases z⟩).elim)
          | exact hs.elim
end K69

set_option Elab.async false
set_option linter.all false
set_option maxRecDepth 100000
set_option maxHeartbeats 4000000
/-! the law's bends: listed, booled, swapped. -/
namespace K69
open PySem L2 Ev
theorem sz_tup {L n : Nat} {l : List D} (h : sz L n (.tup l)) : l.length ≤ L ∧ ∃ m, n = m + 1 ∧ ∀ x ∈ l, sz L m x := by
  cases n with
  | zero => exact h.elim
  | succ n => exact ⟨h.1, n, rfl, h.2⟩
theorem e_listed : ∀ (m : Nat) (d : D) (L n k : Nat) (pl : Pl), sz L n d → Ok (evF P (k + m + 1) n__law_listed [d, .int m] pl) fun r p' => p' = pl ∧ rOk L r := by
  intro m
  induction m with
  | zero =>
    intro d L n k pl hs
    refine ok_at p__law_listed (k + 0) 3 i__law_listed.body ?_
    generalize evF P (k + 0) = cl at *
    unfold i__law_listed
    have e1 : evE cl (.nt (.isin (.var 0) .tuple)) (startR 3 [d, .int (0 : Nat)]) pl = some (.ok (.bl (!isT d)) pl) := by
      rw [evE, evE, e_var (d := d) rfl, bnd_k, isT_S (sz_dt hs)]; rfl
    refine okS_ifr ⟨_, pl, e1, _, rfl, ?_⟩
    cases hT : isT d with
    | false =>
      rw [if_pos (show (!false) = true from rfl), e_var (d := d) rfl, ok_ok]
      exact ⟨rfl, rOk_atom (sz_dt hs) hT⟩
    | true =>
      rw [if_neg (show ¬ (!true) = true from by decide)]
      cases d <;> simp [isT] at hT
      rename_i l
      refine okS_ifr ⟨.bl true, pl, by simp [evS, evE, evEs, evO, evC, evIt, bnd_k, bndS_k, lift_k, startR, getV, getO, setTg, setAll, boolOf, intOf, binS, augS, cmpS, biS, bi2S, isinS, ixS, slcS, ret_rt, ret_nx, forL, Ev.isNon, seqOf, eq_int], _, rfl, ?_⟩
      rw [if_pos rfl, e_bi (d' := .lst l) (e_var rfl) rfl, ok_ok]
      exact ⟨rfl, rOk_atom rfl rfl⟩
  | succ m ih =>
    intro d L n k pl hs
    refine ok_at p__law_listed (k + (m + 1)) 3 i__law_listed.body ?_
    have hr : ∀ x n p, sz L n x → Ok (evF P (k + (m + 1)) 21 [x, .int m] p) fun r p' => p' = p ∧ rOk L r := fun x n p hx => ih x L n k p hx
    generalize evF P (k + (m + 1)) = cl at *
    unfold i__law_listed
    have e1 : evE cl (.nt (.isin (.var 0) .tuple)) (startR 3 [d, .int ((m + 1 : Nat) : Int)]) pl = some (.ok (.bl (!isT d)) pl) := by
      rw [evE, evE, e_var (d := d) rfl, bnd_k, isT_S (sz_dt hs)]; rfl
    refine okS_ifr ⟨_, pl, e1, _, rfl, ?_⟩
    cases hT : isT d with
    | false =>
      rw [if_pos (show (!false) = true from rfl), e_var (d := d) rfl, ok_ok]
      exact ⟨rfl, rOk_atom (sz_dt hs) hT⟩
    | true =>
      rw [if_neg (show ¬ (!true) = true from by decide)]
      cases d <;> simp [isT] at hT
      rename_i l
      obtain ⟨h1, n, rfl, h2⟩ := sz_tup hs
      have h9 : decide (((m + 1 : Nat) : Int) = 0) = false := decide_eq_false (by omega)
      refine okS_ifr ⟨.bl false, pl, ?_, _, rfl, ?_⟩
      · rw [evE, e_var (d := .int ((m + 1 : Nat) : Int)) rfl, bnd_k, evE, bnd_k]
        simp only [cmpS, eq_int, h9, Option.map_some, lift_k]
      rw [if_neg Bool.false_ne_true]
      refine okS_ret ?_
      rw [evE, ok_bnd]
      refine lc_ok (I := fun p => p = pl) (J := fun r => dt r = true) (it_seq (e_var rfl) rfl) rfl (fun x hx p hp => ?_) fun ys p hp hy hlen => ?_
      · subst hp
        have e5 : evE cl (.bin .Sub (.var 1) (.int (1))) ((wipeR (startR 3 [.tup l, .int ((m + 1 : Nat) : Int)]) [2]).set 2 (some (.val x))) p = some (.ok (.int m) p) := by
          rw [evE, e_var (d := .int ((m + 1 : Nat) : Int)) rfl, bnd_k, evE, bnd_k]
          simp only [binS, lift_k]
          rw [show ((m + 1 : Nat) : Int) - 1 = (m : Int) by omega]
        rw [e_call (e_cons (e_var rfl) (e_cons e5 e_nil))]
        exact (hr x n p (h2 x hx)).mono fun r p' ⟨a, b⟩ => ⟨a, b.1⟩
      · subst hp
        rw [ok_lift]
        exact ⟨.tup ys, rfl, rfl, rOk_tup (by omega) hy⟩
theorem e_booled : ∀ (n : Nat) (d : D) (L k : Nat) (pl : Pl), sz L n d → Ok (evF P (k + n + 2) n__law_booled [d] pl) fun r p' => p' = pl ∧ rOk L r := by
  have atom : ∀ (cl : Call) (d : D) (L n : Nat) (pl : Pl), sz L n d → isT d = false → (∀ x p, dt x = true → cl 13 [x] p = some (.ok (.bl (wh x)) p)) → OkS (evSs cl i__law_booled.body (startR 2 [d]) pl) (Ret fun r p' => p' = pl ∧ rOk L r) := by
    intro cl d L n pl hs hT hi
    unfold i__law_booled
    have e1 : evE cl (.isin (.var 0) .tuple) (startR 2 [d]) pl = some (.ok (.bl false) pl) := by
      rw [evE, e_var (d := d) rfl, bnd_k, isT_S (sz_dt hs), hT]; rfl
    refine okS_ifr ⟨_, pl, e1, _, rfl, ?_⟩
    rw [if_neg Bool.false_ne_true]
    refine okS_ret ?_
    have e2 : evE cl (.call "_law_is_integer" 13 (.cons (.var 0) .nil)) (startR 2 [d]) pl = some (.ok (.bl (wh d)) pl) := by
      rw [e_call (e_cons (e_var rfl) e_nil)]; exact hi d pl (sz_dt hs)
    cases hw : wh d with
    | false =>
      rw [hw] at e2
      rw [evE, evE, e2, bnd_k]
      show Ok (evE cl (.var 0) (startR 2 [d]) pl) _
      rw [e_var (d := d) rfl, ok_ok]
      exact ⟨rfl, rOk_atom (sz_dt hs) hT⟩
    | true =>
      rw [hw] at e2
      cases d <;> simp [wh] at hw
      rename_i z
      have e3 : evE cl (.cmp .In (.var 0) (.tup (.cons (.int (0)) (.cons (.int (1)) .nil)))) (startR 2 [.int z]) pl = some (.ok (.bl (!badI z)) pl) := by
        simp [evS, evE, evEs, evO, evC, evIt, bnd_k, bndS_k, lift_k, startR, getV, getO, setTg, setAll, boolOf, intOf, binS, augS, cmpS, biS, bi2S, isinS, ixS, slcS, ret_rt, ret_nx, forL, Ev.isNon, seqOf, in01]
      rw [evE, evE, e2, bnd_k]
      simp only [boolOf]
      rw [e3, bnd_k]
      cases hb : badI z with
      | true =>
        show Ok (evE cl (.var 0) (startR 2 [.int z]) pl) _
        rw [e_var (d := .int z) rfl, ok_ok]
        exact ⟨rfl, rOk_atom rfl rfl⟩
      | false =>
        show Ok (evE cl (.cmp .Eq (.var 0) (.int 1)) (startR 2 [.int z]) pl) _
        have e4 : evE cl (.cmp .Eq (.var 0) (.int 1)) (startR 2 [.int z]) pl = some (.ok (.bl (decide (z = 1))) pl) := by
          simp [evS, evE, evEs, evO, evC, evIt, bnd_k, bndS_k, lift_k, startR, getV, getO, setTg, setAll, boolOf, intOf, binS, augS, cmpS, biS, bi2S, isinS, ixS, slcS, ret_rt, ret_nx, forL, Ev.isNon, seqOf, eq_int]
        rw [e4, ok_ok]
        exact ⟨rfl, rOk_atom rfl rfl⟩
  intro n
  induction n with
  | zero =>
    intro d L k pl hs
    refine ok_at p__law_booled (k + 0 + 1) 2 i__law_booled.body ?_
    refine atom _ d L 0 pl hs (by cases d <;> first | rfl | exact hs.elim) fun x p h => e_is_integer (k + 0) x p h
  | succ n ih =>
    intro d L k pl hs
    refine ok_at p__law_booled (k + (n + 1) + 1) 2 i__law_booled.body ?_
    cases hT : isT d with
    | false => exact atom _ d L (n + 1) pl hs hT fun x p h => e_is_integer (k + (n + 1)) x p h
    | true =>
      cases d <;> simp [isT] at hT
      rename_i l
      have hr : ∀ x p, sz L n x → Ok (evF P (k + (n + 1) + 1) 20 [x] p) fun r p' => p' = p ∧ rOk L r := fun x p hx => ih x L k p hx
      generalize evF P (k + (n + 1) + 1) = cl at *
      unfold i__law_booled
      refine okS_ifr ⟨.bl true, pl, rfl, _, rfl, ?_⟩
      rw [if_pos rfl, evE, ok_bnd]
      refine lc_ok (I := fun p => p = pl) (J := fun r => dt r = true) (it_seq (e_var rfl) rfl) rfl (fun x hx p hp => ?_) fun ys p hp hy hlen => ?_
      · subst hp
        rw [e_call (e_cons (e_var rfl) e_nil)]
        exact (hr x p (hs.2 x hx)).mono fun r p' ⟨a, b⟩ => ⟨a, b.1⟩
      · subst hp
        rw [ok_lift]
        exact ⟨.tup ys, rfl, rfl, rOk_tup (by have := hs.1; omega) hy⟩
theorem sz_toP {L : Nat} : ∀ (n : Nat) (d : D), sz L n d → ∃ p, toP d = some p := by
  intro n
  induction n with
  | zero =>
    intro d h
    cases d <;> first | exact ⟨_, rfl⟩ | exact h.elim
  | succ n ih =>
    have all : ∀ l : List D, (∀ x ∈ l, sz L n x) → ∃ ps, toPs l = some ps := by
      intro l
      induction l with
      | nil => intro _; exact ⟨[], rfl⟩
      | cons a r ih2 =>
        intro h
        obtain ⟨p, hp⟩ := ih a (h a List.mem_cons_self)
        obtain ⟨ps, hps⟩ := ih2 fun x hx => h x (List.mem_cons_of_mem _ hx)
        exact ⟨p :: ps, by rw [toPs, hp, hps]⟩
    intro d h
    cases d <;> first
      | exact ⟨_, rfl⟩
      | exact h.elim
      | (obtain ⟨ps, hps⟩ := all _ h.2; exact ⟨_, by rw [toP, hps]; rfl⟩)
theorem eq_unit {L n : Nat} {l : List D} (h : sz L n (.tup l)) : eqS (.tup l) (.tup []) = some (decide (l = [])) := by
  obtain ⟨p, hp⟩ := sz_toP n _ h
  rw [toP] at hp
  cases hq : toPs l with
  | none => rw [hq] at hp; cases hp
  | some ps =>
    have hl := toPs_len hq
    simp only [eqS, toP, hq, toPs, Option.map_some]
    cases l with
    | nil =>
      cases ps with
      | nil => simp [dep, PyData.depth, PyData.depthAll, PyData.eqv, PyData.eqvAll]
      | cons a r => cases hl
    | cons a r =>
      cases ps with
      | nil => cases hl
      | cons b s =>
        simp [dep, PyData.depth, PyData.depthAll, PyData.eqv, PyData.eqvAll]
end K69

set_option Elab.async false
set_option linter.all false
set_option maxRecDepth 100000
set_option maxHeartbeats 4000000
/-! the law's bends: swapped, pick. -/
namespace K69
open PySem L2 Ev
theorem okS_setN {cl : Call} {i : Nat} {e : E} {ρ : Rho} {pl : Pl} {r : Ss} {Q : SOut → Prop} (h : Ok (evE cl e ρ pl) fun d p => OkS (evSs cl r (ρ.set i (some (.own d))) p) Q) : OkS (evSs cl (.cons (.setN i e) r) ρ pl) Q := by
  obtain ⟨d, p, e1, o, e2, q⟩ := h
  refine ⟨o, ?_, q⟩
  rw [ss_nx (show evS cl (.setN i e) ρ pl = some (.nx (ρ.set i (some (.own d))) p) by rw [evS, e1, bndS_k])]
  exact e2
theorem ix_nat (l : List D) (n : Nat) (h : n < l.length) : ixN l.length (n : Int) = some n := by
  unfold ixN
  rw [if_pos (by omega), if_pos (by omega), Int.toNat_natCast]
theorem e_swapped : ∀ (n : Nat) (d : D) (L k : Nat) (pl : Pl), sz L n d → L + 1 ≤ LIM → PoolOk pl → Ok (evF P (k + n + 3) n__law_swapped [.pool, d] pl) fun r p' => PoolOk p' ∧ rOk (L + 1) r := by
  intro n
  induction n with
  | zero =>
    intro d L k pl hs hL hp
    refine ok_at p__law_swapped (k + 0 + 2) 5 i__law_swapped.body ?_
    generalize evF P (k + 0 + 2) = cl
    unfold i__law_swapped
    have hT : isinS .tuple d = some false := by
      cases d <;> first | rfl | exact hs.elim
    refine okS_ifr ⟨.bl true, pl, ?_, _, rfl, ?_⟩
    · rw [evE, evE, evE, e_var (d := d) rfl, bnd_k, hT]; rfl
    · rw [if_pos rfl, e_var (d := d) rfl, ok_ok]
      refine ⟨hp, rOk_atom (sz_dt hs) ?_⟩
      cases d <;> first | rfl | exact hs.elim
  | succ n ih =>
    intro d L k pl hs hL hp
    refine ok_at p__law_swapped (k + (n + 1) + 2) 5 i__law_swapped.body ?_
    have hd := draws (k + (n + 1))
    have hr : ∀ x p, sz L n x → PoolOk p → Ok (evF P (k + (n + 1) + 2) 28 [.pool, x] p) fun r p' => PoolOk p' ∧ rOk (L + 1) r := fun x p hx hp => ih x L k p hx hL hp
    generalize evF P (k + (n + 1) + 2) = cl at *
    unfold i__law_swapped
    cases hT : isT d with
    | false =>
      refine okS_ifr ⟨.bl true, pl, ?_, _, rfl, ?_⟩
      · rw [evE, evE, evE, e_var (d := d) rfl, bnd_k, isT_S (sz_dt hs), hT]; rfl
      · rw [if_pos rfl, e_var (d := d) rfl, ok_ok]
        exact ⟨hp, rOk_atom (sz_dt hs) hT⟩
    | true =>
      cases d <;> simp [isT] at hT
      rename_i l
      have hl1 := hs.1
      have hl2 : ∀ x ∈ l, dt x = true := fun x hx => sz_dt (hs.2 x hx)
      have hLl : L + 1 ≤ 16777216 := hL
      refine okS_ifr ⟨.bl (decide (l = [])), pl, ?_, _, rfl, ?_⟩
      · rw [evE, evE, evE, e_var (d := .tup l) rfl, bnd_k]
        simp only [isinS, Option.map_some, lift_k, bnd_k, boolOf, Bool.not_true]
        rw [evE, e_var (d := .tup l) rfl, bnd_k, e_tup e_nil, bnd_k]
        simp only [cmpS, eq_unit hs, Option.map_some, lift_k]
      by_cases h0 : l = []
      · rw [if_pos (by simpa using h0), e_var (d := .tup l) rfl, ok_ok]
        exact ⟨hp, rOk_tup (by omega) hl2⟩
      rw [if_neg (by simpa using h0)]
      have hlp : 0 < l.length := List.length_pos_iff.mpr h0
      refine okS_set (ok_draw hd rfl (e_lenV rfl) hp (by omega) (by omega) fun a p1 hp1 a1 a2 => ?_)
      obtain ⟨x, hx, ex⟩ := ixV (cl := cl) (i := 1) (j := 2) (ρ := ((startR 5 [.pool, .tup l]).set 2 (some (.val (.int a))))) (p := p1) rfl rfl a1 a2
      -- the rest, behind the test
      have rest : ∀ p, PoolOk p → OkS (evSs cl (.cons (.set 3 (.call "_law_draw" 17 (.cons (.var 0) (.cons (.bi .len (.var 1)) .nil))))
(.cons (.setN 4 (.bi .list (.var 1)))
(.cons (.st2 4 (.var 2) (.var 3) (.ix (.pk 4) (.var 3)) (.ix (.pk 4) (.var 2)))
(.cons (.ret (.bi .tuple (.pk 4)))
.nil)))) ((startR 5 [.pool, .tup l]).set 2 (some (.val (.int a)))) p) (Ret fun r p' => PoolOk p' ∧ rOk (L + 1) r) := by
        intro p hp
        refine okS_set (ok_draw hd rfl (e_lenV rfl) hp (by omega) (by omega) fun o p3 hp3 o1 o2 => ?_)
        obtain ⟨n1, rfl⟩ := Int.eq_ofNat_of_zero_le a1
        obtain ⟨n2, rfl⟩ := Int.eq_ofNat_of_zero_le o1
        have q1 : n1 < l.length := by omega
        have q2 : n2 < l.length := by omega
        refine okS_setN ?_
        rw [e_bi (d' := .lst l) (e_var rfl) rfl, ok_ok]
        refine ⟨.rt (.tup ((l.set n1 l[n2]).set n2 l[n1])) p3, ?_, hp3, rOk_tup (by rw [List.length_set, List.length_set]; omega) fun x hx => ?_⟩
        · simp [evSs, evS, evE, evEs, evO, evC, evIt, bnd_k, bndS_k, lift_k, startR, getV, getO, setTg, setAll, boolOf, intOf, binS, augS, cmpS, biS, bi2S, isinS, ixS, slcS, ret_rt, ret_nx, forL, Ev.isNon, seqOf, at_nat, q1, q2, ix_nat l n1 q1, ix_nat l n2 q2]
        · rcases List.mem_or_eq_of_mem_set hx with hx | rfl
          · rcases List.mem_or_eq_of_mem_set hx with hx | rfl
            · exact hl2 x hx
            · exact hl2 _ (List.getElem_mem q2)
          · exact hl2 _ (List.getElem_mem q1)
      cases hxT : isT x with
      | false =>
        refine okS_ifr ⟨.bl false, p1, ?_, _, rfl, ?_⟩
        · rw [evE, evE, ex, bnd_k, isT_S (hl2 x hx), hxT]; rfl
        · rw [if_neg Bool.false_ne_true]
          exact rest p1 hp1
      | true =>
        obtain ⟨dv, p2, ev, v, rfl, hp2, v1, v2⟩ : Ok (evE cl (.call "_law_draw" 17 (.cons (.var 0) (.cons (.int (4)) .nil))) ((startR 5 [.pool, .tup l]).set 2 (some (.val (.int a)))) p1) fun d p => ∃ v, d = .int v ∧ PoolOk p ∧ 0 ≤ v ∧ v < 4 := ok_draw hd rfl e_int hp1 (by decide) (by decide) fun v p a b c => ⟨v, rfl, a, b, c⟩
        refine okS_ifr ⟨.bl (decide (0 < v)), p2, ?_, _, rfl, ?_⟩
        · rw [evE, evE, ex, bnd_k, isT_S (hl2 x hx), hxT]
          simp only [Option.map_some, lift_k, bnd_k, boolOf]
          rw [evE, ev, bnd_k, evE, bnd_k]
          rfl
        · by_cases hv : 0 < v
          · rw [if_pos (by simpa using hv)]
            refine join3 (w := a + 1) hl1 hL hl2 a1 (by omega) (slc_to rfl rfl) ?_ fun d p h1 h2 => ⟨h1, h2⟩
            obtain ⟨y, hy, ey⟩ := ixV (cl := cl) (i := 1) (j := 2) (ρ := ((startR 5 [.pool, .tup l]).set 2 (some (.val (.int a))))) (p := p2) rfl rfl a1 a2
            rw [e_call (e_cons (e_var rfl) (e_cons ey e_nil))]
            exact (hr y p2 (hs.2 y hy) hp2).mono fun r p ⟨h1, h2⟩ => ⟨h2.1, h1, slc_from1 rfl rfl⟩
          · rw [if_neg (by simpa using hv)]
            exact rest p2 hp2
theorem e_pick (k : Nat) (l : List D) (pl : Pl) (hp : PoolOk pl) (h1 : 0 < l.length) (h2 : l.length ≤ 1000000) : Ok (evF P (k + 3) n__law_pick [.pool, .lst l] pl) fun r p' => PoolOk p' ∧ r ∈ l := by
  refine ok_at p__law_pick (k + 2) 2 i__law_pick.body ?_
  have hd := draws k
  generalize evF P (k + 2) = cl at *
  unfold i__law_pick
  refine okS_ret ?_
  rw [evE, e_var (d := .lst l) rfl, bnd_k, ok_bnd]
  refine ok_draw hd rfl (e_bi (d' := .int l.length) (e_var rfl) rfl) hp (by omega) (by omega) fun v p hp v1 v2 => ?_
  obtain ⟨x, hx, e⟩ := at_in v1 v2
  rw [ok_lift]
  exact ⟨x, e, hp, hx⟩
end K69

set_option Elab.async false
set_option linter.all false
set_option maxRecDepth 100000
set_option maxHeartbeats 4000000
/-! the law's bends. -/
namespace K69
open PySem L2 Ev
theorem rOk.mono {L M : Nat} {d : D} (h : rOk L d) (hm : L ≤ M) : rOk M d := ⟨h.1, fun l e => ⟨Nat.le_trans (h.2 l e).1 hm, (h.2 l e).2⟩⟩
theorem cut_len {α : Type} (l : List α) (a b : Option Int) : (cutD l a b).length ≤ l.length := by
  unfold cutD
  rw [List.length_take, List.length_drop]; omega
theorem cut_mem {α : Type} {l : List α} {a b : Option Int} {x : α} (h : x ∈ cutD l a b) : x ∈ l := List.mem_of_mem_drop (List.mem_of_mem_take h)
theorem rOk_cut {L : Nat} {l : List D} {a b : Option Int} (h1 : l.length ≤ L) (h2 : ∀ x ∈ l, dt x = true) : rOk L (.tup (cutD l a b)) := rOk_tup (Nat.le_trans (cut_len l a b) h1) fun x hx => h2 x (cut_mem hx)
theorem join3e {cl : Call} {a b x : E} {ρ : Rho} {p : Pl} {l m : List D} {d : D} {L : Nat} (hl : l.length + m.length ≤ L) (hL : L + 1 ≤ LIM) (hx : ∀ x ∈ l, dt x = true) (hm : ∀ x ∈ m, dt x = true) (hdt : dt d = true)
    (h1 : evE cl a ρ p = some (.ok (.tup l) p)) (h2 : evE cl x ρ p = some (.ok d p)) (h3 : evE cl b ρ p = some (.ok (.tup m) p)) : ∃ r, evE cl (.bin .Add (.bin .Add a (.tup (.cons x .nil))) b) ρ p = some (.ok r p) ∧ rOk (L + 1) r := by
  have e3 : evE cl (.bin .Add a (.tup (.cons x .nil))) ρ p = some (.ok (.tup (l ++ [d])) p) := by
    rw [evE, h1, bnd_k, e_tup (e_cons h2 e_nil), bnd_k]
    simp only [binS]
    rw [if_pos (by simp only [List.length_cons, List.length_nil]; omega), lift_k]
  refine ⟨.tup (l ++ [d] ++ m), ?_, rOk_tup (by simp only [List.length_append, List.length_cons, List.length_nil]; omega) fun y hy => ?_⟩
  · rw [evE, e3, bnd_k, h3, bnd_k]
    simp only [binS]
    rw [if_pos (by simp only [List.length_append, List.length_cons, List.length_nil]; omega), lift_k]
  · rcases List.mem_append.mp hy with hy | hy
    · rcases List.mem_append.mp hy with hy | hy
      · exact hx y hy
      · rw [List.mem_singleton.mp hy]; exact hdt
    · exact hm y hy
theorem join2e {cl : Call} {a b : E} {ρ : Rho} {p : Pl} {l m : List D} {L : Nat} (hl : l.length + m.length ≤ L) (hL : L ≤ LIM) (hx : ∀ x ∈ l, dt x = true) (hm : ∀ x ∈ m, dt x = true)
    (h1 : evE cl a ρ p = some (.ok (.tup l) p)) (h3 : evE cl b ρ p = some (.ok (.tup m) p)) : ∃ r, evE cl (.bin .Add a b) ρ p = some (.ok r p) ∧ rOk L r := by
  refine ⟨.tup (l ++ m), ?_, rOk_tup (by simp only [List.length_append]; omega) fun y hy => ?_⟩
  · rw [evE, h1, bnd_k, h3, bnd_k]
    simp only [binS]
    rw [if_pos (by omega), lift_k]
  · rcases List.mem_append.mp hy with hy | hy
    · exact hx y hy
    · exact hm y hy
def oddsE : Es := (.cons (.int (0)) (.cons (.int (1)) (.cons (.int (5)) (.cons (.int (99)) (.cons (.int (100)) (.cons (.neg (.int (1))) (.cons .non (.cons (.tup .nil) (.cons (.tup (.cons (.int (3)) (.cons (.int (4)) .nil))) (.cons (.tup (.cons (.int (3)) (.cons .non .nil))) (.cons (.tup (.cons (.tup (.cons (.int (3)) (.cons (.int (4)) .nil))) .nil)) (.cons (.tup (.cons (.str "fork") (.cons (.tup .nil) (.cons (.tup .nil) .nil)))) (.cons (.str "gone") (.cons (.str "x") (.cons (.bl true) (.cons (.tup (.cons (.int (7)) (.cons (.int (1)) (.cons (.tup .nil) (.cons (.tup .nil) .nil))))) (.cons (.tup (.cons (.int (7)) (.cons (.int (1)) (.cons (.tup .nil) (.cons (.tup .nil) (.cons (.int (0)) .nil)))))) .nil)))))))))))))))))
def oddsD : List D := [.int 0, .int 1, .int 5, .int 99, .int 100, .int (-1), .non, .tup [], .tup [.int 3, .int 4], .tup [.int 3, .non], .tup [.tup [.int 3, .int 4]], .tup [.str "fork", .tup [], .tup []], .str "gone", .str "x", .bl true, .tup [.int 7, .int 1, .tup [], .tup []], .tup [.int 7, .int 1, .tup [], .tup [], .int 0]]
theorem odds_eq (cl : Call) (ρ : Rho) (p : Pl) : evEs cl oddsE ρ p = some (.ok oddsD p) := rfl
theorem odds_dt : ∀ x ∈ oddsD, dt x = true := by
  intro x hx
  simp only [oddsD, List.mem_cons, List.not_mem_nil, or_false] at hx
  rcases hx with rfl | rfl | rfl | rfl | rfl | rfl | rfl | rfl | rfl | rfl | rfl | rfl | rfl | rfl | rfl | rfl | rfl <;> rfl
def bendBody : Ss := (.cons (.set 4 (.call "_law_draw" 17 (.cons (.var 0) (.cons (.bin .Add (.bi .len (.var 1)) (.int (1))) .nil))))
(.cons (.set 5 (.call "_law_pick" 18 (.cons (.var 0) (.cons (.bin .Add (.lst oddsE) (.bi .list (.var 1))) .nil))))
(.cons (.setN 2 (.cat (.pk 2) (.lst (.cons (.bin .Add (.bin .Add (.slc (.var 1) .none (.some (.var 4))) (.tup (.cons (.var 5) .nil))) (.slc (.var 1) (.some (.bin .Add (.var 4) (.int (1)))) .none)) (.cons (.bin .Add (.bin .Add (.slc (.var 1) .none (.some (.var 4))) (.tup (.cons (.var 5) .nil))) (.slc (.var 1) (.some (.var 4)) .none)) (.cons (.bin .Add (.slc (.var 1) .none (.some (.var 4))) (.slc (.var 1) (.some (.bin .Add (.var 4) (.int (1)))) .none)) .nil))))))
(.cons (.app 2 (.call "_law_swapped" 28 (.cons (.var 0) (.cons (.var 1) .nil))))
.nil))))
def Picks (cl : Call) : Prop := ∀ (l : List D) (pl : Pl), PoolOk pl → 0 < l.length → l.length ≤ 1000000 → Ok (cl 18 [.pool, .lst l] pl) fun r p' => PoolOk p' ∧ r ∈ l
theorem bend_body {cl : Call} (hd : Draws cl) (hpk : Picks cl) {l : List D} (hl : l.length ≤ 100) (hdt : ∀ x ∈ l, dt x = true) (hsw : ∀ p, PoolOk p → Ok (cl 28 [.pool, .tup l] p) fun r p' => PoolOk p' ∧ rOk 101 r)
    {found : List D} {r3 r4 r5 : Option Sl} {pl : Pl} (hp : PoolOk pl) (hf : ∀ x ∈ found, rOk 201 x) (hfl : found.length ≤ 1000) :
    OkS (evSs cl bendBody [some (.val .pool), some (.val (.tup l)), some (.own (.lst found)), r3, r4, r5] pl) fun o => ∃ found' r4' r5' p', o = .nx [some (.val .pool), some (.val (.tup l)), some (.own (.lst found')), r3, r4', r5'] p' ∧ PoolOk p' ∧ (∀ x ∈ found', rOk 201 x) ∧ found'.length = found.length + 4 := by
  have hLIM : (1005 : Nat) ≤ LIM := by decide
  unfold bendBody
  have elen : evE cl (.bin .Add (.bi .len (.var 1)) (.int (1))) [some (.val .pool), some (.val (.tup l)), some (.own (.lst found)), r3, r4, r5] pl = some (.ok (.int ((l.length : Int) + 1)) pl) := by
    rw [evE, e_lenV (l := l) rfl, bnd_k, evE, bnd_k]; rfl
  refine okS_set (ok_draw hd rfl elen hp (by omega) (by omega) fun a p1 hp1 a1 a2 => ?_)
  simp only [List.set_cons_succ, List.set_cons_zero]
  have elist : evE cl (.bin .Add (.lst oddsE) (.bi .list (.var 1))) [some (.val .pool), some (.val (.tup l)), some (.own (.lst found)), r3, some (.val (.int a)), r5] p1 = some (.ok (.lst (oddsD ++ l)) p1) := by
    rw [evE, e_lst (odds_eq cl _ p1), bnd_k, e_bi (d' := .lst l) (e_var rfl) rfl, bnd_k]
    simp only [binS]
    rw [if_pos (by show 17 + l.length ≤ LIM; omega), lift_k]
  refine okS_set ?_
  rw [e_call (e_cons (e_var rfl) (e_cons elist e_nil))]
  refine (hpk (oddsD ++ l) p1 hp1 (by rw [List.length_append]; show 0 < 17 + _; omega) (by rw [List.length_append]; show 17 + _ ≤ _; omega)).mono fun od p2 ⟨hp2, hod⟩ => ?_
  have hodt : dt od = true := by
    rcases List.mem_append.mp hod with h | h
    · exact odds_dt od h
    · exact hdt od h
  simp only [List.set_cons_succ, List.set_cons_zero]
  generalize hρ : [some (.val .pool), some (.val (.tup l)), some (.own (.lst found)), r3, some (.val (.int a)), some (.val od)] = ρ
  have g1 : getV ρ 1 = some (.tup l) := by subst hρ; rfl
  have g4 : getV ρ 4 = some (.int a) := by subst hρ; rfl
  have g5 : getV ρ 5 = some od := by subst hρ; rfl
  have s1 := slc_to (cl := cl) (p := p2) g1 g4
  have s2 := slc_from1 (cl := cl) (p := p2) g1 g4
  have s3 := slc_from (cl := cl) (p := p2) g1 g4
  have c1 := cut_len l none (some a)
  have c2 := cut_len l (some (a + 1)) none
  have c3 := cut_len l (some a) none
  obtain ⟨x1, e1, k1⟩ := join3e (L := 200) (by omega) (by omega) (fun x hx => hdt x (cut_mem hx)) (fun x hx => hdt x (cut_mem hx)) hodt s1 (e_var g5) s2
  obtain ⟨x2, e2, k2⟩ := join3e (L := 200) (by omega) (by omega) (fun x hx => hdt x (cut_mem hx)) (fun x hx => hdt x (cut_mem hx)) hodt s1 (e_var g5) s3
  obtain ⟨x3, e3, k3⟩ := join2e (L := 201) (by omega) (by omega) (fun x hx => hdt x (cut_mem hx)) (fun x hx => hdt x (cut_mem hx)) s1 s2
  have epk : evE cl (.pk 2) ρ p2 = some (.ok (.lst found) p2) := by subst hρ; rfl
  refine okS_setN ?_
  rw [evE, epk, bnd_k, e_lst (e_cons e1 (e_cons e2 (e_cons e3 e_nil))), bnd_k]
  simp only
  rw [if_pos (by show found.length + 3 ≤ LIM; omega), ok_ok]
  subst hρ
  simp only [List.set_cons_succ, List.set_cons_zero]
  obtain ⟨sw, p3, e4, hp3, hsw⟩ := hsw p2 hp2
  have e5 : evE cl (.call "_law_swapped" 28 (.cons (.var 0) (.cons (.var 1) .nil))) [some (.val .pool), some (.val (.tup l)), some (.own (.lst (found ++ [x1, x2, x3]))), r3, some (.val (.int a)), some (.val od)] p2 = some (.ok sw p3) := by
    rw [e_call (e_cons (e_var rfl) (e_cons (e_var rfl) e_nil)), e4]
  refine ⟨_, ?_, found ++ [x1, x2, x3] ++ [sw], some (.val (.int a)), some (.val od), p3, rfl, hp3, fun x hx => ?_, by simp⟩
  · rw [ss_nx (s := .app 2 _) (ρ' := [some (.val .pool), some (.val (.tup l)), some (.own (.lst (found ++ [x1, x2, x3] ++ [sw]))), r3, some (.val (.int a)), some (.val od)]) (p1 := p3)]
    · rfl
    · rw [evS, e5, bndS_k]
      show (if (found ++ [x1, x2, x3]).length < LIM then _ else none) = _
      rw [if_pos (by rw [List.length_append]; show found.length + 3 < LIM; omega)]
      rfl
  · rcases List.mem_append.mp hx with hx | hx
    · rcases List.mem_append.mp hx with hx | hx
      · exact hf x hx
      · simp only [List.mem_cons, List.not_mem_nil, or_false] at hx
        rcases hx with rfl | rfl | rfl
        · exact k1
        · exact k2
        · exact k3
    · rw [List.mem_singleton.mp hx]
      exact hsw.mono (by omega)
end K69

set_option Elab.async false
set_option linter.all false
set_option maxRecDepth 100000
set_option maxHeartbeats 4000000
/-! the law's bends, all; odd values. -/
namespace K69
open PySem L2 Ev
theorem e_bends (k n : Nat) (l : List D) (pl : Pl) (hs : sz 100 n (.tup l)) (hp : PoolOk pl) : Ok (evF P (k + n + 4) n__law_bends [.pool, .tup l] pl) fun r p' => PoolOk p' ∧ ∃ xs, r = .lst xs ∧ xs.length ≤ 1000 ∧ ∀ x ∈ xs, rOk 201 x := by
  refine ok_at p__law_bends (k + n + 3) 6 i__law_bends.body ?_
  have hd : Draws (evF P (k + n + 3)) := draws (k + n + 1)
  have hpk : Picks (evF P (k + n + 3)) := fun l pl hp h1 h2 => e_pick (k + n) l pl hp h1 h2
  have hLIM : (1005 : Nat) ≤ LIM := by decide
  have hsw : ∀ p, PoolOk p → Ok (evF P (k + n + 3) 28 [.pool, .tup l] p) fun r p' => PoolOk p' ∧ rOk 101 r := fun p hp => e_swapped n (.tup l) 100 k p hs (by omega) hp
  have hbt : ∀ p, PoolOk p → Ok (evF P (k + n + 3) 19 [.pool, .tup l] p) fun r p' => PoolOk p' ∧ rOk 101 r := fun p hp => e_bent n (.tup l) 100 k p hs (by omega) (by omega) hp
  have hl1 : ∀ p, Ok (evF P (k + n + 3) 21 [.tup l, .int 1] p) fun r p' => p' = p ∧ rOk 100 r := fun p => e_listed 1 (.tup l) 100 n (k + n + 1) p hs
  have hl2 : ∀ p, Ok (evF P (k + n + 3) 21 [.tup l, .int 2] p) fun r p' => p' = p ∧ rOk 100 r := fun p => e_listed 2 (.tup l) 100 n (k + n) p hs
  have hbo : ∀ p, Ok (evF P (k + n + 3) 20 [.tup l] p) fun r p' => p' = p ∧ rOk 100 r := fun p => by
    have := e_booled n (.tup l) 100 (k + 1) p hs
    rwa [show k + 1 + n + 2 = k + n + 3 by omega] at this
  generalize evF P (k + n + 3) = cl at *
  obtain ⟨hl, m, rfl, hsz⟩ := sz_tup hs
  have hdt : ∀ x ∈ l, dt x = true := fun x hx => sz_dt (hsz x hx)
  show OkS (evSs cl (.cons (.setN 2 (.lst (.cons (.bi .list (.var 1)) (.cons (.slc (.var 1) (.some (.int (1))) .none) (.cons (.slc (.var 1) .none (.some (.neg (.int (1))))) (.cons (.bin .Add (.var 1) (.var 1)) (.cons (.rvt (.var 1)) (.cons (.bin .Add (.var 1) (.slc (.var 1) .none (.some (.int (1))))) (.cons (.call "_law_listed" 21 (.cons (.var 1) (.cons (.int (1)) .nil))) (.cons (.call "_law_listed" 21 (.cons (.var 1) (.cons (.int (2)) .nil))) (.cons (.call "_law_booled" 20 (.cons (.var 1) .nil)) (.cons (.tup .nil) .nil))))))))))))
(.cons (.forr (.nm 3) (.r1 (.int (8))) bendBody)
(.cons (.ret (.bin .Add (.pk 2) (.lc [3] (.nm 3) (.r1 (.int (12))) .none (.call "_law_bent" 19 (.cons (.var 0) (.cons (.var 1) .nil))))))
.nil))) (startR 6 [.pool, .tup l]) pl) _
  refine okS_setN ?_
  generalize hρ : startR 6 [.pool, .tup l] = ρ
  have g1 : getV ρ 1 = some (.tup l) := by subst hρ; rfl
  have v1 : evE cl (.bi .list (.var 1)) ρ pl = some (.ok (.lst l) pl) := e_bi (e_var g1) rfl
  have v2 : evE cl (.slc (.var 1) (.some (.int (1))) .none) ρ pl = some (.ok (.tup (cutD l (some 1) none)) pl) := by
    rw [evE, e_var g1, bnd_k, evO, evE, bnd_k]; rfl
  have v3 : evE cl (.slc (.var 1) .none (.some (.neg (.int (1))))) ρ pl = some (.ok (.tup (cutD l none (some (-1)))) pl) := by
    rw [evE, e_var g1, bnd_k, evO, bnd_k, evO, evE, evE, bnd_k]; rfl
  have v3b : evE cl (.slc (.var 1) .none (.some (.int (1)))) ρ pl = some (.ok (.tup (cutD l none (some 1))) pl) := by
    rw [evE, e_var g1, bnd_k, evO, bnd_k, evO, evE, bnd_k]; rfl
  have c1 := cut_len l none (some 1)
  obtain ⟨r4, v4, k4⟩ := join2e (L := 201) (by omega) (by omega) hdt hdt (e_var (cl := cl) (pl := pl) g1) (e_var g1)
  have v5 : evE cl (.rvt (.var 1)) ρ pl = some (.ok (.tup l.reverse) pl) := by
    rw [evE, e_var g1, bnd_k]
  obtain ⟨r6, v6, k6⟩ := join2e (L := 201) (by omega) (by omega) hdt (fun x hx => hdt x (cut_mem hx)) (e_var (cl := cl) (pl := pl) g1) v3b
  obtain ⟨r7, p7, v7, rfl, k7⟩ := hl1 pl
  obtain ⟨r8, p8, v8, rfl, k8⟩ := hl2 p7
  obtain ⟨r9, p9, v9, rfl, k9⟩ := hbo p8
  have w7 : evE cl (.call "_law_listed" 21 (.cons (.var 1) (.cons (.int (1)) .nil))) ρ p9 = some (.ok r7 p9) := by
    rw [e_call (e_cons (e_var g1) (e_cons e_int e_nil)), v7]
  have w8 : evE cl (.call "_law_listed" 21 (.cons (.var 1) (.cons (.int (2)) .nil))) ρ p9 = some (.ok r8 p9) := by
    rw [e_call (e_cons (e_var g1) (e_cons e_int e_nil)), v8]
  have w9 : evE cl (.call "_law_booled" 20 (.cons (.var 1) .nil)) ρ p9 = some (.ok r9 p9) := by
    rw [e_call (e_cons (e_var g1) e_nil), v9]
  rw [e_lst (e_cons v1 (e_cons v2 (e_cons v3 (e_cons v4 (e_cons v5 (e_cons v6 (e_cons w7 (e_cons w8 (e_cons w9 (e_cons (e_tup e_nil) e_nil)))))))))), ok_ok]
  have hf0 : ∀ x ∈ [D.lst l, .tup (cutD l (some 1) none), .tup (cutD l none (some (-1))), r4, .tup l.reverse, r6, r7, r8, r9, .tup []], rOk 201 x := by
    intro x hx
    simp only [List.mem_cons, List.not_mem_nil, or_false] at hx
    rcases hx with rfl | rfl | rfl | rfl | rfl | rfl | rfl | rfl | rfl | rfl
    · exact rOk_atom rfl rfl
    · exact (rOk_cut hl hdt).mono (by omega)
    · exact (rOk_cut hl hdt).mono (by omega)
    · exact k4
    · exact rOk_tup (by rw [List.length_reverse]; omega) fun x hx => hdt x (List.mem_reverse.mp hx)
    · exact k6
    · exact k7.mono (by omega)
    · exact k8.mono (by omega)
    · exact k9.mono (by omega)
    · exact rOk_tup (Nat.zero_le _) fun x hx => by cases hx
  subst hρ
  refine okS_cons ?_
  have e8 : evIt cl (.r1 (.int (8))) ((startR 6 [.pool, .tup l]).set 2 (some (.own (.lst [D.lst l, .tup (cutD l (some 1) none), .tup (cutD l none (some (-1))), r4, .tup l.reverse, r6, r7, r8, r9, .tup []])))) p9 = some (.ok (rng 0 8) p9) := it_len (n := 8) rfl (by omega)
  rw [evS, e8, bndS_k]
  refine okS_for (fun j ρ p => PoolOk p ∧ ∃ found a b c, ρ = [some (.val .pool), some (.val (.tup l)), some (.own (.lst found)), a, b, c] ∧ (∀ x ∈ found, rOk 201 x) ∧ found.length = 10 + 4 * j) (i := 0) ⟨hp, _, none, none, none, rfl, hf0, rfl⟩ ?_ ?_
  · rintro j x ρ p hx ⟨hp, found, a, b, c, rfl, hf, hfl⟩
    have hj : j < 8 := by
      rcases Nat.lt_or_ge j 8 with z | z
      · exact z
      · rw [List.getElem?_eq_none (by rw [rng_len]; exact z)] at hx; cases hx
    show OkS (evSs cl bendBody [some (.val .pool), some (.val (.tup l)), some (.own (.lst found)), some (.val x), b, c] p) _
    refine (bend_body hd hpk hl hdt hsw hp hf (by omega)).mono fun o ⟨f', b', c', p', e, h1, h2, h3⟩ => ?_
    subst e
    exact ⟨h1, f', _, b', c', rfl, h2, by omega⟩
  · rintro ρ p ⟨hp, found, a, b, c, rfl, hf, hfl⟩
    rw [rng_len] at hfl
    refine thn_nx (okS_ret ?_)
    have epk : evE cl (.pk 2) [some (.val .pool), some (.val (.tup l)), some (.own (.lst found)), a, b, c] p = some (.ok (.lst found) p) := rfl
    rw [evE, epk, bnd_k, ok_bnd]
    refine lc_ok (I := PoolOk) (J := rOk 201) (it_len (n := 12) rfl (by omega)) hp (fun x hx p hp => ?_) fun ys p hp hy hlen => ?_
    · rw [e_call (e_cons (e_var rfl) (e_cons (e_var rfl) e_nil))]
      exact (hbt p hp).mono fun r p' ⟨a, b⟩ => ⟨a, b.mono (by omega)⟩
    · rw [rng_len] at hlen
      rw [ok_lift]
      refine ⟨.lst (found ++ ys), ?_, hp, found ++ ys, rfl, by rw [List.length_append]; omega, fun x hx => ?_⟩
      · simp only [binS]
        rw [if_pos (by omega)]
      · rcases List.mem_append.mp hx with hx | hx
        · exact hf x hx
        · exact hy x hx
theorem e_odd (k : Nat) (pl : Pl) : Ok (evF P (k + 1) n__law_odd_values [] pl) fun r p => p = pl ∧ ∃ xs, r = .lst xs ∧ xs.length ≤ 100 ∧ ∀ x ∈ xs, rOk 201 x := by
  refine ok_at p__law_odd_values k 2 i__law_odd_values.body ?_
  generalize evF P k = cl
  unfold i__law_odd_values
  have hLIM : (1005 : Nat) ≤ LIM := by decide
  refine okS_set ?_
  rw [e_tup e_nil, ok_ok]
  refine okS_cons ?_
  have e8 : ∀ ρ, evIt cl (.r1 (.int (90))) ρ pl = some (.ok (rng 0 90) pl) := fun ρ => it_len (n := 90) rfl (by omega)
  rw [evS, e8, bndS_k]
  refine okS_for (fun j ρ p => p = pl ∧ ∃ l r, ρ = [some (.val (.tup l)), r] ∧ l.length ≤ 1 ∧ ∀ x ∈ l, dt x = true) (i := 0) ⟨rfl, [], none, rfl, Nat.zero_le _, fun x hx => by cases hx⟩ ?_ ?_
  · rintro j x ρ p hx ⟨rfl, l, r, rfl, h1, h2⟩
    refine ⟨_, rfl, rfl, [.tup l], some (.val x), rfl, Nat.le_refl _, fun y hy => by rw [List.mem_singleton.mp hy]; rfl⟩
  · rintro ρ p ⟨rfl, l, r, rfl, h1, h2⟩
    refine thn_nx (okS_ret ?_)
    refine ⟨.lst [.tup l, .tup [.str "plan", .tup l, .tup l], .non, .int 0, .int 1, .bl true, .bl false, .str "", .str "x", .tup [], .lst [], .dct [], .tup [.tup []], .tup [.tup [], .tup []], .tup [.int 0], .tup [.int 1, .int 2], .tup [.str "x"], .tup [.lst []], .dct [(.inr "a", .int 1)], .tup [.non], .tup [.tup [.tup []]], .int (-1)], p, ?_, rfl, _, rfl, (show 22 ≤ 100 by decide), fun x hx => ?_⟩
    · simp [evS, evE, evEs, evO, evC, evIt, bnd_k, bndS_k, lift_k, startR, getV, getO, setTg, setAll, boolOf, intOf, binS, augS, cmpS, biS, bi2S, isinS, ixS, slcS, ret_rt, ret_nx, forL, Ev.isNon, seqOf]
    · simp only [List.mem_cons, List.not_mem_nil, or_false] at hx
      rcases hx with rfl | rfl | rfl | rfl | rfl | rfl | rfl | rfl | rfl | rfl | rfl | rfl | rfl | rfl | rfl | rfl | rfl | rfl | rfl | rfl | rfl | rfl
      · exact rOk_tup (by omega) h2
      all_goals first
        | exact rOk_atom rfl rfl
        | exact rOk_tup (Nat.zero_le _) (fun x hx => by cases hx)
        | (refine rOk_tup (by simp only [List.length_cons, List.length_nil]; decide) fun y hy => ?_
           simp only [List.mem_cons, List.not_mem_nil, or_false] at hy
           first
             | (rcases hy with rfl | rfl | rfl <;> rfl)
             | (rcases hy with rfl | rfl <;> rfl)
             | (subst hy; rfl)
             | cases hy)
theorem e_key (k : Nat) (pl : Pl) (hp : PoolOk pl) : Ok (evF P (k + 3) n__law_key [.pool] pl) fun r p => PoolOk p ∧ ∃ i, r = .int i ∧ 0 ≤ i ∧ i < 100 := by
  refine ok_at p__law_key (k + 2) 1 i__law_key.body ?_
  have hd := draws k
  generalize evF P (k + 2) = cl at *
  unfold i__law_key
  refine okS_ret ?_
  have et : ∀ p, evE cl (.tup (.cons (.int (12)) (.cons (.int (40)) (.cons (.int (100)) .nil)))) (startR 1 [.pool]) p = some (.ok (.tup ([12, 40, 100].map .int)) p) := fun p => rfl
  obtain ⟨dv, p2, ev, v, rfl, hp2, v1, v2⟩ : Ok (evE cl (.call "_law_draw" 17 (.cons (.var 0) (.cons (.int (3)) .nil))) (startR 1 [.pool]) pl) fun d p => ∃ v, d = .int v ∧ PoolOk p ∧ 0 ≤ v ∧ v < 3 := ok_draw hd rfl e_int hp (by decide) (by decide) fun v p a b c => ⟨v, rfl, a, b, c⟩
  obtain ⟨x, hx, ex⟩ := at_in (l := ([12, 40, 100] : List Int).map D.int) v1 (by simpa using v2)
  obtain ⟨m, hm, rfl⟩ := List.mem_map.mp hx
  have e2 : evE cl (.ix (.tup (.cons (.int (12)) (.cons (.int (40)) (.cons (.int (100)) .nil)))) (.call "_law_draw" 17 (.cons (.var 0) (.cons (.int (3)) .nil)))) (startR 1 [.pool]) pl = some (.ok (.int m) p2) := by
    rw [evE, et, bnd_k, ev, bnd_k]
    show lift (atI _ v) p2 = _
    rw [ex, lift_k]
  have hm2 : 0 < m ∧ m ≤ 100 := by
    simp only [List.mem_cons, List.not_mem_nil, or_false] at hm
    omega
  rw [e_call (e_cons (e_var rfl) (e_cons e2 e_nil))]
  exact (hd m p2 hp2 hm2.1 (by omega)).mono fun d p ⟨w, e, h1, h2, h3⟩ => ⟨h1, w, e, h2, by omega⟩
theorem pool_says (k : Nat) (ns : List Int) : ∃ l pl', endN (evF P k) i__law_pool.body (startR 3 [.scr ns]) [] = some (.ok (.lst l) pl') ∧ PoolOk l := by
  generalize evF P k = cl
  have h1 : ∀ salt r, endN cl (.cons (.ret (.lst (.cons (.bi .list (.var 0)) (.cons (.int (0)) (.cons (.int (0)) (.cons (.int (0)) (.cons (.var 1) .nil))))))) .nil) [some (.val (.scr ns)), some (.val (.int salt)), r] [] = some (.ok (.lst [.lst (ns.map .int), .int 0, .int 0, .int 0, .int salt]) []) := fun salt r => rfl
  have h2 : OkS (evS cl (.forr (.nm 2) (.seq (.slc (.var 0) .none (.some (.int (63))))) (.cons (.set 1 (.bin .Mod (.bi .int (.bin .Add (.bin .Mult (.var 1) (.int (31))) (.var 2))) (.int (1000003)))) .nil)) [some (.val (.scr ns)), some (.val (.int 7)), none] []) fun o => ∃ salt r, o = .nx [some (.val (.scr ns)), some (.val (.int salt)), r] [] := by
    have e1 : evIt cl (.seq (.slc (.var 0) .none (.some (.int (63))))) [some (.val (.scr ns)), some (.val (.int 7)), none] [] = some (.ok ((cutD ns none (some 63)).map .int) []) := rfl
    rw [evS, e1, bndS_k]
    refine okS_for (fun j ρ p => p = [] ∧ ∃ salt r, ρ = [some (.val (.scr ns)), some (.val (.int salt)), r]) (i := 0) ⟨rfl, 7, none, rfl⟩ ?_ ?_
    · rintro j x ρ p hx ⟨rfl, salt, r, rfl⟩
      rw [List.getElem?_map, Option.map_eq_some_iff] at hx
      obtain ⟨i, hi, rfl⟩ := hx
      simp [evSs, evS, evE, evEs, evO, evC, evIt, bnd_k, bndS_k, lift_k, startR, getV, getO, setTg, setAll, boolOf, intOf, binS, augS, cmpS, biS, bi2S, isinS, ixS, slcS, ret_rt, ret_nx, forL, Ev.isNon, seqOf, mulOk, okS_some]
    · rintro ρ p ⟨rfl, salt, r, rfl⟩
      exact ⟨salt, r, rfl⟩
  obtain ⟨o, e, salt, r, rfl⟩ := h2
  refine ⟨[.lst (ns.map .int), .int 0, .int 0, .int 0, .int salt], [], ?_, ns, 0, 0, 0, salt, rfl, Int.le_refl _⟩
  unfold i__law_pool
  rw [endN_cons (.inl fun _ z => by cases z), s_set (d := .int 7) (p1 := []) rfl]
  show endN cl _ [some (.val (.scr ns)), some (.val (.int 7)), none] [] = _
  rw [endN_cons (.inl fun _ z => by cases z), e]
  exact h1 salt r
end K69

set_option Elab.async false
set_option linter.all false
set_option maxRecDepth 100000
set_option maxHeartbeats 4000000
/-! k69: the law. -/
namespace K69
open PySem L2 Ev
theorem okD_int (n : Nat) (i : Int) : okD n (.int i) := by cases n <;> exact True.intro
theorem okD_ints (n : Nat) (ns : List Int) (h : ns.length ≤ LIM) : okD (n + 1) (.lst (ns.map .int)) := ⟨by rw [List.length_map]; exact h, fun x hx => by
  obtain ⟨i, _, rfl⟩ := List.mem_map.mp hx
  exact okD_int n i⟩
theorem okD_sv (n : Nat) (f : Int → Bool) : okD (n + 1) (svD f) := ⟨by rw [List.length_map, sv_len]; decide, fun x hx => by
  obtain ⟨i, _, rfl⟩ := List.mem_map.mp hx
  exact okD_int n i⟩
theorem okD_fRes (ns : List Int) : okD 3 (fRes ns) := by
  unfold fRes
  have h2 : (2 : Nat) ≤ LIM := by decide
  split
  · split
    · exact ⟨h2, fun x hx => by
        simp only [List.mem_cons, List.not_mem_nil, or_false] at hx
        rcases hx with rfl | rfl <;> exact True.intro⟩
    · exact True.intro
  · exact ⟨h2, fun x hx => by
        simp only [List.mem_cons, List.not_mem_nil, or_false] at hx
        rcases hx with rfl | rfl <;> exact True.intro⟩
theorem okD_fD (d : D) : okD 3 (fD d) := by
  have h2 : (2 : Nat) ≤ LIM := by decide
  have hF : okD 3 (.tup [.str "form", .int 0]) := ⟨h2, fun x hx => by
        simp only [List.mem_cons, List.not_mem_nil, or_false] at hx
        rcases hx with rfl | rfl <;> exact True.intro⟩
  cases d <;> try exact hF
  rename_i l
  show okD 3 (if l.all wh then fRes _ else _)
  split
  · exact okD_fRes _
  · exact hF
theorem sz_sv (f : Int → Bool) : sz 100 1 (svD f) := ⟨by rw [List.length_map, sv_len]; decide, fun x hx => by
  obtain ⟨i, _, rfl⟩ := List.mem_map.mp hx
  exact True.intro⟩
theorem rOk_sv (f : Int → Bool) : rOk 201 (svD f) := rOk_tup (by rw [List.length_map, sv_len]; decide) fun x hx => by
  obtain ⟨i, _, rfl⟩ := List.mem_map.mp hx
  rfl
theorem ints_of' {ys : List D} (h : ∀ y ∈ ys, ∃ i : Int, y = .int i ∧ 0 ≤ i ∧ i < 100) : ∃ ks : List Int, ys = ks.map .int ∧ ks.length = ys.length := by
  induction ys with
  | nil => exact ⟨[], rfl, rfl⟩
  | cons a r ih =>
    obtain ⟨i, rfl, _⟩ := h a List.mem_cons_self
    obtain ⟨ks, e, hl⟩ := ih fun y hy => h y (List.mem_cons_of_mem _ hy)
    exact ⟨i :: ks, by rw [e]; rfl, by simp [hl]⟩
/-- the keys drawn -/
theorem draw_keys {cl : Call} (hd : Draws cl) (hk : ∀ p, PoolOk p → Ok (cl 26 [.pool] p) fun r p => PoolOk p ∧ ∃ i, r = .int i ∧ 0 ≤ i ∧ i < 100) {ρ : Rho} {pl : Pl} {m : Int} (hw : getV ρ 1 = some .pool) (hw2 : ∀ x, getV ((wipeR ρ [9]).set 9 (some (.val x))) 1 = some .pool) (hp : PoolOk pl) (h1 : 0 < m) (h2 : m ≤ 500)
    {Q : D → Pl → Prop} (q : ∀ (ks : List Int) p, PoolOk p → ks.length ≤ 500 → Q (.lst (ks.map .int)) p) : Ok (evE cl (.lc [9] (.nm 9) (.r1 (.call "_law_draw" 17 (.cons (.var 1) (.cons (.int m) .nil)))) .none (.call "_law_key" 26 (.cons (.var 1) .nil))) ρ pl) Q := by
  obtain ⟨dv, p2, ev, v, rfl, hp2, v1, v2⟩ : Ok (evE cl (.call "_law_draw" 17 (.cons (.var 1) (.cons (.int m) .nil))) ρ pl) fun d p => ∃ v, d = .int v ∧ PoolOk p ∧ 0 ≤ v ∧ v < m := by
    rw [e_call (e_cons (e_var hw) (e_cons e_int e_nil))]
    exact hd m pl hp h1 (by omega)
  have hL : v.toNat ≤ LIM := Nat.le_trans (show v.toNat ≤ 1000 by omega) (by decide)
  have hs : small v = true := by unfold small; simp; omega
  refine lc_ok (I := PoolOk) (J := fun r => ∃ i, r = .int i ∧ 0 ≤ i ∧ i < 100) (it_r1 ev hs hL) hp2 (fun x hx p hp => ?_) fun ys p hp hy hlen => ?_
  · rw [e_call (e_cons (e_var (hw2 x)) e_nil)]
    exact hk p hp
  · obtain ⟨ks, rfl, hl⟩ := ints_of' hy
    refine q ks p hp ?_
    rw [rng_len] at hlen
    omega
theorem says : ∀ ns : List Int, ns.length ≤ 63 → lawSays P 148 i__law_pool i_law ns := by
  intro ns _
  obtain ⟨l, pl', e0, hp⟩ := pool_says 148 ns
  refine ⟨l, pl', e0, ?_⟩
  suffices h : OkS (evSs (evF P 149) i_law.body ((startR i_law.N.length [.scr ns]).set 1 (some (.val .pool))) l) (Ret fun d _ => d = .bl true) by
    obtain ⟨o, e, q⟩ := h
    cases o with
    | rt d p =>
      cases (show d = .bl true from q)
      exact ⟨p, e⟩
    | nx ρ p => exact absurd (show D.non = D.bl true from q) (by intro z; cases z)
    | bk ρ p => exact q.elim
    | ct ρ p => exact q.elim
    | ex ρ p => exact q.elim
  have hd : Draws (evF P 149) := draws 147
  have hkey : ∀ p, PoolOk p → Ok (evF P 149 26 [.pool] p) fun r p => PoolOk p ∧ ∃ i, r = .int i ∧ 0 ≤ i ∧ i < 100 := e_key 146
  have hsv : ∀ (ks : List Int) p, ks.length ≤ 1000 → evF P 149 6 [.lst (ks.map .int)] p = some (.ok (svD fun p => decide (p ∈ allP ks)) p) := e_sieve_of 146
  have hls : ∀ (ks : List Int) p, ks.length ≤ 1000 → evF P 149 30 [.lst (ks.map .int)] p = some (.ok (svD fun p => decide (p ∈ allP ks)) p) := e_law_sieve 146
  have hwk : ∀ f key p, evF P 149 9 [svD f, .int key] p = some (.ok (svD (wk f key)) p) := e_with_key 146
  have hbo : ∀ f g p, evF P 149 10 [svD f, svD g] p = some (.ok (svD fun p => f p || g p) p) := e_both 148
  have hpl : ∀ i p, evF P 149 5 [.int i] p = some (.ok (.lst ((plc i).map .int)) p) := e_places 147
  have hlp : ∀ i p, evF P 149 29 [.int i] p = some (.ok (.lst ((plc i).map .int)) p) := e_law_places 147
  have hmh : ∀ f key p, evF P 149 8 [svD f, .int key] p = some (.ok (.bl ((plc key).all f)) p) := e_may_hold 146
  have hho : ∀ f (ks : List Int) p, evF P 149 11 [svD f, .lst (ks.map .int)] p = some (.ok (.lst ((ks.filter fun key => (plc key).all f).map .int)) p) := e_held_of 145
  have hfu : ∀ (ns : List Int) p, evF P 149 12 [.tup (ns.map .int)] p = some (.ok (.int ns.sum) p) := e_fullness 148
  have hsame : ∀ d p, okD 3 d → evF P 149 14 [d, d] p = some (.ok (.bl true) p) := fun d p h => e_same 3 d h 145 p
  have hfa : ∀ d p, rOk 201 d → evF P 149 7 [d] p = some (.ok (fD d) p) := fun d p h => e_fault 147 d p h.1 fun l e => ⟨Nat.le_trans (h.2 l e).1 (by decide), (h.2 l e).2⟩
  have hfs : ∀ d p, rOk 201 d → evF P 149 31 [d] p = some (.ok (fD d) p) := fun d p h => e_f_sieve 147 d p h.1 fun l e => ⟨Nat.le_trans (h.2 l e).1 (by decide), (h.2 l e).2⟩
  have hbe : ∀ f p, PoolOk p → Ok (evF P 149 27 [.pool, svD f] p) fun r p' => PoolOk p' ∧ ∃ xs, r = .lst xs ∧ xs.length ≤ 1000 ∧ ∀ x ∈ xs, rOk 201 x := fun f p hp => e_bends 144 1 _ p (sz_sv f) hp
  have hod : ∀ p, Ok (evF P 149 22 [] p) fun r p' => p' = p ∧ ∃ xs, r = .lst xs ∧ xs.length ≤ 100 ∧ ∀ x ∈ xs, rOk 201 x := e_odd 148
  generalize evF P 149 = cl at *
  have hLIM : (5000 : Nat) ≤ LIM := by decide
  show OkS (evSs cl i_law.body [some (.val (.scr ns)), some (.val .pool), none, none, none, none, none, none, none, none, none, none] l) _
  unfold i_law
  refine okS_set (draw_keys hd hkey rfl (fun x => rfl) hp (by decide) (by decide) fun one p1 hp1 l1 => ?_)
  simp only [List.set_cons_succ, List.set_cons_zero]
  refine okS_set (draw_keys hd hkey rfl (fun x => rfl) hp1 (by decide) (by decide) fun two p2 hp2 l2 => ?_)
  simp only [List.set_cons_succ, List.set_cons_zero]
  refine okS_set ?_
  rw [e_call (e_cons (e_var rfl) e_nil), hsv one p2 (by omega), ok_ok]
  simp only [List.set_cons_succ, List.set_cons_zero]
  refine okS_set ?_
  rw [e_var (d := svD fun p => decide (p ∈ allP one)) rfl, ok_ok]
  simp only [List.set_cons_succ, List.set_cons_zero]
  refine okS_cons ?_
  rw [evS, it_seq (xs := two.map D.int) (e_var rfl) rfl, bndS_k]
  have hfg : ∀ (a b : List Int), (fun p => decide (p ∈ allP a) || decide (p ∈ allP b)) = fun p => decide (p ∈ allP (a ++ b)) := fun a b => by
    funext p
    unfold allP
    rw [List.flatMap_append]
    simp
  refine okS_for (fun j ρ p => p = p2 ∧ ∃ r, ρ = [some (.val (.scr ns)), some (.val .pool), some (.val (.lst (one.map .int))), some (.val (.lst (two.map .int))), some (.val (svD fun p => decide (p ∈ allP one))), some (.val (svD fun p => decide (p ∈ allP (one ++ two.take j)))), r, none, none, none, none, none]) (i := 0) ⟨rfl, none, by rw [List.take_zero, List.append_nil]⟩ ?_ ?_
  · rintro j x ρ p hx ⟨rfl, r, rfl⟩
    rw [List.getElem?_map, Option.map_eq_some_iff] at hx
    obtain ⟨i, hi, rfl⟩ := hx
    rw [Nat.zero_add] at *
    have ew : wk (fun p => decide (p ∈ allP (one ++ two.take j))) i = fun p => decide (p ∈ allP (one ++ two.take (j + 1))) := by
      rw [List.take_succ, hi]
      have := hfg (one ++ two.take j) [i]
      rw [Option.toList_some, ← List.append_assoc, ← this]
      funext p
      unfold wk
      rw [Bool.or_comm]
      congr 2
    have e1 : evE cl (.call "with_key" 9 (.cons (.var 5) (.cons (.var 6) .nil))) [some (.val (.scr ns)), some (.val .pool), some (.val (.lst (one.map .int))), some (.val (.lst (two.map .int))), some (.val (svD fun p => decide (p ∈ allP one))), some (.val (svD fun p => decide (p ∈ allP (one ++ two.take j)))), some (.val (.int i)), none, none, none, none, none] p = some (.ok (svD fun p => decide (p ∈ allP (one ++ two.take (j + 1)))) p) := by
      rw [e_call (e_cons (e_var rfl) (e_cons (e_var rfl) e_nil)), hwk, ew]
    refine ⟨_, ss_nx (s_set e1), rfl, some (.val (.int i)), rfl⟩
  rintro ρ p ⟨rfl, r, rfl⟩
  rw [List.length_map, Nat.zero_add, List.take_length]
  refine thn_nx ?_
  generalize hf1 : (fun p => decide (p ∈ allP one)) = f1 at *
  generalize hfG : (fun p => decide (p ∈ allP (one ++ two))) = fG at *
  -- the first comparison
  have hcomp : ∀ (ρ : Rho) (p : Pl), PoolOk p → getV ρ 1 = some .pool → getV ρ 2 = some (.lst (one.map .int)) → getV ρ 3 = some (.lst (two.map .int)) → getV ρ 4 = some (svD f1) → getV ρ 5 = some (svD fG) →
      Ok (evE cl (.nt (.call "_law_same" 14 (.cons (.lst (.cons (.var 4) (.cons (.var 5) (.cons (.call "both" 10 (.cons (.var 4) (.cons (.call "sieve_of" 6 (.cons (.var 3) .nil)) .nil))) (.cons (.cmp .NotEq (.call "places" 5 (.cons (.call "_law_draw" 17 (.cons (.var 1) (.cons (.int (100)) .nil))) .nil)) (.lst .nil)) .nil))))) (.cons (.lst (.cons (.call "_law_sieve" 30 (.cons (.var 2) .nil)) (.cons (.call "_law_sieve" 30 (.cons (.bin .Add (.var 2) (.var 3)) .nil)) (.cons (.call "_law_sieve" 30 (.cons (.bin .Add (.var 2) (.var 3)) .nil)) (.cons (.bl true) .nil))))) .nil)))) ρ p) fun d p' => d = .bl false ∧ PoolOk p' := by
    intro ρ p hp g1 g2 g3 g4 g5
    obtain ⟨dv, p3, ev, v, rfl, hp3, v1, v2⟩ : Ok (evE cl (.call "_law_draw" 17 (.cons (.var 1) (.cons (.int 100) .nil))) ρ p) fun d p => ∃ v, d = .int v ∧ PoolOk p ∧ 0 ≤ v ∧ v < 100 := by
      rw [e_call (e_cons (e_var g1) (e_cons e_int e_nil))]
      exact hd 100 p hp (by decide) (by decide)
    have eb : evE cl (.call "both" 10 (.cons (.var 4) (.cons (.call "sieve_of" 6 (.cons (.var 3) .nil)) .nil))) ρ p = some (.ok (svD fG) p) := by
      rw [e_call (e_cons (e_var g4) (e_cons (d := svD fun p => decide (p ∈ allP two)) (p1 := p) ?_ e_nil)), hbo]
      · subst hf1 hfG
        rw [hfg]
      · rw [e_call (e_cons (e_var g3) e_nil), hsv two p (by omega)]
    have epl : evE cl (.cmp .NotEq (.call "places" 5 (.cons (.call "_law_draw" 17 (.cons (.var 1) (.cons (.int (100)) .nil))) .nil)) (.lst .nil)) ρ p = some (.ok (.bl true) p3) := by
      rw [evE, e_call (e_cons ev e_nil), hpl, bnd_k, e_lst e_nil, bnd_k]
      simp only [cmpS, eq_nil, Option.map_some, lift_k]
      rfl
    have ea : evE cl (.bin .Add (.var 2) (.var 3)) ρ p3 = some (.ok (.lst ((one ++ two).map .int)) p3) := by
      rw [evE, e_var g2, bnd_k, e_var g3, bnd_k]
      simp only [binS, List.length_map]
      rw [if_pos (by omega), lift_k, List.map_append]
    have es2 : evE cl (.call "_law_sieve" 30 (.cons (.bin .Add (.var 2) (.var 3)) .nil)) ρ p3 = some (.ok (svD fG) p3) := by
      rw [e_call (e_cons ea e_nil), hls (one ++ two) p3 (by rw [List.length_append]; omega), hfG]
    have es1 : evE cl (.call "_law_sieve" 30 (.cons (.var 2) .nil)) ρ p3 = some (.ok (svD f1) p3) := by
      rw [e_call (e_cons (e_var g2) e_nil), hls one p3 (by omega), hf1]
    have hX : okD 3 (.lst [svD f1, svD fG, svD fG, .bl true]) := ⟨by show 4 ≤ LIM; omega, fun x hx => by
      simp only [List.mem_cons, List.not_mem_nil, or_false] at hx
      rcases hx with rfl | rfl | rfl | rfl
      · exact okD_sv 1 _
      · exact okD_sv 1 _
      · exact okD_sv 1 _
      · exact True.intro⟩
    refine ⟨.bl false, p3, ?_, rfl, hp3⟩
    rw [evE, e_call (e_cons (e_lst (e_cons (e_var g4) (e_cons (e_var g5) (e_cons eb (e_cons epl e_nil))))) (e_cons (e_lst (e_cons es1 (e_cons es2 (e_cons es2 (e_cons rfl e_nil))))) e_nil)), hsame _ _ hX]
    rfl
  refine okS_ifr ((hcomp _ p hp2 rfl rfl rfl rfl rfl).mono fun d p3 ⟨e, hp3⟩ => ⟨false, e, ?_⟩)
  rw [if_neg Bool.false_ne_true]
  refine okS_set ?_
  rw [e_call (e_cons (e_var (d := .pool) rfl) e_nil)]
  refine (hkey p3 hp3).mono fun kd p4 ⟨hp4, key, ekd, k1, k2⟩ => ?_
  subst ekd
  simp only [List.set_cons_succ, List.set_cons_zero]
  let R100 : List Int := (List.range 100).map fun (k : Nat) => (0 + (k : Int))
  let hel : List Int := R100.filter fun i => (plc i).all f1
  have hR : rng 0 100 = R100.map D.int := by
    show _ = List.map D.int ((List.range 100).map fun (k : Nat) => (0 + (k : Int)))
    rw [List.map_map]; rfl
  have eheld : ∀ ρ p, getV ((wipeR ρ [10]).set 10 (some (.val (.int 0)))) 4 = some (svD f1) → (∀ i : Int, getV ((wipeR ρ [10]).set 10 (some (.val (.int i)))) 10 = some (.int i)) → (∀ i j : Int, getV ((wipeR ((wipeR ρ [10]).set 10 (some (.val (.int i)))) [11]).set 11 (some (.val (.int j)))) 4 = some (svD f1)) → (∀ i j : Int, getV ((wipeR ((wipeR ρ [10]).set 10 (some (.val (.int i)))) [11]).set 11 (some (.val (.int j)))) 11 = some (.int j)) →
      evE cl (.lc [10] (.nm 10) (.r1 (.int (100))) (.some (.cmp .Eq (.bi .len (.lc [11] (.nm 11) (.seq (.call "_law_places" 29 (.cons (.var 10) .nil))) (.some (.cmp .Eq (.ix (.var 4) (.var 11)) (.int (0)))) (.var 11))) (.int (0)))) (.var 10)) ρ p = some (.ok (.lst (hel.map .int)) p) := by
    intro ρ p _ g10 g4 g11
    have ei : evIt cl (.r1 (.int (100))) ρ p = some (.ok (R100.map .int) p) := by
      rw [← hR]
      exact it_len (n := 100) rfl (by omega)
    rw [lc_if (fun x => match x with | .int i => (plc i).all f1 | _ => false) id ei]
    · rw [List.map_id, List.filter_map]
      rfl
    · intro x hx
      obtain ⟨i, hi, rfl⟩ := List.mem_map.mp hx
      have ein : evE cl (.lc [11] (.nm 11) (.seq (.call "_law_places" 29 (.cons (.var 10) .nil))) (.some (.cmp .Eq (.ix (.var 4) (.var 11)) (.int (0)))) (.var 11)) ((wipeR ρ [10]).set 10 (some (.val (.int i)))) p = some (.ok (.lst ((((plc i).map D.int).filter fun x => match x with | .int q => !f1 q | _ => false).map id)) p) := by
        refine lc_if (fun x => match x with | .int q => !f1 q | _ => false) id (it_seq (d := .lst ((plc i).map .int)) (p1 := p) ?_ rfl) (fun y hy => ?_) fun y hy _ => ?_
        · rw [e_call (e_cons (e_var (g10 i)) e_nil), hlp]
        · obtain ⟨q, hq, rfl⟩ := List.mem_map.mp hy
          obtain ⟨n, rfl, hn⟩ := plc_lt hq
          rw [evE, evE, e_var (g4 i n), bnd_k, e_var (g11 i n), bnd_k]
          show bnd (lift (atI ((sv f1).map D.int) (n : Int)) p) _ = _
          rw [sv_at f1 n hn, lift_k, bnd_k, evE, bnd_k]
          simp only [cmpS, eq_int, Option.map_some, lift_k]
          cases f1 (n : Int) <;> rfl
        · obtain ⟨q, hq, rfl⟩ := List.mem_map.mp hy
          exact e_var (g11 i q)
      rw [evE, e_bi ein rfl, bnd_k, evE, bnd_k]
      simp only [cmpS, eq_int, Option.map_some, lift_k]
      refine congrArg (fun z => some (Out.ok (D.bl z) p)) ?_
      rw [List.map_id, List.filter_map, List.length_map, Bool.eq_iff_iff]
      simp only [decide_eq_true_eq, List.all_eq_true]
      constructor
      · intro h q hq
        have h0 : ((plc i).filter ((fun x => match x with | D.int q => !f1 q | _ => false) ∘ D.int)) = [] := List.length_eq_zero_iff.mp (by omega)
        rw [List.filter_eq_nil_iff] at h0
        have := h0 q hq
        simpa using this
      · intro h
        have h0 : ((plc i).filter ((fun x => match x with | D.int q => !f1 q | _ => false) ∘ D.int)) = [] := by
          rw [List.filter_eq_nil_iff]
          intro q hq
          simp [h q hq]
        rw [h0]; rfl
    · intro x hx _
      obtain ⟨i, hi, rfl⟩ := List.mem_map.mp hx
      exact e_var (g10 i)
  refine okS_set ?_
  rw [eheld _ _ rfl (fun _ => rfl) (fun _ _ => rfl) (fun _ _ => rfl), ok_ok]
  simp only [List.set_cons_succ, List.set_cons_zero]
  have hhl : hel.length ≤ 100 := by
    refine Nat.le_trans (List.length_filter_le _ _) ?_
    show ((List.range 100).map _).length ≤ 100
    rw [List.length_map, List.length_range]
    exact Nat.le_refl _
  have hkin : decide (key ∈ hel) = (plc key).all f1 := by
    rw [Bool.eq_iff_iff, decide_eq_true_eq]
    constructor
    · intro h
      exact (List.mem_filter.mp h).2
    · intro h
      refine List.mem_filter.mpr ⟨?_, h⟩
      refine List.mem_map.mpr ⟨key.toNat, List.mem_range.mpr (by omega), by omega⟩
  refine okS_ifr ⟨.bl false, p4, ?_, false, rfl, ?_⟩
  · have h3 : evE cl (.call "held_of" 11 (.cons (.var 4) (.cons (.lit (.r1 (.int (100)))) .nil))) [some (.val (.scr ns)), some (.val .pool), some (.val (.lst (one.map .int))), some (.val (.lst (two.map .int))), some (.val (svD f1)), some (.val (svD fG)), some (.val (.int key)), some (.val (.lst (hel.map .int))), none, none, none, none] p4 = some (.ok (.lst (hel.map .int)) p4) := by
      rw [e_call (e_cons (e_var rfl) (e_cons (d := .lst (R100.map .int)) (p1 := p4) ?_ e_nil)), hho]
      rw [evE, it_len (n := 100) (p := p4) rfl (by omega), bnd_k, hR]
    have h4 : evE cl (.cmp .In (.var 6) (.var 7)) [some (.val (.scr ns)), some (.val .pool), some (.val (.lst (one.map .int))), some (.val (.lst (two.map .int))), some (.val (svD f1)), some (.val (svD fG)), some (.val (.int key)), some (.val (.lst (hel.map .int))), none, none, none, none] p4 = some (.ok (.bl ((plc key).all f1)) p4) := by
      rw [evE, e_var (d := .int key) rfl, bnd_k, e_var (d := .lst (hel.map .int)) rfl, bnd_k]
      simp only [cmpS, in_ints, Option.map_some, lift_k, hkin]
    have h5 : evE cl (.bi .sum (.var 4)) [some (.val (.scr ns)), some (.val .pool), some (.val (.lst (one.map .int))), some (.val (.lst (two.map .int))), some (.val (svD f1)), some (.val (svD fG)), some (.val (.int key)), some (.val (.lst (hel.map .int))), none, none, none, none] p4 = some (.ok (.int (sv f1).sum) p4) := by
      refine e_bi (e_var (d := svD f1) rfl) ?_
      simp only [svD, biS, intL_ints, Option.map_some]
    have hX : okD 3 (.lst [.lst ((plc key).map .int), .bl ((plc key).all f1), .lst (hel.map .int), .int (sv f1).sum]) := ⟨by show 4 ≤ LIM; omega, fun x hx => by
      simp only [List.mem_cons, List.not_mem_nil, or_false] at hx
      rcases hx with rfl | rfl | rfl | rfl
      · exact okD_ints 1 _ (by show 3 ≤ LIM; omega)
      · exact True.intro
      · exact okD_ints 1 _ (by omega)
      · exact True.intro⟩
    rw [evE, e_call (e_cons (e_lst (e_cons (d := .lst ((plc key).map .int)) (p1 := p4) ?_ (e_cons (d := .bl ((plc key).all f1)) (p1 := p4) ?_ (e_cons h3 (e_cons (d := .int (sv f1).sum) (p1 := p4) ?_ e_nil))))) (e_cons (e_lst (e_cons (d := .lst ((plc key).map .int)) (p1 := p4) ?_ (e_cons h4 (e_cons (e_var rfl) (e_cons h5 e_nil))))) e_nil)), hsame _ _ hX]
    · rfl
    · rw [e_call (e_cons (e_var rfl) e_nil), hpl]
    · rw [e_call (e_cons (e_var rfl) (e_cons (e_var rfl) e_nil)), hmh]
    · rw [e_call (e_cons (e_var (d := svD f1) rfl) e_nil)]
      exact hfu _ _
    · rw [e_call (e_cons (e_var rfl) e_nil), hlp]
  rw [if_neg Bool.false_ne_true]
  -- all keys stand in what grew
  refine okS_ifr ⟨.bl false, p4, ?_, false, rfl, ?_⟩
  · have ea : evE cl (.bin .Add (.var 2) (.var 3)) [some (.val (.scr ns)), some (.val .pool), some (.val (.lst (one.map .int))), some (.val (.lst (two.map .int))), some (.val (svD f1)), some (.val (svD fG)), some (.val (.int key)), some (.val (.lst (hel.map .int))), none, none, none, none] p4 = some (.ok (.lst ((one ++ two).map .int)) p4) := by
      rw [evE, e_var (d := .lst (one.map .int)) rfl, bnd_k, e_var (d := .lst (two.map .int)) rfl, bnd_k]
      simp only [binS, List.length_map]
      rw [if_pos (by omega), lift_k, List.map_append]
    have e1 : evE cl (.lc [10] (.nm 10) (.seq (.bin .Add (.var 2) (.var 3))) (.some (.nt (.call "may_hold" 8 (.cons (.var 5) (.cons (.var 10) .nil))))) (.var 10)) [some (.val (.scr ns)), some (.val .pool), some (.val (.lst (one.map .int))), some (.val (.lst (two.map .int))), some (.val (svD f1)), some (.val (svD fG)), some (.val (.int key)), some (.val (.lst (hel.map .int))), none, none, none, none] p4 = some (.ok (.lst ((((one ++ two).map D.int).filter fun _ => false).map id)) p4) := by
      refine lc_if (fun _ => false) id (it_seq ea rfl) (fun x hx => ?_) fun x hx z => by cases z
      obtain ⟨i, hi, rfl⟩ := List.mem_map.mp hx
      rw [evE, e_call (e_cons (e_var rfl) (e_cons (e_var rfl) e_nil)), hmh]
      have : (plc i).all fG = true := by
        rw [List.all_eq_true]
        intro q hq
        subst hfG
        simp only [decide_eq_true_eq]
        unfold allP
        exact List.mem_flatMap.mpr ⟨i, hi, hq⟩
      rw [this]
      rfl
    have e2 : (((one ++ two).map D.int).filter fun _ => false).map id = [] := by simp
    rw [e2] at e1
    rw [evE, e_bi e1 rfl, bnd_k, evE, bnd_k]
    rfl
  rw [if_neg Bool.false_ne_true]
  refine okS_cons ?_
  obtain ⟨dx, p5, eb, hp5, xs, rfl, hx1, hx2⟩ := hbe f1 p4 hp4
  obtain ⟨dy, p6, eo, rfl, ys, rfl, hy1, hy2⟩ := hod p5
  have eit : evIt cl (.seq (.bin .Add (.bin .Add (.lst (.cons (.var 4) (.cons (.var 5) .nil))) (.call "_law_bends" 27 (.cons (.var 1) (.cons (.var 4) .nil)))) (.call "_law_odd_values" 22 .nil))) [some (.val (.scr ns)), some (.val .pool), some (.val (.lst (one.map .int))), some (.val (.lst (two.map .int))), some (.val (svD f1)), some (.val (svD fG)), some (.val (.int key)), some (.val (.lst (hel.map .int))), none, none, none, none] p4 = some (.ok ([svD f1, svD fG] ++ xs ++ ys) p6) := by
    refine it_seq (d := .lst ([svD f1, svD fG] ++ xs ++ ys)) ?_ rfl
    rw [evE, evE, e_lst (e_cons (e_var rfl) (e_cons (e_var rfl) e_nil)), bnd_k, e_call (e_cons (e_var rfl) (e_cons (e_var rfl) e_nil)), eb, bnd_k]
    simp only [binS]
    rw [if_pos (by show 2 + xs.length ≤ LIM; omega), lift_k, bnd_k, e_call e_nil, eo, bnd_k]
    simp only
    rw [if_pos (by rw [List.length_append]; show 2 + xs.length + ys.length ≤ LIM; omega), lift_k]
  have hall : ∀ x ∈ [svD f1, svD fG] ++ xs ++ ys, rOk 201 x := by
    intro x hx
    rcases List.mem_append.mp hx with hx | hx
    · rcases List.mem_append.mp hx with hx | hx
      · simp only [List.mem_cons, List.not_mem_nil, or_false] at hx
        rcases hx with rfl | rfl
        · exact rOk_sv _
        · exact rOk_sv _
      · exact hx2 x hx
    · exact hy2 x hx
  rw [evS, eit, bndS_k]
  refine okS_for (fun j ρ p => p = p6 ∧ ∃ r, ρ = [some (.val (.scr ns)), some (.val .pool), some (.val (.lst (one.map .int))), some (.val (.lst (two.map .int))), some (.val (svD f1)), some (.val (svD fG)), some (.val (.int key)), some (.val (.lst (hel.map .int))), r, none, none, none]) (i := 0) ⟨rfl, none, rfl⟩ ?_ ?_
  · rintro j x ρ p hx ⟨rfl, r, rfl⟩
    have hxk := hall x (List.mem_of_getElem? hx)
    have ec : evE cl (.nt (.call "_law_same" 14 (.cons (.call "fault" 7 (.cons (.var 8) .nil)) (.cons (.call "_law_f_sieve" 31 (.cons (.var 8) .nil)) .nil)))) [some (.val (.scr ns)), some (.val .pool), some (.val (.lst (one.map .int))), some (.val (.lst (two.map .int))), some (.val (svD f1)), some (.val (svD fG)), some (.val (.int key)), some (.val (.lst (hel.map .int))), some (.val x), none, none, none] p = some (.ok (.bl false) p) := by
      rw [evE, e_call (e_cons (d := fD x) (p1 := p) ?_ (e_cons (d := fD x) (p1 := p) ?_ e_nil)), hsame _ _ (okD_fD x)]
      · rfl
      · rw [e_call (e_cons (e_var rfl) e_nil), hfa x p hxk]
      · rw [e_call (e_cons (e_var rfl) e_nil), hfs x p hxk]
    refine ⟨.nx [some (.val (.scr ns)), some (.val .pool), some (.val (.lst (one.map .int))), some (.val (.lst (two.map .int))), some (.val (svD f1)), some (.val (svD fG)), some (.val (.int key)), some (.val (.lst (hel.map .int))), some (.val x), none, none, none] p, ?_, rfl, some (.val x), rfl⟩
    show evSs cl _ [some (.val (.scr ns)), some (.val .pool), some (.val (.lst (one.map .int))), some (.val (.lst (two.map .int))), some (.val (svD f1)), some (.val (svD fG)), some (.val (.int key)), some (.val (.lst (hel.map .int))), some (.val x), none, none, none] p = _
    rw [ss_nx (by rw [s_if ec]; rfl)]
    rfl
  · rintro ρ p ⟨rfl, r, rfl⟩
    refine thn_nx (okS_ret ?_)
    exact ⟨_, _, rfl, rfl⟩
end K69

set_option Elab.async false
set_option linter.all false
set_option maxRecDepth 100000
set_option maxHeartbeats 0
namespace K69
open PySem PySem.Spec PyProof.Rows L2 Ev
abbrev loose0 : List Str := ["FORM", "is_whole", "first_true", "fault_at", "first_of", "mixed", "MANY", "TURNS", "places", "sieve_of", "fault", "may_hold", "with_key", "both", "held_of"]
abbrev loose1 : List Str := ["fullness", "_law_is_integer", "_law_same", "_law_pool", "_law_spread", "_law_draw", "_law_pick", "_law_bent", "_law_booled", "_law_listed", "_law_odd_values", "_law_first", "_law_least", "_law_mixed", "_law_key"]
abbrev loose2 : List Str := ["_law_bends", "_law_swapped", "_law_places", "_law_sieve", "_law_f_sieve"]
abbrev loose : List Str := loose0 ++ loose1 ++ loose2
abbrev RR : PySem.W.OpenRow := PySem.W.OpenLaw.row PySem.Challenge.rw_everystore_k69_whole_sieves
abbrev hk : PySem.W.Hook := hookK 4 g fr R
def ob (s : PySem.W.SharedT) : He.AlD := obsKG 4 g fr R (HandSHeadRun.getT s)
theorem ob_eq (s : PySem.W.SharedT) : ob s = hk.obs s.abs := obsKG_eq (HandSHeadRun.getT_eq s)
theorem run (w : World) : HandSHeadRun.RunEq RR (PySem.W.view RR.prog [38]) hk ob 1200 loose w := by
  intro os
  kernel_rfl
end K69
open PySem PySem.W PySem.Calls PyProof.Rows
theorem PySem.Challenge.cw_everystore_k69_whole_sieves_holds : PySem.Challenge.rw_everystore_k69_whole_sieves.Holds := by
  w_on; o_law
  refine HandSHeadRun.head_any (r := OpenLaw.row PySem.Challenge.rw_everystore_k69_whole_sieves) (q := view (OpenLaw.row PySem.Challenge.rw_everystore_k69_whole_sieves).prog [38]) (H := K69.hk) (ob := K69.ob) (M := 1200) (loose := K69.loose) (d := HandSHeadRun.topDef (OpenLaw.row PySem.Challenge.rw_everystore_k69_whole_sieves).prog 38) (kwd := []) K69.ob_eq
    (by kernel_rfl) (fun s => by kernel_rfl) K69.run (by kernel_rfl) (by kernel_rfl) (by kernel_rfl) (by rfl) (by first | assumption | decide +kernel) (by decide +kernel) ⟨rfl, rfl, rfl, rfl, rfl, by decide +kernel⟩ ?hw ?hc
  case hw => w_witness2
  case hc =>
    refine L2.walk_ofE (l := PySem.Challenge.rw_everystore_k69_whole_sieves) (n := 63) (k := 150) (x := "script") (CX := L2.CX0) rfl (by decide) (by kernel_rfl) ⟨rfl, by decide +kernel, by decide +kernel⟩ ?F (fun _ _ _ _ z => z)
    intro w mg fa h Y G hmg0
    obtain ⟨K, KX, c⟩ := Y
    have hmg : mg ("law" : PySem.Str) = some (.ref fa) := by
      have e : (HandSHeadRun.topDef (OpenLaw.row PySem.Challenge.rw_everystore_k69_whole_sieves).prog 38).name = ("law" : PySem.Str) := by kernel_rfl
      rw [← e]
      exact hmg0
    obtain ⟨fd, hb, hF⟩ := Ev.law_of (Pr := (PySem.Challenge.rw_everystore_k69_whole_sieves).prog) (w := w) (j := 148) (n := 63) (np := 15) (nl := 32) (dp := K69.i__law_pool) (dl := K69.i_law) KX G hmg c K69.A rfl rfl rfl rfl K69.bL (by first | rfl | kernel_rfl) rfl rfl K69.kL K69.says
    exact ⟨K, fd, Ev.spLawK K 63, KX, hb, fun H a ns hl _ hS => ⟨a, ns, rfl, hl, hS, fun _ => rfl⟩, hF⟩
