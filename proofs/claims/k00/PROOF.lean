import PyProof.Rows.All
import Wide.All
import OpenK.AllK
import Wide.FinOn
import HandS.ForMost
import HandS.ForExc
import HandS.Walk
import HandS.Zip
import HandS.Rev
import HandS.Conv
import HandS.Deep
import HandS.SortInts
import HandS.SortKw
import HandS.Set
import HandS.Strs
import HandS.Style
import HandS.TupLe
import HandS.TupAny
import HandS.TupMul
import HandS.Lambda
import HandS.ExcCtx
import HandS.ExcSuper
import HandS.ExcIs
import HandS.ExcField
import HandS.HotCalls
import HandS.CallLocal
import HandS.CallSlots
import HandS.IsInst
import HandS.HeadWalk
import HandS.HeadHook4
import HandS.Head2
import HandS.Wide
import KE.DataEq
import KE.GoesEnum
import PySem.Challenge.RW_fewtellall_k00_whole_webs_and_lots
set_option Elab.async false
set_option linter.all false
set_option maxRecDepth 100000
set_option maxHeartbeats 4000000
set_option linter.all false
/-! P1: plain values D, the small language (E, S), its meaning. No machine here. -/
namespace PI
open PySem L2

/-- plain values -/
inductive D where
  | non | bl (b : Bool) | int (i : Int) | str (s : List Nat)
  | tup (ds : List D) | lst (ds : List D)
  | set (s : List Int) | dic (ks vs : List D)
  | fn (g : Nat) | exc (c : Nat) (x : Option Int) | scr (l : List Int) | lam
  deriving Inhabited

structure Exn where
  c : Nat
  x : Option Int := none

def lim : Nat := 16777216

/-! ### equality, order -/
mutual
def D.eqv : D → D → Bool
  | .non, .non => true
  | .bl a, .bl b => a == b
  | .bl a, .int j => decide ((if a then 1 else 0 : Int) = j)
  | .int i, .bl b => decide (i = (if b then 1 else 0 : Int))
  | .int i, .int j => decide (i = j)
  | .str a, .str b => decide (a = b)
  | .tup a, .tup b => D.eqvs a b
  | .lst a, .lst b => D.eqvs a b
  | _, _ => false
def D.eqvs : List D → List D → Bool
  | [], [] => true
  | a :: as, b :: bs => D.eqv a b && D.eqvs as bs
  | _, _ => false
end
/-- data (no dict, set, function), not deeper than n -/
def D.okd : Nat → D → Bool
  | _, .non => true
  | _, .bl _ => true
  | _, .int _ => true
  | _, .str _ => true
  | n + 1, .tup ds => ds.all (D.okd n)
  | n + 1, .lst ds => ds.all (D.okd n)
  | _, _ => false

def ltN : List Nat → List Nat → Bool
  | [], [] => false
  | [], _ :: _ => true
  | _ :: _, [] => false
  | a :: as, b :: bs => if a = b then ltN as bs else decide (a < b)
def ltI : List Int → List Int → Bool
  | [], [] => false
  | [], _ :: _ => true
  | _ :: _, [] => false
  | a :: as, b :: bs => if a = b then ltI as bs else decide (a < b)
/-- all ints -/
def ints? : List D → Option (List Int)
  | [] => some []
  | .int i :: r => (ints? r).map (i :: ·)
  | _ :: _ => none
def bls? : List D → Option (List Bool)
  | [] => some []
  | .bl b :: r => (bls? r).map (b :: ·)
  | _ :: _ => none
def strs? : List D → Option (List (List Nat))
  | [] => some []
  | .str b :: r => (strs? r).map (b :: ·)
  | _ :: _ => none

/-! ### operations -/
inductive Op where
  | add | sub | mul | fdiv | mod | pow | neg | inv | band | bor | shl | shr
  | eq | ne | lt | le | gt | ge | isin | notin | isn | isnn | isb (b : Bool) | isnb (b : Bool)
  | tup | lst | item | sl (l h : Bool) | rev
  | len | abs | int1 | str1 | sum | max1 | max2 | min1 | min2 | all | any | sorted | set | tuple | list
  | isint | isbool | isstr | istuple | islist | isexc (c : Nat)
  | join | index | count | tru | excx (c : List Nat)
  deriving DecidableEq

def guardO (b : Bool) (d : D) : Option D := if b then some d else none
def cmul (i j : Int) : Bool := (decide (-(2 ^ 64) < i) && decide (i < 2 ^ 64)) || (decide (-(2 ^ 64) < j) && decide (j < 2 ^ 64))
def cpow (i j : Int) : Bool := decide (0 ≤ j) && (decide (j ≤ 1000000) && decide (i.natAbs < 2 ^ 64))

def addD : List D → Option D
  | [.int i, .int j] => some (.int (i + j))
  | [.str a, .str b] => guardO (decide (a.length + b.length ≤ lim)) (.str (a ++ b))
  | [.lst a, .lst b] => guardO (decide (a.length + b.length ≤ lim)) (.lst (a ++ b))
  | [.tup a, .tup b] => guardO (decide (a.length + b.length ≤ lim)) (.tup (a ++ b))
  | _ => none
def subD : List D → Option D
  | [.int i, .int j] => some (.int (i - j))
  | _ => none
def mulD : List D → Option D
  | [.int i, .int j] => guardO (cmul i j) (.int (i * j))
  | [.lst a, .int k] => guardO (decide (-(2 ^ 63) ≤ k) && (decide (k < 2 ^ 63) && decide (a.length * k.toNat ≤ lim))) (.lst (List.replicate k.toNat a).flatten)
  | [.tup a, .int k] => guardO (!a.isEmpty && (decide (2 ≤ k) && (decide (k ≤ 1000) && decide (a.length ≤ 1000)))) (.tup (List.replicate k.toNat a).flatten)
  | _ => none
def fdivD : List D → Option D
  | [.int i, .int j] => guardO (decide (0 < j) && decide (j < 1073741824)) (.int (i / j))
  | _ => none
def modD : List D → Option D
  | [.int i, .int j] => guardO (decide (0 < j)) (.int (i % j))
  | _ => none
def powD : List D → Option D
  | [.int i, .int j] => guardO (cpow i j) (.int (i ^ j.toNat))
  | _ => none
def negD : List D → Option D
  | [.int i] => some (.int (-i))
  | _ => none
def invD : List D → Option D
  | [.int i] => some (.int (-i - 1))
  | _ => none
def bandD : List D → Option D
  | [.int i, .int j] => some (.int (Builtin.bitAnd i j))
  | _ => none
def borD : List D → Option D
  | [.int i, .int j] => some (.int (Builtin.bitOr i j))
  | [.set a, .set b] => some (.set (a ++ b.filter fun i => !a.elem i))
  | _ => none
def shlD : List D → Option D
  | [.int i, .int j] => guardO (cpow i j) (.int (i * 2 ^ j.toNat))
  | _ => none
def shrD : List D → Option D
  | [.int i, .int j] => guardO (decide (0 ≤ j)) (.int (i / 2 ^ j.toNat))
  | _ => none
def eqD : List D → Option D
  | [a, b] => guardO (D.okd 60 a && D.okd 200 b || D.okd 60 b && D.okd 200 a) (.bl (D.eqv a b))
  | _ => none
def neD : List D → Option D
  | [a, b] => guardO (D.okd 60 a && D.okd 200 b || D.okd 60 b && D.okd 200 a) (.bl (!D.eqv a b))
  | _ => none
def ltD : List D → Option D
  | [.int i, .int j] => some (.bl (decide (i < j)))
  | [.str a, .str b] => some (.bl (ltN a b))
  | [.tup a, .tup b] => match ints? a, ints? b with
    | some x, some y => some (.bl (ltI x y))
    | _, _ => none
  | _ => none
def leD : List D → Option D
  | [.int i, .int j] => some (.bl (decide (i ≤ j)))
  | [.str a, .str b] => some (.bl (!ltN b a))
  | _ => none
def gtD : List D → Option D
  | [.int i, .int j] => some (.bl (decide (j < i)))
  | _ => none
def geD : List D → Option D
  | [.int i, .int j] => some (.bl (decide (j ≤ i)))
  | _ => none
def inB : D → D → Option Bool
  | x, .lst ds => if D.okd 60 x && ds.all (D.okd 200) then some (ds.any fun y => D.eqv y x) else none
  | x, .tup ds => if D.okd 60 x && ds.all (D.okd 200) then some (ds.any fun y => D.eqv y x) else none
  | _, _ => none
def inD : List D → Option D
  | [x, c] => (inB x c).map fun b => .bl b
  | _ => none
def notinD : List D → Option D
  | [x, c] => (inB x c).map fun b => .bl (!b)
  | _ => none
def D.isNon : D → Bool
  | .non => true
  | _ => false
def isnD : List D → Option D
  | [d] => some (.bl d.isNon)
  | _ => none
def isnnD : List D → Option D
  | [d] => some (.bl (!d.isNon))
  | _ => none
def isbD (b : Bool) : List D → Option D
  | [.bl c] => some (.bl (c == b))
  | _ => none
def isnbD (b : Bool) : List D → Option D
  | [.bl c] => some (.bl (!(c == b)))
  | _ => none
def itemD : List D → Option D
  | [.lst ds, .int i] => L2.atI ds i
  | [.tup ds, .int i] => L2.atI ds i
  | [.str s, .int i] => if s.length ≤ lim then (L2.atI s i).map fun c => .str [c] else none
  | _ => none
def cut {α : Type} (xs : List α) (lo hi : Option Int) : List α := (xs.drop (HT.sIx xs.length 0 lo)).take (HT.sIx xs.length xs.length hi - HT.sIx xs.length 0 lo)
def slX (x : D) (lo hi : Option Int) : Option D := match x with
  | .lst ds => some (.lst (cut ds lo hi))
  | .tup ds => some (.tup (cut ds lo hi))
  | .str s => guardO (decide (s.length ≤ lim)) (.str (cut s lo hi))
  | _ => none
def slD : Bool → Bool → List D → Option D
  | false, false, [x] => slX x none none
  | true, false, [x, .int l] => slX x (some l) none
  | false, true, [x, .int h] => slX x none (some h)
  | true, true, [x, .int l, .int h] => slX x (some l) (some h)
  | _, _, _ => none
def revD : List D → Option D
  | [.lst ds] => some (.lst ds.reverse)
  | [.tup ds] => some (.tup ds.reverse)
  | _ => none
def lenD : List D → Option D
  | [.lst ds] => some (.int ds.length)
  | [.tup ds] => some (.int ds.length)
  | [.str s] => guardO (decide (s.length ≤ lim)) (.int s.length)
  | _ => none
def absD : List D → Option D
  | [.int i] => some (.int (if i < 0 then -i else i))
  | _ => none
def int1D : List D → Option D
  | [.int i] => some (.int i)
  | [.bl b] => some (.int (if b then 1 else 0))
  | _ => none
def natDigits (n : Nat) : List Nat := (toString n).toList.map Char.toNat
def intDigits (i : Int) : List Nat := (toString i).toList.map Char.toNat
def str1D : List D → Option D
  | [.int i] => guardO (decide (i.natAbs.log2 < 1920)) (.str (intDigits i))
  | [.str s] => some (.str s)
  | _ => none
def sumD : List D → Option D
  | [.lst ds] => (ints? ds).map fun l => .int l.sum
  | _ => none
def maxI : List Int → Option Int
  | [] => none
  | a :: r => some (r.foldl max a)
def minI : List Int → Option Int
  | [] => none
  | a :: r => some (r.foldl min a)
def max1D : List D → Option D
  | [.lst ds] => (ints? ds).bind fun l => (maxI l).map D.int
  | _ => none
def min1D : List D → Option D
  | [.lst ds] => (ints? ds).bind fun l => (minI l).map D.int
  | _ => none
def max2D : List D → Option D
  | [.int i, .int j] => some (.int (if j > i then j else i))
  | _ => none
def min2D : List D → Option D
  | [.int i, .int j] => some (.int (if j < i then j else i))
  | _ => none
def allD : List D → Option D
  | [.lst ds] => (bls? ds).map fun l => .bl (l.all id)
  | _ => none
def anyD : List D → Option D
  | [.lst ds] => (bls? ds).map fun l => .bl (l.any id)
  | _ => none
def insI (a : Int) : List Int → List Int
  | [] => [a]
  | b :: r => if a ≤ b then a :: b :: r else b :: insI a r
def sortI : List Int → List Int
  | [] => []
  | a :: r => insI a (sortI r)
def dedupI : List Int → List Int
  | [] => []
  | a :: r => a :: (dedupI r).filter fun b => !(b == a)
def sortedD : List D → Option D
  | [.lst ds] => (ints? ds).map fun l => .lst ((sortI l).map D.int)
  | [.tup ds] => (ints? ds).map fun l => .lst ((sortI l).map D.int)
  | [.set s] => some (.lst ((sortI s).map D.int))
  | _ => none
def setD : List D → Option D
  | [.lst ds] => (ints? ds).map fun l => .set (dedupI l)
  | [.tup ds] => (ints? ds).map fun l => .set (dedupI l)
  | _ => none
def tupleD : List D → Option D
  | [.lst ds] => some (.tup ds)
  | [.tup ds] => some (.tup ds)
  | _ => none
def listD : List D → Option D
  | [.lst ds] => some (.lst ds)
  | [.tup ds] => some (.lst ds)
  | [.scr l] => some (.lst (l.map D.int))
  | _ => none
/-- the type's number: 0 None, 1 bool, 2 int, 3 str, 4 tuple, 5 list -/
def sort? : D → Option Nat
  | .non => some 0
  | .bl _ => some 1
  | .int _ => some 2
  | .str _ => some 3
  | .tup _ => some 4
  | .lst _ => some 5
  | _ => none
def isiD (k : Nat) : List D → Option D
  | [d] => (sort? d).map fun n => .bl (n == k || (n == 1 && k == 2))
  | _ => none
def joinN (sep : List Nat) : List (List Nat) → List Nat
  | [] => []
  | [a] => a
  | a :: b :: r => a ++ sep ++ joinN sep (b :: r)
def joinD : List D → Option D
  | [.str sep, .lst ds] => (strs? ds).bind fun l => guardO (decide ((joinN sep l).length ≤ 16000000) && decide (sep.length ≤ 1000)) (.str (joinN sep l))
  | [.str sep, .tup ds] => (strs? ds).bind fun l => guardO (decide ((joinN sep l).length ≤ 16000000) && decide (sep.length ≤ 1000)) (.str (joinN sep l))
  | _ => none
def findD (x : D) : List D → Option Nat
  | [] => none
  | y :: r => if D.eqv y x then some 0 else (findD x r).map (· + 1)
def indexD : List D → Option D
  | [.lst ds, x] => if D.okd 60 x && ds.all (D.okd 200) then (findD x ds).map fun n => .int n else none
  | [.tup ds, x] => if D.okd 60 x && ds.all (D.okd 200) then (findD x ds).map fun n => .int n else none
  | _ => none
def countD : List D → Option D
  | [.lst ds, x] => if D.okd 60 x && ds.all (D.okd 200) then some (.int (ds.filter fun y => D.eqv y x).length) else none
  | [.tup ds, x] => if D.okd 60 x && ds.all (D.okd 200) then some (.int (ds.filter fun y => D.eqv y x).length) else none
  | _ => none
def truB : D → Option Bool
  | .non => some false
  | .bl b => some b
  | .int i => some (decide (i ≠ 0))
  | .lst ds => some (!ds.isEmpty)
  | .tup ds => some (!ds.isEmpty)
  | _ => none
def truD : List D → Option D
  | [d] => (truB d).map .bl
  | _ => none
/-- the class tree is flat: TellError (0) over all others; cs: the classes that the asked one covers -/
def isexcD (c : Nat) : List D → Option D
  | [.exc e _] => some (.bl (c == 0 || e == c))
  | _ => none
def excxD : List D → Option D
  | [.exc _ (some x)] => some (.int x)
  | _ => none

def opD : Op → List D → Option D
  | .add => addD | .sub => subD | .mul => mulD | .fdiv => fdivD | .mod => modD | .pow => powD | .neg => negD | .inv => invD
  | .band => bandD | .bor => borD | .shl => shlD | .shr => shrD
  | .eq => eqD | .ne => neD | .lt => ltD | .le => leD | .gt => gtD | .ge => geD | .isin => inD | .notin => notinD
  | .isn => isnD | .isnn => isnnD | .isb b => isbD b | .isnb b => isnbD b
  | .tup => fun ds => guardO (decide (ds.length ≤ lim)) (.tup ds) | .lst => fun ds => guardO (decide (ds.length ≤ lim)) (.lst ds)
  | .item => itemD | .sl l h => slD l h | .rev => revD
  | .len => lenD | .abs => absD | .int1 => int1D | .str1 => str1D | .sum => sumD | .max1 => max1D | .max2 => max2D | .min1 => min1D | .min2 => min2D
  | .all => allD | .any => anyD | .sorted => sortedD | .set => setD | .tuple => tupleD | .list => listD
  | .isint => isiD 2 | .isbool => isiD 1 | .isstr => isiD 3 | .istuple => isiD 4 | .islist => isiD 5 | .isexc c => isexcD c
  | .join => joinD | .index => indexD | .count => countD | .tru => truD | .excx _ => excxD

/-! ### slots -/
inductive Slot where
  | no | fz (d : D) | own (d : D) | ino (d : D) | lent (b : Bool) (d : D)
  deriving Inhabited
abbrev Sl := List Slot
def Slot.mine : Slot → Bool
  | .own _ => true
  | .lent true _ => true
  | _ => false
def getS (s : Sl) (i : Nat) : Slot := s.getD i .no
def Slot.val : Slot → Option D
  | .no => none
  | .fz d => some d
  | .own d => some d
  | .ino d => some d
  | .lent _ d => some d
def Slot.loose : Slot → Bool
  | .no => true
  | .fz _ => true
  | _ => false
/-- may be stored to -/
def Slot.open : Slot → Bool
  | .ino _ => false
  | .lent _ _ => false
  | _ => true

inductive Res (α : Type) where
  | ok (a : α) (s : Sl) | err (x : Exn) (s : Sl) | bad
def Res.bind {α β : Type} (r : Res α) (f : α → Sl → Res β) : Res β := match r with
  | .ok a s => f a s
  | .err x s => .err x s
  | .bad => .bad
inductive TR where
  | ok (d : D) | err (x : Exn) | bad
inductive FRes where
  | ok (d : D) (outs : List D) | err (x : Exn) (outs : List D) | bad
inductive SR where
  | nx (s : Sl) | rt (d : D) (s : Sl) | ct (s : Sl) | er (x : Exn) (s : Sl) | bad

/-! ### the language -/
inductive Tg where
  | n (i : Nat) | t (l : List Tg)
mutual
inductive E where
  | k (d : D) | v (i : Nat) | op (o : Op) (a : As) | bop (isAnd : Bool) (l : Es) | nt (a : E) | ite (c a b : E)
  | chain (o p : Op) (a b c : E) | call (g : Nat) (a : As) | callv (i : Nat) (a : As) | lamc (g : Nat) (a : E) | thunk
  | comp (tg : Tg) (it : It) (cs : Es) (el : E) | fn (g : Nat) | conv (t : Bool) (it : It)
inductive Es where
  | nil | cons (a : E) (r : Es)
inductive Ar where
  | e (a : E) | b (i : Nat)
inductive As where
  | nil | cons (a : Ar) (r : As)
inductive It where
  | e (a : E) | b (i : Nat) | s (a : E) | range (a : As) | enum (a : It) | zip (a b : It) | rev (a : It)
end
mutual
inductive S where
  | asg (i : Nat) (own : Bool) (e : E) | par (is : List (Nat × Bool)) (a : As) | tup (tg : Tg) (e : E)
  | sub (i : Nat) (k e : E) | app (i : Nat) (e : E) | ex (e : E) | ret (e : E) | retN | ite (c : E) (a b : Ss)
  | for (tg : Tg) (it : It) (b : Ss) | while (n : Nat) (c : E) (b : Ss) | raise (c : Nat) (x : Option E) | pass | cont
  | tryE (b : Ss) (cs : Nat) (i : Option Nat) (h : Ss)
inductive Ss where
  | nil | cons (a : S) (r : Ss)
end

/-- what the running function leans on: the defs, the lambda's worth -/
structure Cn where
  call : Nat → List D → FRes
  lam : Nat → TR → FRes
  th : TR := .bad
  noio : Nat → Nat → Bool := fun _ _ => true
  nx : Nat := 0
  /-- how deep the defs may call -/
  lv : Nat := 0

/-! ### meaning -/
mutual
def Tg.slots : Tg → List Nat
  | .n i => [i]
  | .t l => Tg.slotss l
def Tg.slotss : List Tg → List Nat
  | [] => []
  | a :: r => Tg.slots a ++ Tg.slotss r
end
mutual
/-- a value is put into a target -/
def Tg.put : Tg → D → Sl → Option Sl
  | .n i, d, s => if (getS s i).open && decide (i < s.length) then some (s.set i (.fz d)) else none
  | .t l, .tup ds, s => Tg.puts l ds s
  | .t _, _, _ => none
def Tg.puts : List Tg → List D → Sl → Option Sl
  | [], [], s => some s
  | a :: r, d :: ds, s => (Tg.put a d s).bind fun s => Tg.puts r ds s
  | _, _, _ => none
end
def wipeS (s : Sl) : List Nat → Sl
  | [] => s
  | i :: r => (wipeS s r).set i .no
def wipeR {α : Type} (is : List Nat) (s : Sl) (a : α) : Res α := if is.all (fun i => (getS s i).loose) then .ok a (wipeS s is) else .bad
/-- the slots at is as they were in s₀ -/
def backS (s₀ s : Sl) : List Nat → Sl
  | [] => s
  | i :: r => (backS s₀ s r).set i (getS s₀ i)
def iterD : D → Option (List D)
  | .lst ds => some ds
  | .tup ds => some ds
  | _ => none
def iterS : D → Option (List D)
  | .str s => some (s.map fun c => .str [c])
  | _ => none
def rangeL (lo : Int) (n : Nat) : List D := (List.range n).map fun (i : Nat) => .int (lo + i)
def inR (i : Int) : Bool := decide (-(2 ^ 62) ≤ i) && decide (i < 2 ^ 62)
def rangeD : List D → Option (List D)
  | [.int j] => if inR j then some (rangeL 0 j.toNat) else none
  | [.int i, .int j] => if inR i && inR j then some (rangeL i (j - i).toNat) else none
  | _ => none
def enumL (n : Nat) : List D → List D
  | [] => []
  | d :: r => .tup [.int n, d] :: enumL (n + 1) r
def zipL : List D → List D → List D
  | a :: as, b :: bs => .tup [a, b] :: zipL as bs
  | _, _ => []
def lend (s : Sl) (i : Nat) : Option (D × Sl) := match getS s i with
  | .fz d => some (d, s)
  | .own d => some (d, s.set i (.lent true d))
  | .ino d => some (d, s.set i (.lent false d))
  | .lent _ d => some (d, s)
  | .no => none
/-- behind the walk: what it was in s₀ -/
def It.lends : It → List Nat
  | .e _ => []
  | .s _ => []
  | .b i => [i]
  | .range _ => []
  | .enum x => x.lends
  | .zip x y => x.lends ++ y.lends
  | .rev x => x.lends
def unlend1 (s₀ s₁ s : Sl) (i : Nat) : Sl := match getS s₀ i, getS s₁ i, getS s i with
  | .own _, .lent true _, .lent true d => s.set i (.own d)
  | .ino _, .lent false _, .lent false d => s.set i (.ino d)
  | _, _, _ => s
def unlend (s₀ s₁ s : Sl) : List Nat → Sl
  | [] => s
  | i :: r => unlend1 s₀ s₁ (unlend s₀ s₁ s r) i
def loopC (f : D → Sl → Res (Option D)) : List D → Sl → List D → Res D
  | [], s, acc => .ok (.lst acc.reverse) s
  | d :: r, s, acc => match f d s with
    | .ok none s => loopC f r s acc
    | .ok (some y) s => if acc.length < lim then loopC f r s (y :: acc) else .bad
    | _ => .bad
def loopF (f : D → Sl → SR) : List D → Sl → SR
  | [], s => .nx s
  | d :: r, s => match f d s with
    | .nx s => loopF f r s
    | .ct s => loopF f r s
    | x => x
def loopW (c : Sl → Res D) (f : Sl → SR) : Nat → Sl → SR
  | 0, _ => .bad
  | n + 1, s => match c s with
    | .ok (.bl true) s => (match f s with
      | .nx s => loopW c f n s
      | .ct s => loopW c f n s
      | x => x)
    | .ok (.bl false) s => .nx s
    | .err x s => .er x s
    | _ => .bad
def ofO {α : Type} (o : Option α) (s : Sl) : Res α := match o with
  | some a => .ok a s
  | none => .bad
/-- the slots that a call's borrowed arguments name may be changed by it -/
def As.bs : As → List Nat
  | .nil => []
  | .cons (.e _) r => r.bs
  | .cons (.b i) r => i :: r.bs
def As.mask : As → List Bool
  | .nil => []
  | .cons (.e _) r => false :: r.mask
  | .cons (.b _) r => true :: r.mask
def nodupB : List Nat → Bool
  | [] => true
  | a :: r => !r.elem a && nodupB r
def Slot.mut : Slot → Bool
  | .own _ => true
  | .ino _ => true
  | _ => false
def Slot.isLam : Slot → Bool
  | .fz .lam => true
  | _ => false
/-- a list that may be written -/
def Slot.ml : Slot → Bool
  | .own (.lst _) => true
  | .ino (.lst _) => true
  | _ => false
def Slot.withD (x : Slot) (d : D) : Slot := match x with
  | .own _ => .own d
  | .ino _ => .ino d
  | x => x
def putOuts : List Nat → List D → Sl → Sl
  | i :: is, d :: ds, s => putOuts is ds (s.set i ((getS s i).withD d))
  | _, _, s => s
def finC (is : List Nat) (r : FRes) (s : Sl) : Res D := match r with
  | .ok d outs => .ok d (putOuts is outs s)
  | .err x outs => .err x (putOuts is outs s)
  | .bad => .bad
/-- a lambda's body looks on, and changes nothing -/
def lockS (s : Sl) : Sl := s.map fun
  | .own d => .lent true d
  | .ino d => .lent false d
  | x => x
def vS (s : Sl) (i : Nat) : Res D := match getS s i with
  | .fz d => .ok d s
  | .own d => .ok d (s.set i (.fz d))
  | _ => .bad
mutual
def evalE (c : Cn) : E → Sl → Res D
  | .k d, s => .ok d s
  | .v i, s => vS s i
  | .op o a, s => (evalAs c a s).bind fun ds s => ofO (opD o ds) s
  | .bop b l, s => evalB c b l s
  | .nt a, s => (evalE c a s).bind fun d s => match d with
    | .bl b => .ok (.bl (!b)) s
    | _ => .bad
  | .ite q a b, s => (evalE c q s).bind fun d s => match d with
    | .bl true => evalE c a s
    | .bl false => evalE c b s
    | _ => .bad
  | .chain o p x y z, s => (evalE c x s).bind fun dx s => (evalE c y s).bind fun dy s => match opD o [dx, dy] with
    | some (.bl true) => (evalE c z s).bind fun dz s => ofO (opD p [dy, dz]) s
    | some (.bl false) => .ok (.bl false) s
    | _ => .bad
  | .call g a, s => (evalAs c a s).bind fun ds s => if (a.bs.all fun i => (getS s i).mut) && nodupB a.bs then finC a.bs (c.call g ds) s else .bad
  | .callv i a, s => match getS s i with
    | .fz (.fn g) => if c.noio g a.mask.length && a.bs.isEmpty then (evalAs c a s).bind fun ds s => finC [] (c.call g ds) s else .bad
    | _ => .bad
  | .lamc g a, s => match c.lam g (match evalE c a (lockS s) with
    | .ok d _ => .ok d
    | .err x _ => .err x
    | .bad => .bad) with
    | .ok d _ => .ok d s
    | _ => .bad
  | .thunk, s => if s.all (fun x => !x.mine) && (getS s 0).isLam then (match c.th with
    | .ok d => .ok d s
    | .err x => .err x s
    | .bad => .bad) else .bad
  | .comp tg it cs el, s => (evalIt c it s).bind fun ds s1 =>
    if tg.slots.all fun i => (getS s1 i).loose then
      (loopC (fun d s => match tg.put d s with
        | some s => (evalCs c cs s).bind fun b s => if b then (evalE c el s).bind fun y s => wipeR tg.slots s (some y) else wipeR tg.slots s none
        | none => .bad) ds (wipeS s1 tg.slots) []).bind fun d s2 => .ok d (unlend s s1 (backS s1 s2 tg.slots) it.lends)
    else .bad
  | .fn g, s => .ok (.fn g) s
  | .conv t it, s => (evalIt c it s).bind fun ds s1 => if ds.length ≤ lim then .ok (if t then .tup ds else .lst ds) (unlend s s1 s1 it.lends) else .bad
def evalB (c : Cn) (isAnd : Bool) : Es → Sl → Res D
  | .nil, s => .bad
  | .cons a .nil, s => evalE c a s
  | .cons a r, s => (evalE c a s).bind fun d s => match d with
    | .bl b => if b == isAnd then evalB c isAnd r s else .ok (.bl b) s
    | _ => .bad
def evalCs (c : Cn) : Es → Sl → Res Bool
  | .nil, s => .ok true s
  | .cons a r, s => (evalE c a s).bind fun d s => match d with
    | .bl true => evalCs c r s
    | .bl false => .ok false s
    | _ => .bad
def evalAs (c : Cn) : As → Sl → Res (List D)
  | .nil, s => .ok [] s
  | .cons (.e a) r, s => (evalE c a s).bind fun d s => (evalAs c r s).bind fun ds s => .ok (d :: ds) s
  | .cons (.b i) r, s => if (getS s i).val.isSome then (evalAs c r s).bind fun ds s => ofO ((getS s i).val.map (· :: ds)) s else .bad
def evalIt (c : Cn) : It → Sl → Res (List D)
  | .e a, s => (evalE c a s).bind fun d s => ofO (iterD d) s
  | .b i, s => match lend s i with
    | some (d, s) => ofO (iterD d) s
    | none => .bad
  | .s a, s => (evalE c a s).bind fun d s => ofO (iterS d) s
  | .range a, s => (evalAs c a s).bind fun ds s => ofO (rangeD ds) s
  | .enum a, s => (evalIt c a s).bind fun ds s => .ok (enumL 0 ds) s
  | .zip a b, s => (evalIt c a s).bind fun xs s => (evalIt c b s).bind fun ys s => .ok (zipL xs ys) s
  | .rev a, s => (evalIt c a s).bind fun ds s => .ok ds.reverse s
end
def storeS (s : Sl) (i : Nat) (x : Slot) : SR := if (getS s i).open && decide (i < s.length) then .nx (s.set i x) else .bad
def parS : List (Nat × Bool) → List D → Sl → SR
  | [], [], s => .nx s
  | (i, o) :: r, d :: ds, s => match storeS s i (if o then .own d else .fz d) with
    | .nx s => parS r ds s
    | x => x
  | _, _, _ => .bad
def SR.bind (r : SR) (f : Sl → SR) : SR := match r with
  | .nx s => f s
  | x => x
def Res.toS {α : Type} (r : Res α) (f : α → Sl → SR) : SR := match r with
  | .ok a s => f a s
  | .err x s => .er x s
  | .bad => .bad
def setL (ds : List D) (i : Int) (d : D) : Option (List D) := (L2.ixN ds.length i).map fun j => ds.set j d
mutual
/-- no exception within -/
def D.noex : D → Bool
  | .tup ds => D.noexs ds
  | .lst ds => D.noexs ds
  | .exc _ _ => false
  | .dic ks vs => D.noexs ks && D.noexs vs
  | _ => true
def D.noexs : List D → Bool
  | [] => true
  | d :: r => D.noex d && D.noexs r
end
def Slot.noex : Slot → Bool
  | .no => true
  | .fz d => d.noex
  | .own d => d.noex
  | .ino d => d.noex
  | .lent _ d => d.noex
mutual
/-- no lambda within -/
def D.nolam : D → Bool
  | .tup ds => D.nolams ds
  | .lst ds => D.nolams ds
  | .lam => false
  | .dic ks vs => D.nolams ks && D.nolams vs
  | _ => true
def D.nolams : List D → Bool
  | [] => true
  | d :: r => D.nolam d && D.nolams r
end
/-- behind an except suite: its name is gone -/
def outX (i : Nat) : SR → SR
  | .nx s => if (getS s i).loose && (s.set i .no).all Slot.noex then .nx (s.set i .no) else .bad
  | .ct s => if (getS s i).loose && (s.set i .no).all Slot.noex then .ct (s.set i .no) else .bad
  | .rt d s => if (getS s i).loose && ((s.set i .no).all Slot.noex && d.noex) then .rt d (s.set i .no) else .bad
  | _ => .bad
mutual
def exec (c : Cn) : S → Sl → SR
  | .asg i o e, s => (evalE c e s).toS fun d s => storeS s i (if o then .own d else .fz d)
  | .par is a, s => (evalAs c a s).toS fun ds s => parS is ds s
  | .tup tg e, s => (evalE c e s).toS fun d s => match tg.put d s with
    | some s => .nx s
    | none => .bad
  | .sub i k e, s => (evalE c e s).toS fun d s => if (getS s i).val.isSome then (evalE c k s).toS fun j s => match getS s i, j with
    | .own (.lst ds), .int j => (match setL ds j d with
      | some ds => .nx (s.set i (.own (.lst ds)))
      | none => .bad)
    | .ino (.lst ds), .int j => (match setL ds j d with
      | some ds => .nx (s.set i (.ino (.lst ds)))
      | none => .bad)
    | _, _ => .bad
    else .bad
  | .app i e, s => if (getS s i).ml then (evalE c e s).toS fun d s => match getS s i with
    | .own (.lst ds) => if ds.length < lim then .nx (s.set i (.own (.lst (ds ++ [d])))) else .bad
    | .ino (.lst ds) => if ds.length < lim then .nx (s.set i (.ino (.lst (ds ++ [d])))) else .bad
    | _ => .bad
    else .bad
  | .ex e, s => (evalE c e s).toS fun _ s => .nx s
  | .ret e, s => (evalE c e s).toS fun d s => .rt d s
  | .retN, s => .rt .non s
  | .ite q a b, s => (evalE c q s).toS fun d s => match d with
    | .bl true => execs c a s
    | .bl false => execs c b s
    | _ => .bad
  | .for tg it b, s => (evalIt c it s).toS fun ds s1 => (loopF (fun d s => match tg.put d s with
      | some s => execs c b s
      | none => .bad) ds s1).bind fun s2 => .nx (unlend s s1 s2 it.lends)
  | .while n q b, s => loopW (fun s => evalE c q s) (fun s => execs c b s) n s
  | .raise k none, s => .er ⟨k, none⟩ s
  | .raise k (some e), s => (evalE c e s).toS fun d s => match d with
    | .int i => .er ⟨k, some i⟩ s
    | _ => .bad
  | .pass, s => .nx s
  | .cont, s => .ct s
  | .tryE b k i h, s => match execs c b s with
    | .er x s => if decide (x.c < c.nx) && decide (k < c.nx) then (if k == 0 || x.c == k then (match i with
        | none => execs c h s
        | some i => (storeS s i (.fz (.exc x.c x.x))).bind fun s => outX i (execs c h s)) else .er x s) else .bad
    | x => x
def execs (c : Cn) : Ss → Sl → SR
  | .nil, s => .nx s
  | .cons a r, s => (exec c a s).bind fun s => execs c r s
end
/-- one def -/
structure Fn where
  io : List Bool
  n : Nat
  code : Ss
  lam : Bool := false
  fr : Bool := false
def argS : Bool → D → Slot
  | true, d => .ino d
  | false, d => .fz d
def outS : List Bool → Sl → Option (List D)
  | [], _ => some []
  | false :: r, _ :: s => outS r s
  | true :: r, .ino d :: s => (outS r s).map (d :: ·)
  | _, _ => none
def startS (f : Fn) (ds : List D) : Sl := List.zipWith argS f.io ds ++ List.replicate (f.n - ds.length) .no
def endS (io : List Bool) (fr : Bool) (r : SR) : FRes := match r with
  | .nx s => if fr then .bad else (match outS io s with | some o => .ok .non o | none => .bad)
  | .rt d s => (match outS io s with | some o => .ok d o | none => .bad)
  | .er x s => (match outS io s with | some o => .err x o | none => .bad)
  | _ => .bad
def runFn (c : Cn) (f : Fn) (ds : List D) : FRes := if decide (ds.length = f.io.length) && decide (f.io.length ≤ f.n) then endS f.io f.fr (execs c f.code (startS f ds)) else .bad
structure Prog where
  fs : List Fn
  nx : Nat
def noioF (P : Prog) (g n : Nat) : Bool := match P.fs[g]? with
  | some f => !f.lam && f.io.all (! ·) && decide (f.io.length = n)
  | none => false
mutual
/-- calls n deep -/
def Φ (P : Prog) : Nat → Nat → List D → FRes
  | 0, _, _ => .bad
  | n + 1, g, ds => match P.fs[g]? with
    | some f => if f.lam then .bad else runFn ⟨Φ P n, Ψ P n, .bad, noioF P, P.nx, 3 * n⟩ f ds
    | none => .bad
/-- .. of a def that gets a lambda -/
def Ψ (P : Prog) : Nat → Nat → TR → FRes
  | 0, _, _ => .bad
  | n + 1, g, t => match P.fs[g]? with
    | some f => if f.lam && decide (0 < f.n) then (match execs ⟨fun _ _ => .bad, fun _ _ => .bad, t, fun _ _ => false, P.nx, 3 * n⟩ f.code ((List.replicate f.n .no).set 0 (.fz .lam)) with
      | .rt d _ => if d.nolam then .ok d [] else .bad
      | _ => .bad) else .bad
    | none => .bad
end
end PI

set_option linter.all false
set_option maxRecDepth 100000
set_option maxHeartbeats 1000000
/-! P2: how plain values lie in the machine's heap. -/
namespace PI
open PySem PySem.Spec PyProof.Rows L2

/-- what stays the same through a run -/
structure Gm where
  K : PySem.W.Frag
  ad : Nat → Addr
  ec : Nat → Addr
  T : List (Addr × Str)
  fld : Nat → Str
  /-- the exception that is handled: where, its class, its dict -/
  xc : Option (Addr × Nat × Option Addr) := none
  /-- the lambda that this def got, and its code object -/
  lam : Option Addr := none
  cd : Option (Addr × Str) := none
def Tabz (G : Gm) (H : Hp) : Prop := LamX.Tabs G.T H ∧ ∀ p, G.cd = some p → H p.1 = some (LamX.CodeO p.1 p.2)
theorem Tabz.ext {G : Gm} {H H' : Hp} (t : Tabz G H) (e : ∀ b o, H b = some o → H' b = some o) : Tabz G H' := ⟨t.1.ext e, fun p hp => e _ _ (t.2 p hp)⟩

abbrev NT (o : HO) : Prop := ∀ ps, o ≠ .tbl ps
def KL (K : PySem.W.Frag) (a : Addr) (xs : List V) : Prop :=
  ∃ (o : Obj) (its : Array Value) (n : Nat), K.lookup a = some o ∧ o.cls = .type "list" ∧ o.dict = none ∧ o.data = .seq its n ∧ its.size ≤ sizeLine ∧ Vals xs its.toList
def KT (K : PySem.W.Frag) (a : Addr) (xs : List V) : Prop :=
  ∃ (o : Obj) (its : Array Value) (n : Nat), K.lookup a = some o ∧ o.cls = .type "tuple" ∧ o.data = .seq its n ∧ its.size ≤ sizeLine ∧ Vals xs its.toList
def LsM (K : PySem.W.Frag) (H : Hp) (M : Addr → Prop) (a : Addr) (xs : List V) : Prop := (Rd H a (.lst xs) ∧ ¬ M a) ∨ KL K a xs
def TpM (K : PySem.W.Frag) (H : Hp) (M : Addr → Prop) (a : Addr) (xs : List V) : Prop := (Rd H a (.tup xs) ∧ ¬ M a) ∨ KT K a xs
theorem LsM.sq {K H M a xs} (h : LsM K H M a xs) : SqL K H a xs := h.imp (fun z => z.1) id
theorem TpM.sq {K H M a xs} (h : TpM K H M a xs) : SqT K H a xs := h.imp (fun z => z.1) id

mutual
/-- the value v stands for d; what is in M is out of its reach -/
def Rep (G : Gm) (H : Hp) (M : Addr → Prop) : D → V → Prop
  | .non, v => v = .non
  | .bl b, v => v = .bl b
  | .int i, v => v = .int i
  | .str s, v => v = .str ⟨s.toArray⟩
  | .tup ds, v => ∃ a vs, v = .ref a ∧ TpM G.K H M a vs ∧ Reps G H M ds vs
  | .lst ds, v => ∃ a vs, v = .ref a ∧ (H a = some (.lst vs) ∧ ¬ M a) ∧ Reps G H M ds vs
  | .scr l, v => ∃ a, v = .ref a ∧ LsM G.K H M a (l.map V.int)
  | .set s, v => ∃ a S, v = .ref a ∧ H a = some (.set S s.length) ∧ ¬ M a ∧ (∀ i, S i = s.elem i) ∧ s.Nodup
  | .dic _ _, _ => False
  | .fn g, v => v = .ref (G.ad g)
  | .lam, v => ∃ f, G.lam = some f ∧ v = .ref f
  | .exc c x, v => ∃ a dd, v = .ref a ∧ G.xc = some (a, c, dd) ∧ (x = none → dd = none) ∧ ∀ i, x = some i → ∃ q fs, dd = some q ∧ H q = some (.xd fs) ∧ ¬ M q ∧ fs.lookup (G.fld c) = some (.int i)
def Reps (G : Gm) (H : Hp) (M : Addr → Prop) : List D → List V → Prop
  | [], vs => vs = []
  | d :: ds, vs => ∃ v r, vs = v :: r ∧ Rep G H M d v ∧ Reps G H M ds r
end

section
variable {G : Gm} {H H' : Hp} {M M' : Addr → Prop}
theorem Rd.keep {a : Addr} {u : HO} (hu : NT u) (h : Rd H a u) (hk : ∀ o, H a = some o → NT o → H' a = some o) : Rd H' a u := by
  rcases h with h | ⟨o, h⟩
  · exact .inl (hk _ h hu)
  · exact .inr ⟨o, hk _ h fun ps z => by cases z⟩
theorem Rd.some {a : Addr} {u : HO} (h : Rd H a u) : H a ≠ none := by
  rcases h with h | ⟨o, h⟩ <;> rw [h] <;> simp
mutual
theorem Rep.mono (hk : ∀ a o, H a = some o → ¬ M a → NT o → H' a = some o) (hm : ∀ a, M' a → M a ∨ H a = none) : ∀ (d : D) (v : V), Rep G H M d v → Rep G H' M' d v
  | .non, v, h => h
  | .bl b, v, h => h
  | .int i, v, h => h
  | .str s, v, h => h
  | .tup ds, v, h => by
    obtain ⟨a, vs, e, q, r⟩ := h
    refine ⟨a, vs, e, q.imp (fun z => ⟨Rd.keep (fun ps z => by cases z) z.1 (fun o e n => hk a o e z.2 n), fun m => ?_⟩) id, Reps.mono hk hm ds vs r⟩
    rcases hm a m with m | m
    · exact z.2 m
    · exact Rd.some z.1 m
  | .lst ds, v, h => by
    obtain ⟨a, vs, e, q, r⟩ := h
    refine ⟨a, vs, e, ⟨hk a _ q.1 q.2 (fun ps z => by cases z), fun m => ?_⟩, Reps.mono hk hm ds vs r⟩
    rcases hm a m with m | m
    · exact q.2 m
    · rw [q.1] at m; cases m
  | .scr l, v, h => by
    obtain ⟨a, e, q⟩ := h
    refine ⟨a, e, q.imp (fun z => ⟨Rd.keep (fun ps z => by cases z) z.1 (fun o e n => hk a o e z.2 n), fun m => ?_⟩) id⟩
    rcases hm a m with m | m
    · exact z.2 m
    · exact Rd.some z.1 m
  | .set s, v, h => by
    obtain ⟨a, S, e, h1, h2, h3⟩ := h
    refine ⟨a, S, e, hk a _ h1 h2 (fun ps z => by cases z), fun m => ?_, h3⟩
    rcases hm a m with m | m
    · exact h2 m
    · rw [h1] at m; cases m
  | .dic _ _, _, h => h
  | .fn g, v, h => h
  | .lam, v, h => h
  | .exc c x, v, h => by
    obtain ⟨a, dd, e, h1, h0, h2⟩ := h
    refine ⟨a, dd, e, h1, h0, fun i hi => ?_⟩
    obtain ⟨q, fs, h3, h4, h5, h6⟩ := h2 i hi
    refine ⟨q, fs, h3, hk q _ h4 h5 (fun ps z => by cases z), fun m => ?_, h6⟩
    rcases hm q m with m | m
    · exact h5 m
    · rw [h4] at m; cases m
theorem Reps.mono (hk : ∀ a o, H a = some o → ¬ M a → NT o → H' a = some o) (hm : ∀ a, M' a → M a ∨ H a = none) : ∀ (ds : List D) (vs : List V), Reps G H M ds vs → Reps G H' M' ds vs
  | [], vs, h => h
  | d :: ds, vs, h => by
    obtain ⟨v, r, e, h1, h2⟩ := h
    exact ⟨v, r, e, Rep.mono hk hm d v h1, Reps.mono hk hm ds r h2⟩
end
theorem Reps.len : ∀ {ds : List D} {vs : List V}, Reps G H M ds vs → ds.length = vs.length
  | [], _, h => by have h : _ = [] := h; subst h; rfl
  | d :: ds, _, h => by
    obtain ⟨v, r, e, _, h2⟩ := h
    subst e
    rw [List.length_cons, List.length_cons, Reps.len h2]
theorem Reps.nil : Reps G H M [] [] := rfl
theorem Reps.cons {d v ds vs} (h : Rep G H M d v) (t : Reps G H M ds vs) : Reps G H M (d :: ds) (v :: vs) := ⟨v, vs, rfl, h, t⟩
theorem Reps.app : ∀ {ds : List D} {vs : List V} {es : List D} {us : List V}, Reps G H M ds vs → Reps G H M es us → Reps G H M (ds ++ es) (vs ++ us)
  | [], _, es, us, h, t => by have h : _ = [] := h; subst h; exact t
  | d :: ds, _, es, us, h, t => by
    obtain ⟨v, r, e, h1, h2⟩ := h
    subst e
    exact Reps.cons h1 (Reps.app h2 t)
theorem Reps.one {d v} (h : Rep G H M d v) : Reps G H M [d] [v] := Reps.cons h rfl
theorem Reps.get : ∀ {ds : List D} {vs : List V} {i : Nat} {d : D}, Reps G H M ds vs → ds[i]? = some d → ∃ v, vs[i]? = some v ∧ Rep G H M d v
  | [], _, _, _, _, e => by simp at e
  | d :: ds, _, 0, x, h, e => by
    obtain ⟨v, r, e1, h1, h2⟩ := h
    subst e1
    simp at e; subst e
    exact ⟨v, rfl, h1⟩
  | d :: ds, _, i + 1, x, h, e => by
    obtain ⟨v, r, e1, h1, h2⟩ := h
    subst e1
    obtain ⟨w, q1, q2⟩ := Reps.get (i := i) h2 (by simpa using e)
    exact ⟨w, by simpa using q1, q2⟩
theorem Reps.get' {ds : List D} {vs : List V} {i : Nat} {v : V} (h : Reps G H M ds vs) (e : vs[i]? = some v) : ∃ d, ds[i]? = some d ∧ Rep G H M d v := by
  have hl := h.len
  have hi : i < vs.length := by
    rcases Nat.lt_or_ge i vs.length with q | q
    · exact q
    · rw [List.getElem?_eq_none q] at e; cases e
  obtain ⟨w, q1, q2⟩ := h.get (i := i) (d := ds[i]'(by omega)) (by simp [show i < ds.length by omega])
  rw [e] at q1; cases q1
  exact ⟨_, by simp [show i < ds.length by omega], q2⟩
theorem Reps.set {ds : List D} {vs : List V} {d : D} {v : V} (r : Rep G H M d v) : ∀ (i : Nat), Reps G H M ds vs → Reps G H M (ds.set i d) (vs.set i v) := by
  intro i h
  induction ds generalizing vs i with
  | nil => have h : _ = [] := h; subst h; exact rfl
  | cons a ds ih =>
    obtain ⟨w, q, e, h1, h2⟩ := h
    subst e
    cases i with
    | zero => exact Reps.cons r h2
    | succ i => exact Reps.cons h1 (ih i h2)
theorem Reps.take {ds : List D} {vs : List V} : ∀ (n : Nat), Reps G H M ds vs → Reps G H M (ds.take n) (vs.take n) := by
  intro n h
  induction ds generalizing vs n with
  | nil => have h : _ = [] := h; subst h; simp; exact rfl
  | cons a ds ih =>
    obtain ⟨w, q, e, h1, h2⟩ := h
    subst e
    cases n with
    | zero => exact rfl
    | succ n => exact Reps.cons h1 (ih n h2)
theorem Reps.drop {ds : List D} {vs : List V} : ∀ (n : Nat), Reps G H M ds vs → Reps G H M (ds.drop n) (vs.drop n) := by
  intro n h
  induction ds generalizing vs n with
  | nil => have h : _ = [] := h; subst h; simp; exact rfl
  | cons a ds ih =>
    cases n with
    | zero => exact h
    | succ n =>
      obtain ⟨w, q, e, h1, h2⟩ := h
      subst e
      exact ih n h2
theorem Reps.rev {ds : List D} {vs : List V} (h : Reps G H M ds vs) : Reps G H M ds.reverse vs.reverse := by
  induction ds generalizing vs with
  | nil => have h : _ = [] := h; subst h; exact rfl
  | cons a ds ih =>
    obtain ⟨w, q, e, h1, h2⟩ := h
    subst e
    rw [List.reverse_cons, List.reverse_cons]
    exact (ih h2).app (Reps.one h1)
theorem Reps.flat {ds : List D} {vs : List V} (h : Reps G H M ds vs) : ∀ k : Nat, Reps G H M (List.replicate k ds).flatten (List.replicate k vs).flatten
  | 0 => rfl
  | k + 1 => by
    rw [List.replicate_succ, List.replicate_succ, List.flatten_cons, List.flatten_cons]
    exact h.app (Reps.flat h k)
theorem Reps.ints : ∀ {ds : List D} {vs : List V} {l : List Int}, Reps G H M ds vs → ints? ds = some l → vs = l.map V.int
  | [], _, l, h, e => by
    have h : _ = [] := h; subst h
    simp [ints?] at e; subst e; rfl
  | d :: ds, _, l, h, e => by
    obtain ⟨v, r, e1, h1, h2⟩ := h
    subst e1
    cases d with
    | int i =>
      simp only [ints?, Option.map_eq_some_iff] at e
      obtain ⟨m, em, rfl⟩ := e
      have h1 : v = .int i := h1
      rw [h1, Reps.ints h2 em]; rfl
    | _ => simp [ints?] at e
theorem Reps.bls : ∀ {ds : List D} {vs : List V} {l : List Bool}, Reps G H M ds vs → bls? ds = some l → vs = l.map V.bl
  | [], _, l, h, e => by
    have h : _ = [] := h; subst h
    simp [bls?] at e; subst e; rfl
  | d :: ds, _, l, h, e => by
    obtain ⟨v, r, e1, h1, h2⟩ := h
    subst e1
    cases d with
    | bl i =>
      simp only [bls?, Option.map_eq_some_iff] at e
      obtain ⟨m, em, rfl⟩ := e
      have h1 : v = .bl i := h1
      rw [h1, Reps.bls h2 em]; rfl
    | _ => simp [bls?] at e
theorem Reps.strs : ∀ {ds : List D} {vs : List V} {l : List (List Nat)}, Reps G H M ds vs → strs? ds = some l → vs = l.map fun s => V.str ⟨s.toArray⟩
  | [], _, l, h, e => by
    have h : _ = [] := h; subst h
    simp [strs?] at e; subst e; rfl
  | d :: ds, _, l, h, e => by
    obtain ⟨v, r, e1, h1, h2⟩ := h
    subst e1
    cases d with
    | str i =>
      simp only [strs?, Option.map_eq_some_iff] at e
      obtain ⟨m, em, rfl⟩ := e
      have h1 : v = _ := h1
      rw [h1, Reps.strs h2 em]; rfl
    | _ => simp [strs?] at e
theorem Reps.ofInts : ∀ (l : List Int), Reps G H M (l.map D.int) (l.map V.int)
  | [] => rfl
  | i :: l => Reps.cons rfl (Reps.ofInts l)
end

/-! ### a frame's slots -/
structure Fm where
  G : Gm
  H0 : Hp
  /-- what the callers own, and lend to us -/
  M0 : Addr → Prop
  /-- new lists that nobody holds yet -/
  P : Addr → Prop := fun _ => False
def Fm.add (Γ : Fm) (a : Addr) : Fm := { Γ with P := fun b => b = a ∨ Γ.P b }
abbrev St := L2.St
def sAt (σ : St) (i : Nat) : Option V := σ.getD i none
def Slot.held : Slot → Bool
  | .no => false
  | .fz _ => false
  | _ => true
def MM (Γ : Fm) (σ : St) (s : Sl) (a : Addr) : Prop := (Γ.M0 a ∨ Γ.P a) ∨ ∃ i, sAt σ i = some (.ref a) ∧ (getS s i).mine = true
def Ch (σ : St) (s : Sl) (a : Addr) : Prop := ∃ i, sAt σ i = some (.ref a) ∧ (getS s i).mut = true
def Cont (G : Gm) (H : Hp) (M : Addr → Prop) (d : D) (a : Addr) : Prop := match d with
  | .lst ds => ∃ vs, H a = some (.lst vs) ∧ Reps G H M ds vs
  | _ => False
def SlotOk (Γ : Fm) (H : Hp) (M : Addr → Prop) (x : Slot) (o : Option V) : Prop := match x with
  | .no => True
  | .fz d => ∃ v, o = some v ∧ Rep Γ.G H M d v
  | .own d => ∃ a, o = some (.ref a) ∧ ¬ (Γ.M0 a ∨ Γ.P a) ∧ Γ.H0 a = none ∧ Cont Γ.G H M d a
  | .ino d => ∃ a, o = some (.ref a) ∧ (Γ.M0 a ∧ ¬ Γ.P a) ∧ Cont Γ.G H M d a
  | .lent true d => ∃ a, o = some (.ref a) ∧ ¬ (Γ.M0 a ∨ Γ.P a) ∧ Γ.H0 a = none ∧ Cont Γ.G H M d a
  | .lent false d => ∃ a, o = some (.ref a) ∧ (Γ.M0 a ∧ ¬ Γ.P a) ∧ Cont Γ.G H M d a
/-- what was at the entry: there, and (but for what was lent) as it was -/
def Dm (Γ : Fm) (H : Hp) : Prop := (∀ a, Γ.H0 a ≠ none → H a ≠ none) ∧ ∀ a o, Γ.H0 a = some o → NT o → ¬ Γ.M0 a → H a = some o
structure EnvOk (Γ : Fm) (H : Hp) (σ : St) (s : Sl) : Prop where
  len : σ.length = s.length
  slot : ∀ i, SlotOk Γ H (MM Γ σ s) (getS s i) (sAt σ i)
  dis : ∀ i j a, (getS s i).held = true → (getS s j).held = true → sAt σ i = some (.ref a) → sAt σ j = some (.ref a) → i = j
  trk : ∀ a, Γ.M0 a ∨ Γ.P a → H a ≠ none
  dm : Dm Γ H
  tab : Tabz Γ.G H

structure Step (Γ : Fm) (σ : St) (s : Sl) (H : Hp) (σ' : St) (s' : Sl) (H' : Hp) : Prop where
  keep : ∀ a o, H a = some o → ¬ Ch σ s a → NT o → H' a = some o
  dom : ∀ a, H a ≠ none → H' a ≠ none
  ch : ∀ a, Ch σ' s' a → Ch σ s a ∨ H a = none
  mm : ∀ a, MM Γ σ' s' a → MM Γ σ s a ∨ H a = none
  fix : ∀ i, (∀ d, getS s i = .ino d → sAt σ' i = sAt σ i ∧ ∃ d', getS s' i = .ino d' ∨ getS s' i = .lent false d') ∧ (∀ b d, getS s i = .lent b d → sAt σ' i = sAt σ i ∧ getS s' i = .lent b d)

section
variable {Γ : Fm} {H H' H'' : Hp} {σ σ' σ'' : St} {s s' s'' : Sl}
theorem Step.refl : Step Γ σ s H σ s H := ⟨fun _ _ h _ _ => h, fun _ h => h, fun _ h => .inl h, fun _ h => .inl h, fun i => ⟨fun d e => ⟨rfl, d, .inl e⟩, fun b d e => ⟨rfl, e⟩⟩⟩
theorem Step.trans (a : Step Γ σ s H σ' s' H') (b : Step Γ σ' s' H' σ'' s'' H'') : Step Γ σ s H σ'' s'' H'' := by
  have nn : ∀ x, H' x = none → H x = none := fun x e => by
    cases q : H x with
    | none => rfl
    | some o => exact absurd e (a.dom x (by rw [q]; simp))
  refine ⟨fun x o e nc nt => b.keep x o (a.keep x o e nc nt) (fun z => ?_) nt, fun x h => b.dom x (a.dom x h), fun x z => ?_, fun x z => ?_, fun i => ⟨fun d e => ?_, fun bb d e => ?_⟩⟩
  · rcases a.ch x z with z | z
    · exact nc z
    · rw [e] at z; cases z
  · rcases b.ch x z with z | z
    · exact a.ch x z
    · exact .inr (nn x z)
  · rcases b.mm x z with z | z
    · exact a.mm x z
    · exact .inr (nn x z)
  · obtain ⟨e1, d1, e2⟩ := (a.fix i).1 d e
    rcases e2 with e2 | e2
    · obtain ⟨e3, d2, e4⟩ := (b.fix i).1 d1 e2
      exact ⟨e3.trans e1, d2, e4⟩
    · obtain ⟨e3, e4⟩ := (b.fix i).2 false d1 e2
      exact ⟨e3.trans e1, d1, .inr e4⟩
  · obtain ⟨e1, e2⟩ := (a.fix i).2 bb d e
    obtain ⟨e3, e4⟩ := (b.fix i).2 bb d e2
    exact ⟨e3.trans e1, e4⟩
theorem mut_held {x : Slot} (h : x.mut = true) : x.held = true := by cases x <;> simp_all [Slot.mut, Slot.held]
theorem mine_held {x : Slot} (h : x.mine = true) : x.held = true := by cases x <;> simp_all [Slot.mine, Slot.held]
/-- what changes is out of the values' reach -/
theorem EnvOk.chM (e : EnvOk Γ H σ s) {a : Addr} (h : Ch σ s a) : MM Γ σ s a := by
  obtain ⟨i, h1, h2⟩ := h
  have q := e.slot i
  cases hx : getS s i with
  | own d => exact .inr ⟨i, h1, by rw [hx]; rfl⟩
  | ino d =>
    rw [hx] at q
    obtain ⟨b, e1, e2, _⟩ := q
    rw [h1] at e1; cases e1
    exact .inl (.inl e2.1)
  | _ => rw [hx] at h2; simp [Slot.mut] at h2
/-- a value through a step -/
theorem Rep.step (e : EnvOk Γ H σ s) (t : Step Γ σ s H σ' s' H') {d : D} {v : V} (r : Rep Γ.G H (MM Γ σ s) d v) : Rep Γ.G H' (MM Γ σ' s') d v :=
  Rep.mono (fun a o e1 nm nt => t.keep a o e1 (fun z => nm (e.chM z)) nt) (fun a z => t.mm a z) d v r
theorem Reps.step (e : EnvOk Γ H σ s) (t : Step Γ σ s H σ' s' H') {ds : List D} {vs : List V} (r : Reps Γ.G H (MM Γ σ s) ds vs) : Reps Γ.G H' (MM Γ σ' s') ds vs :=
  Reps.mono (fun a o e1 nm nt => t.keep a o e1 (fun z => nm (e.chM z)) nt) (fun a z => t.mm a z) ds vs r
theorem getS_set {i j : Nat} {x : Slot} (h : i < s.length) : getS (s.set i x) j = if j = i then x else getS s j := by
  unfold getS
  rw [List.getD_eq_getElem?_getD, List.getD_eq_getElem?_getD]
  by_cases e : j = i
  · subst e; rw [if_pos rfl, List.getElem?_set_self h]; rfl
  · rw [if_neg e, List.getElem?_set_ne (fun z => e z.symm)]
theorem getS_lt {i : Nat} (h : getS s i ≠ .no) : i < s.length := by
  rcases Nat.lt_or_ge i s.length with q | q
  · exact q
  · exact absurd (by unfold getS; rw [List.getD_eq_getElem?_getD, List.getElem?_eq_none q]; rfl) h
theorem sAt_set {i j : Nat} {v : Option V} (h : i < σ.length) : sAt (σ.set i v) j = if j = i then v else sAt σ j := by
  unfold sAt
  rw [List.getD_eq_getElem?_getD, List.getD_eq_getElem?_getD]
  by_cases e : j = i
  · subst e; rw [if_pos rfl, List.getElem?_set_self h]; rfl
  · rw [if_neg e, List.getElem?_set_ne (fun z => e z.symm)]
theorem sAt_some {i : Nat} {v : V} (h : sAt σ i = some v) : σ[i]? = some (some v) := by
  unfold sAt at h
  rw [List.getD_eq_getElem?_getD] at h
  cases q : σ[i]? with
  | none => rw [q] at h; cases h
  | some o => rw [q] at h; have h : o = some v := h; rw [h]
theorem sAt_of {i : Nat} {v : V} (h : σ[i]? = some (some v)) : sAt σ i = some v := by
  unfold sAt
  rw [List.getD_eq_getElem?_getD, h]; rfl

theorem Cont.mono {G : Gm} {M M' : Addr → Prop} {d : D} {a : Addr} (c : Cont G H M d a) (hk : ∀ a o, H a = some o → ¬ M a → NT o → H' a = some o) (hm : ∀ a, M' a → M a ∨ H a = none) (ha : ∀ o, H a = some o → NT o → H' a = some o) : Cont G H' M' d a := by
  cases d with
  | lst ds =>
    obtain ⟨vs, h1, h2⟩ := c
    exact ⟨vs, ha _ h1 (fun ps z => by cases z), Reps.mono hk hm ds vs h2⟩
  | _ => exact c
theorem SlotOk.mono {M M' : Addr → Prop} {x : Slot} {o : Option V} (q : SlotOk Γ H M x o) (hk : ∀ a o, H a = some o → ¬ M a → NT o → H' a = some o) (hm : ∀ a, M' a → M a ∨ H a = none)
    (hh : ∀ a, o = some (.ref a) → x.held = true → ∀ u, H a = some u → NT u → H' a = some u) : SlotOk Γ H' M' x o := by
  cases x with
  | no => trivial
  | fz d => obtain ⟨v, h1, h2⟩ := q; exact ⟨v, h1, Rep.mono hk hm d v h2⟩
  | own d => obtain ⟨a, h1, h2, h3, h4⟩ := q; exact ⟨a, h1, h2, h3, h4.mono hk hm (hh a h1 rfl)⟩
  | ino d => obtain ⟨a, h1, h2, h4⟩ := q; exact ⟨a, h1, h2, h4.mono hk hm (hh a h1 rfl)⟩
  | lent b d =>
    cases b with
    | true => obtain ⟨a, h1, h2, h3, h4⟩ := q; exact ⟨a, h1, h2, h3, h4.mono hk hm (hh a h1 rfl)⟩
    | false => obtain ⟨a, h1, h2, h4⟩ := q; exact ⟨a, h1, h2, h4.mono hk hm (hh a h1 rfl)⟩
/-- the heap has grown, nothing else -/
theorem EnvOk.grow (e : EnvOk Γ H σ s) (k : ∀ a o, H a = some o → H' a = some o) : EnvOk Γ H' σ s := by
  have nn : ∀ a, H a ≠ none → H' a ≠ none := fun a h => by
    cases q : H a with
    | none => exact absurd q h
    | some o => rw [k a o q]; simp
  exact ⟨e.len, fun i => (e.slot i).mono (fun a o h _ _ => k a o h) (fun a h => .inl h) (fun a _ _ u h _ => k a u h), e.dis, fun a h => nn a (e.trk a h), ⟨fun a h => nn a (e.dm.1 a h), fun a o h nt nm => k a o (e.dm.2 a o h nt nm)⟩, e.tab.ext k⟩
theorem Step.grow (k : ∀ a o, H a = some o → H' a = some o) : Step Γ σ s H σ s H' :=
  ⟨fun a o h _ _ => k a o h, fun a h => by
    cases q : H a with
    | none => exact absurd q h
    | some o => rw [k a o q]; simp, fun _ h => .inl h, fun _ h => .inl h, fun i => ⟨fun d e => ⟨rfl, d, .inl e⟩, fun b d e => ⟨rfl, e⟩⟩⟩
theorem upd_keep {a : Addr} {o : HO} (n : H a = none) : ∀ b u, H b = some u → upd H a o b = some u := fun b u e => by rw [upd_ne (ne_of_none e n)]; exact e
theorem held_of_set {i j : Nat} {x : Slot} (hi : i < s.length) : getS (s.set i x) j = if j = i then x else getS s j := getS_set hi
theorem getS_oob {i : Nat} {x : Slot} (hi : ¬ i < s.length) : s.set i x = s := by
  rw [List.set_eq_of_length_le (by omega)]
/-- one slot is seen otherwise (frozen, lent), the values lie as they did -/
theorem EnvOk.reslot (e : EnvOk Γ H σ s) {i : Nat} {x : Slot} (hi : i < s.length) (mm : ∀ a, MM Γ σ (s.set i x) a → MM Γ σ s a) (hx : SlotOk Γ H (MM Γ σ (s.set i x)) x (sAt σ i)) (hh : x.held = true → (getS s i).held = true) : EnvOk Γ H σ (s.set i x) := by
  have hg : ∀ j, (getS (s.set i x) j).held = true → (getS s j).held = true := fun j => by
    rw [getS_set hi]
    by_cases z : j = i
    · subst z; rw [if_pos rfl]; exact hh
    · rw [if_neg z]; exact id
  refine ⟨by rw [List.length_set]; exact e.len, fun j => ?_, fun j k a h1 h2 => e.dis j k a (hg j h1) (hg k h2), e.trk, e.dm, e.tab⟩
  rw [getS_set hi]
  by_cases z : j = i
  · subst z; rw [if_pos rfl]; exact hx
  · rw [if_neg z]
    exact (e.slot j).mono (fun _ _ h _ _ => h) (fun a h => .inl (mm a h)) (fun _ _ _ _ h _ => h)
theorem MM.sub {i : Nat} {x : Slot} (hi : i < s.length) (hx : x.mine = true → (getS s i).mine = true) : ∀ a, MM Γ σ (s.set i x) a → MM Γ σ s a := fun a h => by
  rcases h with h | ⟨j, h1, h2⟩
  · exact .inl h
  · refine .inr ⟨j, h1, ?_⟩
    rw [getS_set hi] at h2
    by_cases z : j = i
    · subst z; rw [if_pos rfl] at h2; exact hx h2
    · rw [if_neg z] at h2; exact h2
theorem Ch.sub {i : Nat} {x : Slot} (hi : i < s.length) (hx : x.mut = true → (getS s i).mut = true) : ∀ a, Ch σ (s.set i x) a → Ch σ s a := fun a h => by
  obtain ⟨j, h1, h2⟩ := h
  refine ⟨j, h1, ?_⟩
  rw [getS_set hi] at h2
  by_cases z : j = i
  · subst z; rw [if_pos rfl] at h2; exact hx h2
  · rw [if_neg z] at h2; exact h2
theorem EnvOk.freeze (e : EnvOk Γ H σ s) {i : Nat} {d : D} (h : getS s i = .own d) : ∃ a, sAt σ i = some (.ref a) ∧ EnvOk Γ H σ (s.set i (.fz d)) ∧ Step Γ σ s H σ (s.set i (.fz d)) H ∧ Rep Γ.G H (MM Γ σ (s.set i (.fz d))) d (.ref a) := by
  have hi : i < s.length := getS_lt (by rw [h]; simp)
  have mm := MM.sub (Γ := Γ) (σ := σ) (x := .fz d) hi (fun z => by simp [Slot.mine] at z)
  have q := e.slot i
  rw [h] at q
  obtain ⟨a, h1, h2, h3, h4⟩ := q
  have na : ¬ MM Γ σ (s.set i (.fz d)) a := fun z => by
    rcases z with z | ⟨j, z1, z2⟩
    · exact h2 z
    · rw [getS_set hi] at z2
      by_cases w : j = i
      · subst w; rw [if_pos rfl] at z2; simp [Slot.mine] at z2
      · rw [if_neg w] at z2
        exact w (e.dis j i a (mine_held z2) (by rw [h]; rfl) z1 h1)
  have r : Rep Γ.G H (MM Γ σ (s.set i (.fz d))) d (.ref a) := by
    cases d with
    | lst ds =>
      obtain ⟨vs, q1, q2⟩ := h4
      exact ⟨a, vs, rfl, ⟨q1, na⟩, Reps.mono (fun _ _ h _ _ => h) (fun b z => .inl (mm b z)) ds vs q2⟩
    | _ => exact h4.elim
  refine ⟨a, h1, e.reslot hi mm ⟨_, h1, r⟩ (fun z => by simp [Slot.held] at z), ⟨fun _ _ h _ _ => h, fun _ h => h, fun b z => .inl (Ch.sub hi (fun z => by simp [Slot.mut] at z) b z), fun b z => .inl (mm b z), fun j => ⟨fun d' hd => ⟨rfl, ?_⟩, fun b d' hd => ⟨rfl, ?_⟩⟩⟩, r⟩
  · rw [getS_set hi]
    by_cases w : j = i
    · subst w; rw [h] at hd; cases hd
    · rw [if_neg w]; exact ⟨d', .inl hd⟩
  · rw [getS_set hi]
    by_cases w : j = i
    · subst w; rw [h] at hd; cases hd
    · rw [if_neg w]; exact hd
/-- a new value is stored -/
theorem EnvOk.store (e : EnvOk Γ H σ s) {i : Nat} {d : D} {v : V} (hi : i < s.length) (ho : (getS s i).open = true) (r : Rep Γ.G H (MM Γ σ s) d v) :
    EnvOk Γ H (σ.set i (some v)) (s.set i (.fz d)) ∧ Step Γ σ s H (σ.set i (some v)) (s.set i (.fz d)) H := by
  have hi' : i < σ.length := by rw [e.len]; exact hi
  have mm : ∀ a, MM Γ (σ.set i (some v)) (s.set i (.fz d)) a → MM Γ σ s a := fun a h => by
    rcases h with h | ⟨j, h1, h2⟩
    · exact .inl h
    · rw [getS_set hi] at h2
      rw [sAt_set hi'] at h1
      by_cases z : j = i
      · subst z; rw [if_pos rfl] at h2; simp [Slot.mine] at h2
      · rw [if_neg z] at h1 h2; exact .inr ⟨j, h1, h2⟩
  have ch : ∀ a, Ch (σ.set i (some v)) (s.set i (.fz d)) a → Ch σ s a := fun a h => by
    obtain ⟨j, h1, h2⟩ := h
    rw [getS_set hi] at h2
    rw [sAt_set hi'] at h1
    by_cases z : j = i
    · subst z; rw [if_pos rfl] at h2; simp [Slot.mut] at h2
    · rw [if_neg z] at h1 h2; exact ⟨j, h1, h2⟩
  refine ⟨⟨by rw [List.length_set, List.length_set]; exact e.len, fun j => ?_, fun j k a h1 h2 h3 h4 => ?_, e.trk, e.dm, e.tab⟩, ⟨fun _ _ h _ _ => h, fun _ h => h, fun a h => .inl (ch a h), fun a h => .inl (mm a h), fun j => ⟨fun d' hd => ?_, fun b d' hd => ?_⟩⟩⟩
  · rw [getS_set hi, sAt_set hi']
    by_cases z : j = i
    · rw [if_pos z, if_pos z]
      exact ⟨v, rfl, Rep.mono (fun _ _ h _ _ => h) (fun a h => .inl (mm a h)) d v r⟩
    · rw [if_neg z, if_neg z]
      exact (e.slot j).mono (fun _ _ h _ _ => h) (fun a h => .inl (mm a h)) (fun _ _ _ _ h _ => h)
  · rw [getS_set hi] at h1 h2
    rw [sAt_set hi'] at h3 h4
    by_cases zj : j = i
    · rw [if_pos zj] at h1; simp [Slot.held] at h1
    · by_cases zk : k = i
      · rw [if_pos zk] at h2; simp [Slot.held] at h2
      · rw [if_neg zj] at h1 h3
        rw [if_neg zk] at h2 h4
        exact e.dis j k a h1 h2 h3 h4
  · have nj : j ≠ i := fun z => by subst z; rw [hd] at ho; simp [Slot.open] at ho
    rw [getS_set hi, sAt_set hi', if_neg nj, if_neg nj]
    exact ⟨rfl, d', .inl hd⟩
  · have nj : j ≠ i := fun z => by subst z; rw [hd] at ho; simp [Slot.open] at ho
    rw [getS_set hi, sAt_set hi', if_neg nj, if_neg nj]
    exact ⟨rfl, hd⟩
/-- a new list is stored, and owned -/
theorem EnvOk.storeOwn {a : Addr} {ds : List D} {vs : List V} (e : EnvOk (Γ.add a) H σ s) {i : Nat} (hi : i < s.length) (ho : (getS s i).open = true) (hP : ¬ Γ.P a) (hM : ¬ Γ.M0 a) (h0 : Γ.H0 a = none) (ha : H a = some (.lst vs)) (r : Reps Γ.G H (MM (Γ.add a) σ s) ds vs) :
    EnvOk Γ H (σ.set i (some (.ref a))) (s.set i (.own (.lst ds))) ∧ ∀ (σ0 : St) (s0 : Sl) (H0 : Hp), H0 a = none → Step Γ σ0 s0 H0 σ s H → Step Γ σ0 s0 H0 (σ.set i (some (.ref a))) (s.set i (.own (.lst ds))) H := by
  have hi' : i < σ.length := by rw [e.len]; exact hi
  have mm : ∀ b, MM Γ (σ.set i (some (.ref a))) (s.set i (.own (.lst ds))) b → MM (Γ.add a) σ s b ∧ (b = a ∨ MM Γ σ s b) := fun b h => by
    rcases h with h | ⟨j, h1, h2⟩
    · exact ⟨.inl (h.imp id fun z => .inr z), .inr (.inl h)⟩
    · rw [getS_set hi] at h2
      rw [sAt_set hi'] at h1
      by_cases z : j = i
      · rw [if_pos z] at h1
        have : a = b := by cases h1; rfl
        exact ⟨.inl (.inr (.inl this.symm)), .inl this.symm⟩
      · rw [if_neg z] at h1 h2; exact ⟨.inr ⟨j, h1, h2⟩, .inr (.inr ⟨j, h1, h2⟩)⟩
  have ch : ∀ b, Ch (σ.set i (some (.ref a))) (s.set i (.own (.lst ds))) b → b = a ∨ Ch σ s b := fun b h => by
    obtain ⟨j, h1, h2⟩ := h
    rw [getS_set hi] at h2
    rw [sAt_set hi'] at h1
    by_cases z : j = i
    · rw [if_pos z] at h1
      cases h1
      exact .inl rfl
    · rw [if_neg z] at h1 h2; exact .inr ⟨j, h1, h2⟩
  have fix : ∀ j, (∀ d, getS s j = .ino d → sAt (σ.set i (some (.ref a))) j = sAt σ j ∧ ∃ d', getS (s.set i (.own (.lst ds))) j = .ino d' ∨ getS (s.set i (.own (.lst ds))) j = .lent false d') ∧ (∀ b d, getS s j = .lent b d → sAt (σ.set i (some (.ref a))) j = sAt σ j ∧ getS (s.set i (.own (.lst ds))) j = .lent b d) := fun j => by
    refine ⟨fun d' hd => ?_, fun b d' hd => ?_⟩
    · have nj : j ≠ i := fun z => by subst z; rw [hd] at ho; simp [Slot.open] at ho
      rw [getS_set hi, sAt_set hi', if_neg nj, if_neg nj]
      exact ⟨rfl, d', .inl hd⟩
    · have nj : j ≠ i := fun z => by subst z; rw [hd] at ho; simp [Slot.open] at ho
      rw [getS_set hi, sAt_set hi', if_neg nj, if_neg nj]
      exact ⟨rfl, hd⟩
  have nh : ∀ j, (getS s j).held = true → sAt σ j ≠ some (.ref a) := fun j hh hs => by
    have q := e.slot j
    cases hx : getS s j with
    | no => rw [hx] at hh; simp [Slot.held] at hh
    | fz d => rw [hx] at hh; simp [Slot.held] at hh
    | own d => rw [hx] at q; obtain ⟨b, h1, h2, _⟩ := q; rw [hs] at h1; cases h1; exact h2 (.inr (.inl rfl))
    | ino d => rw [hx] at q; obtain ⟨b, h1, h2, _⟩ := q; rw [hs] at h1; cases h1; exact h2.2 (.inl rfl)
    | lent bb d =>
      rw [hx] at q
      cases bb with
      | true => obtain ⟨b, h1, h2, _⟩ := q; rw [hs] at h1; cases h1; exact h2 (.inr (.inl rfl))
      | false => obtain ⟨b, h1, h2, _⟩ := q; rw [hs] at h1; cases h1; exact h2.2 (.inl rfl)
  refine ⟨⟨by rw [List.length_set, List.length_set]; exact e.len, fun j => ?_, fun j k b h1 h2 h3 h4 => ?_, fun b h => e.trk b (h.imp id fun z => .inr z), e.dm, e.tab⟩, fun σ0 s0 H0 n0 t => ⟨fun b o h n nt => t.keep b o h n nt, t.dom, fun b h => ?_, fun b h => ?_, fun j => ⟨fun d e => by
    obtain ⟨e1, d1, e2⟩ := (t.fix j).1 d e
    rcases e2 with e2 | e2
    · obtain ⟨e3, d2, e4⟩ := (fix j).1 d1 e2
      exact ⟨e3.trans e1, d2, e4⟩
    · obtain ⟨e3, e4⟩ := (fix j).2 false d1 e2
      exact ⟨e3.trans e1, d1, .inr e4⟩, fun bb d e => by
    obtain ⟨e1, e2⟩ := (t.fix j).2 bb d e
    obtain ⟨e3, e4⟩ := (fix j).2 bb d e2
    exact ⟨e3.trans e1, e4⟩⟩⟩⟩
  · rw [getS_set hi, sAt_set hi']
    by_cases z : j = i
    · rw [if_pos z, if_pos z]
      exact ⟨a, rfl, fun w => w.elim hM hP, h0, vs, ha, Reps.mono (fun _ _ h _ _ => h) (fun b h => .inl (mm b h).1) ds vs r⟩
    · rw [if_neg z, if_neg z]
      have q := e.slot j
      have q' : SlotOk Γ H (MM (Γ.add a) σ s) (getS s j) (sAt σ j) := by
        cases hx : getS s j with
        | no => trivial
        | fz d => rw [hx] at q; exact q
        | own d => rw [hx] at q; obtain ⟨b, h1, h2, h3, h4⟩ := q; exact ⟨b, h1, fun w => h2 (w.imp id fun z => .inr z), h3, h4⟩
        | ino d => rw [hx] at q; obtain ⟨b, h1, h2, h4⟩ := q; exact ⟨b, h1, ⟨h2.1, fun w => h2.2 (.inr w)⟩, h4⟩
        | lent bb d =>
          rw [hx] at q
          cases bb with
          | true => obtain ⟨b, h1, h2, h3, h4⟩ := q; exact ⟨b, h1, fun w => h2 (w.imp id fun z => .inr z), h3, h4⟩
          | false => obtain ⟨b, h1, h2, h4⟩ := q; exact ⟨b, h1, ⟨h2.1, fun w => h2.2 (.inr w)⟩, h4⟩
      exact q'.mono (fun _ _ h _ _ => h) (fun b h => .inl (mm b h).1) (fun _ _ _ _ h _ => h)
  · rw [getS_set hi] at h1 h2
    rw [sAt_set hi'] at h3 h4
    by_cases zj : j = i
    · by_cases zk : k = i
      · rw [zj, zk]
      · rw [if_neg zk] at h2 h4
        rw [if_pos zj] at h3
        cases h3
        exact absurd h4 (nh k h2)
    · by_cases zk : k = i
      · rw [if_neg zj] at h1 h3
        rw [if_pos zk] at h4
        cases h4
        exact absurd h3 (nh j h1)
      · rw [if_neg zj] at h1 h3
        rw [if_neg zk] at h2 h4
        exact e.dis j k b h1 h2 h3 h4
  · rcases ch b h with z | z
    · subst z; exact .inr n0
    · exact t.ch b z
  · rcases (mm b h).2 with z | z
    · subst z; exact .inr n0
    · exact t.mm b z
/-- a pending new list is a value like others -/
theorem EnvOk.unadd {a : Addr} (e : EnvOk (Γ.add a) H σ s) : EnvOk Γ H σ s := by
  have mm : ∀ b, MM Γ σ s b → MM (Γ.add a) σ s b := fun b h => h.imp (fun z => z.imp id fun w => .inr w) id
  refine ⟨e.len, fun j => ?_, e.dis, fun b h => e.trk b (h.imp id fun z => .inr z), e.dm, e.tab⟩
  have q := e.slot j
  have q' : SlotOk Γ H (MM (Γ.add a) σ s) (getS s j) (sAt σ j) := by
    cases hx : getS s j with
    | no => trivial
    | fz d => rw [hx] at q; exact q
    | own d => rw [hx] at q; obtain ⟨b, h1, h2, h3, h4⟩ := q; exact ⟨b, h1, fun w => h2 (w.imp id fun z => .inr z), h3, h4⟩
    | ino d => rw [hx] at q; obtain ⟨b, h1, h2, h4⟩ := q; exact ⟨b, h1, ⟨h2.1, fun w => h2.2 (.inr w)⟩, h4⟩
    | lent bb d =>
      rw [hx] at q
      cases bb with
      | true => obtain ⟨b, h1, h2, h3, h4⟩ := q; exact ⟨b, h1, fun w => h2 (w.imp id fun z => .inr z), h3, h4⟩
      | false => obtain ⟨b, h1, h2, h4⟩ := q; exact ⟨b, h1, ⟨h2.1, fun w => h2.2 (.inr w)⟩, h4⟩
  exact q'.mono (fun _ _ h _ _ => h) (fun b h => .inl (mm b h)) (fun _ _ _ _ h _ => h)
/-- a new object that nobody knows: it may be set aside -/
theorem EnvOk.addNew {a : Addr} {o : HO} (e : EnvOk Γ H σ s) (n : H a = none) : EnvOk (Γ.add a) (upd H a o) σ s := by
  have g := e.grow (H' := upd H a o) (fun b u h => upd_keep n b u h)
  have na : ¬ MM Γ σ s a := fun z => by
    rcases z with z | ⟨i, h1, h2⟩
    · exact e.trk a z n
    · have q := e.slot i
      cases hx : getS s i with
      | own d =>
        rw [hx] at q
        obtain ⟨b, e1, _, _, e4⟩ := q
        rw [h1] at e1; cases e1
        cases d with
        | lst ds => obtain ⟨vs, z, _⟩ := e4; rw [n] at z; cases z
        | _ => exact e4.elim
      | lent b d =>
        cases b with
        | false => rw [hx] at h2; simp [Slot.mine] at h2
        | true =>
          rw [hx] at q
          obtain ⟨b, e1, _, _, e4⟩ := q
          rw [h1] at e1; cases e1
          cases d with
          | lst ds => obtain ⟨vs, z, _⟩ := e4; rw [n] at z; cases z
          | _ => exact e4.elim
      | _ => rw [hx] at h2; simp [Slot.mine] at h2
  have mm : ∀ b, MM (Γ.add a) σ s b → MM Γ σ s b ∨ H b = none := fun b h => by
    rcases h with (h | h | h) | h
    · exact .inl (.inl (.inl h))
    · subst h; exact .inr n
    · exact .inl (.inl (.inr h))
    · exact .inl (.inr h)
  have kk : ∀ b u, H b = some u → upd H a o b = some u := fun b u h => upd_keep n b u h
  refine ⟨e.len, fun j => ?_, e.dis, fun b h => ?_, g.dm, g.tab⟩
  · have q := e.slot j
    have q' := q.mono (H' := upd H a o) (M' := MM (Γ.add a) σ s) (fun b u h _ _ => kk b u h) mm (fun b _ _ u h _ => kk b u h)
    have ne : ∀ b ds, Cont Γ.G H (MM Γ σ s) ds b → b ≠ a := fun b ds c z => by
      subst z
      cases ds with
      | lst ds => obtain ⟨vs, w, _⟩ := c; rw [n] at w; cases w
      | _ => exact c.elim
    cases hx : getS s j with
    | no => trivial
    | fz d => rw [hx] at q'; exact q'
    | own d => rw [hx] at q q'; obtain ⟨b, h1, h2, h3, h4⟩ := q'; obtain ⟨b', h1', _, _, h4'⟩ := q; rw [h1] at h1'; cases h1'; exact ⟨b, h1, fun w => w.elim (fun z => h2 (.inl z)) fun w => w.elim (ne b d h4') fun z => h2 (.inr z), h3, h4⟩
    | ino d => rw [hx] at q q'; obtain ⟨b, h1, h2, h4⟩ := q'; obtain ⟨b', h1', _, h4'⟩ := q; rw [h1] at h1'; cases h1'; exact ⟨b, h1, ⟨h2.1, fun w => w.elim (ne b d h4') fun z => h2.2 z⟩, h4⟩
    | lent bb d =>
      rw [hx] at q q'
      cases bb with
      | true => obtain ⟨b, h1, h2, h3, h4⟩ := q'; obtain ⟨b', h1', _, _, h4'⟩ := q; rw [h1] at h1'; cases h1'; exact ⟨b, h1, fun w => w.elim (fun z => h2 (.inl z)) fun w => w.elim (ne b d h4') fun z => h2 (.inr z), h3, h4⟩
      | false => obtain ⟨b, h1, h2, h4⟩ := q'; obtain ⟨b', h1', _, h4'⟩ := q; rw [h1] at h1'; cases h1'; exact ⟨b, h1, ⟨h2.1, fun w => w.elim (ne b d h4') fun z => h2.2 z⟩, h4⟩
  · rcases h with h | h | h
    · exact g.trk b (.inl h)
    · subst h; rw [upd_same]; simp
    · exact g.trk b (.inr h)
end
end PI

set_option linter.all false
set_option maxRecDepth 100000
set_option maxHeartbeats 1000000
/-! P3: readings; arguments; operations by values. -/
namespace PI
open PySem PySem.Spec PyProof.Rows L2

def RepW (G : Gm) (H : Hp) (M : Addr → Prop) (d : D) (v : V) : Prop := Rep G H M d v ∨ ∃ a, v = .ref a ∧ Cont G H M d a
def RepWs (G : Gm) (H : Hp) (M : Addr → Prop) : List D → List V → Prop
  | [], vs => vs = []
  | d :: ds, vs => ∃ v r, vs = v :: r ∧ RepW G H M d v ∧ RepWs G H M ds r
/-- the arguments: an evaluated one strongly, a borrowed one weakly, with its slot -/
def RepsA (G : Gm) (H : Hp) (M : Addr → Prop) (σ : St) (s : Sl) : As → List D → List V → Prop
  | .nil, ds, vs => ds = [] ∧ vs = []
  | .cons (.e _) r, ds, vs => ∃ d t v u, ds = d :: t ∧ vs = v :: u ∧ Rep G H M d v ∧ RepsA G H M σ s r t u
  | .cons (.b i) r, ds, vs => ∃ d t v u, ds = d :: t ∧ vs = v :: u ∧ RepW G H M d v ∧ sAt σ i = some v ∧ (getS s i).val = some d ∧ RepsA G H M σ s r t u
def RepX (G : Gm) (H : Hp) (M : Addr → Prop) (x : Exn) (cls : Value) (dd : Option Addr) : Prop :=
  cls = .ref (G.ec x.c) ∧ (x.x = none → dd = none) ∧ ∀ i, x.x = some i → ∃ q fs, dd = some q ∧ H q = some (.xd fs) ∧ ¬ M q ∧ fs.lookup (G.fld x.c) = some (.int i)
section
variable {G : Gm} {H H' : Hp} {M M' : Addr → Prop}
theorem RepWs.ofReps : ∀ {ds : List D} {vs : List V}, Reps G H M ds vs → RepWs G H M ds vs
  | [], _, h => h
  | _ :: _, _, ⟨v, r, e, h1, h2⟩ => ⟨v, r, e, .inl h1, RepWs.ofReps h2⟩
theorem RepW.lst {ds : List D} {v : V} (h : RepW G H M (.lst ds) v) : ∃ a vs, v = .ref a ∧ H a = some (.lst vs) ∧ Reps G H M ds vs := by
  rcases h with ⟨a, vs, e, q, r⟩ | ⟨a, e, vs, q, r⟩
  · exact ⟨a, vs, e, q.1, r⟩
  · exact ⟨a, vs, e, q, r⟩
theorem RepW.tup {ds : List D} {v : V} (h : RepW G H M (.tup ds) v) : ∃ a vs, v = .ref a ∧ TpM G.K H M a vs ∧ Reps G H M ds vs := by
  rcases h with h | ⟨a, e, q⟩
  · exact h
  · exact q.elim
theorem RepW.int {i : Int} {v : V} (h : RepW G H M (.int i) v) : v = .int i := h.elim id fun ⟨_, _, q⟩ => q.elim
theorem RepW.bl {b : Bool} {v : V} (h : RepW G H M (.bl b) v) : v = .bl b := h.elim id fun ⟨_, _, q⟩ => q.elim
theorem RepW.non {v : V} (h : RepW G H M .non v) : v = .non := h.elim id fun ⟨_, _, q⟩ => q.elim
theorem RepW.str {s : List Nat} {v : V} (h : RepW G H M (.str s) v) : v = .str ⟨s.toArray⟩ := h.elim id fun ⟨_, _, q⟩ => q.elim
theorem RepWs.n0 {vs : List V} (h : RepWs G H M [] vs) : vs = [] := h
theorem RepWs.n1 {a : D} {vs : List V} (h : RepWs G H M [a] vs) : ∃ x, vs = [x] ∧ RepW G H M a x := by
  obtain ⟨x, r, e, h1, h2⟩ := h
  have h2 : r = [] := h2
  subst h2
  exact ⟨x, e, h1⟩
theorem RepWs.n2 {a b : D} {vs : List V} (h : RepWs G H M [a, b] vs) : ∃ x y, vs = [x, y] ∧ RepW G H M a x ∧ RepW G H M b y := by
  obtain ⟨x, r, e, h1, h2⟩ := h
  obtain ⟨y, e2, h3⟩ := RepWs.n1 h2
  exact ⟨x, y, by rw [e, e2], h1, h3⟩
theorem RepWs.n3 {a b c : D} {vs : List V} (h : RepWs G H M [a, b, c] vs) : ∃ x y z, vs = [x, y, z] ∧ RepW G H M a x ∧ RepW G H M b y ∧ RepW G H M c z := by
  obtain ⟨x, r, e, h1, h2⟩ := h
  obtain ⟨y, z, e2, h3, h4⟩ := RepWs.n2 h2
  exact ⟨x, y, z, by rw [e, e2], h1, h3, h4⟩
theorem RepsA.weak {σ : St} {s : Sl} : ∀ {a : As} {ds : List D} {vs : List V}, RepsA G H M σ s a ds vs → RepWs G H M ds vs
  | .nil, _, _, ⟨e1, e2⟩ => by subst e1 e2; rfl
  | .cons (.e _) r, _, _, ⟨d, t, v, u, e1, e2, h1, h2⟩ => by subst e1 e2; exact ⟨v, u, rfl, .inl h1, RepsA.weak (a := r) h2⟩
  | .cons (.b _) r, _, _, ⟨d, t, v, u, e1, e2, h1, _, _, h2⟩ => by subst e1 e2; exact ⟨v, u, rfl, h1, RepsA.weak (a := r) h2⟩
theorem RepsA.strong {σ : St} {s : Sl} : ∀ {a : As} {ds : List D} {vs : List V}, a.bs = [] → RepsA G H M σ s a ds vs → Reps G H M ds vs
  | .nil, _, _, _, ⟨e1, e2⟩ => by subst e1 e2; rfl
  | .cons (.e _) r, _, _, hb, ⟨d, t, v, u, e1, e2, h1, h2⟩ => by subst e1 e2; exact ⟨v, u, rfl, h1, RepsA.strong (a := r) (by simpa [As.bs] using hb) h2⟩
  | .cons (.b _) r, _, _, hb, _ => by simp [As.bs] at hb
theorem Rep.newTup {ds : List D} {us : List V} {p : Addr} (hM : ∀ a, M a → H a ≠ none) (n : H p = none) (r : Reps G H M ds us) : Rep G (upd H p (.tup us)) M (.tup ds) (.ref p) :=
  ⟨p, us, rfl, .inl ⟨.inl upd_same, fun m => hM p m n⟩, Reps.mono (fun a o e _ _ => upd_keep n a o e) (fun a m => .inl m) ds us r⟩
theorem Rep.newLst {ds : List D} {us : List V} {p : Addr} (hM : ∀ a, M a → H a ≠ none) (n : H p = none) (r : Reps G H M ds us) : Rep G (upd H p (.lst us)) M (.lst ds) (.ref p) :=
  ⟨p, us, rfl, ⟨upd_same, fun m => hM p m n⟩, Reps.mono (fun a o e _ _ => upd_keep n a o e) (fun a m => .inl m) ds us r⟩
end

/-! ### readings -/
section
variable (Γ : Fm) (W : WX) (c : Cn)
def SemX (x : Exn) (s s' : Sl) (σ : St) (H : Hp) : Prop := ∀ cls dd H', EnvOk Γ H' σ s' → Step Γ σ s H σ s' H' → RepX Γ.G H' (MM Γ σ s') x cls dd → W cls dd σ H'
def SemE (r : Res D) (s : Sl) (σ : St) (H : Hp) (Q : VK) : Prop := match r with
  | .ok d s' => ∀ v H', EnvOk Γ H' σ s' → Step Γ σ s H σ s' H' → Rep Γ.G H' (MM Γ σ s') d v → Q v H'
  | .err x s' => SemX Γ W x s s' σ H
  | .bad => False
def SemA (a : As) (r : Res (List D)) (s : Sl) (σ : St) (H : Hp) (Q : List V → Hp → Prop) : Prop := match r with
  | .ok ds s' => ∀ vs H', EnvOk Γ H' σ s' → Step Γ σ s H σ s' H' → RepsA Γ.G H' (MM Γ σ s') σ s' a ds vs → Q vs H'
  | .err x s' => SemX Γ W x s s' σ H
  | .bad => False
def semE (e : E) : TE := fun σ H Q => ∃ s, EnvOk Γ H σ s ∧ SemE Γ W (evalE c e s) s σ H Q
def tAr : Ar → TE
  | .e a => semE Γ W c a
  | .b i => tVar i
def tAs : As → TA
  | .nil => tNil
  | .cons a r => tCons (tAr Γ W c a) (tAs r)
end
section
variable {Γ : Fm} {W : WX} {c : Cn} {σ : St} {H H' : Hp} {s s' : Sl}
theorem EnvOk.mmTrk (e : EnvOk Γ H σ s) : ∀ a, MM Γ σ s a → H a ≠ none := fun a h => by
  rcases h with h | ⟨i, h1, h2⟩
  · exact e.trk a h
  · have q := e.slot i
    cases hx : getS s i with
    | own d =>
      rw [hx] at q
      obtain ⟨b, e1, _, _, e4⟩ := q
      rw [h1] at e1; cases e1
      cases d with
      | lst ds => obtain ⟨vs, z, _⟩ := e4; rw [z]; simp
      | _ => exact e4.elim
    | lent b d =>
      cases b with
      | false => rw [hx] at h2; simp [Slot.mine] at h2
      | true =>
        rw [hx] at q
        obtain ⟨b, e1, _, _, e4⟩ := q
        rw [h1] at e1; cases e1
        cases d with
        | lst ds => obtain ⟨vs, z, _⟩ := e4; rw [z]; simp
        | _ => exact e4.elim
    | _ => rw [hx] at h2; simp [Slot.mine] at h2
/-- a slot's value, weakly -/
theorem EnvOk.peek (e : EnvOk Γ H σ s) {i : Nat} {d : D} (h : (getS s i).val = some d) : ∃ v, sAt σ i = some v ∧ RepW Γ.G H (MM Γ σ s) d v := by
  have q := e.slot i
  cases hx : getS s i with
  | no => rw [hx] at h; cases h
  | fz d' => rw [hx] at h q; cases h; obtain ⟨v, h1, h2⟩ := q; exact ⟨v, h1, .inl h2⟩
  | own d' => rw [hx] at h q; cases h; obtain ⟨a, h1, _, _, h4⟩ := q; exact ⟨_, h1, .inr ⟨a, rfl, h4⟩⟩
  | ino d' => rw [hx] at h q; cases h; obtain ⟨a, h1, _, h4⟩ := q; exact ⟨_, h1, .inr ⟨a, rfl, h4⟩⟩
  | lent b d' =>
    rw [hx] at h q; cases h
    cases b with
    | true => obtain ⟨a, h1, _, _, h4⟩ := q; exact ⟨_, h1, .inr ⟨a, rfl, h4⟩⟩
    | false => obtain ⟨a, h1, _, h4⟩ := q; exact ⟨_, h1, .inr ⟨a, rfl, h4⟩⟩
theorem SemX.pre {x : Exn} {s1 s2 : Sl} {H1 : Hp} (t : Step Γ σ s H σ s1 H1) (h : SemX Γ W x s s2 σ H) : SemX Γ W x s1 s2 σ H1 := fun cls dd H' e t2 r => h cls dd H' e (t.trans t2) r
theorem tAs_run : ∀ (a : As) (s : Sl) (H : Hp) (Q : List V → Hp → Prop), EnvOk Γ H σ s → SemA Γ W a (evalAs c a s) s σ H Q → tAs Γ W c a σ H Q
  | .nil, s, H, Q, e, h => h [] H e Step.refl ⟨rfl, rfl⟩
  | .cons (.e a) r, s, H, Q, e, h => by
    refine ⟨s, e, ?_⟩
    rw [evalAs] at h
    cases q : evalE c a s with
    | bad => rw [q] at h; exact h
    | err x s1 => rw [q] at h; exact h
    | ok d s1 =>
      rw [q] at h
      intro v H1 e1 t1 r1
      refine tAs_run r s1 H1 _ e1 ?_
      have h : SemA Γ W (.cons (.e a) r) ((evalAs c r s1).bind fun ds s => .ok (d :: ds) s) s σ H Q := h
      cases q2 : evalAs c r s1 with
      | bad => rw [q2] at h; exact h
      | err x s2 => rw [q2] at h; exact SemX.pre t1 h
      | ok ds s2 =>
        rw [q2] at h
        intro vs H2 e2 t2 r2
        exact h (v :: vs) H2 e2 (t1.trans t2) ⟨d, ds, v, vs, rfl, rfl, Rep.step e1 t2 r1, r2⟩
  | .cons (.b i) r, s, H, Q, e, h => by
    rw [evalAs] at h
    by_cases hv : (getS s i).val.isSome = true
    · rw [if_pos hv] at h
      obtain ⟨d0, hd⟩ := Option.isSome_iff_exists.mp hv
      obtain ⟨v, hv1, _⟩ := e.peek hd
      refine ⟨v, sAt_some hv1, ?_⟩
      refine tAs_run r s H _ e ?_
      cases q2 : evalAs c r s with
      | bad => rw [q2] at h; exact h
      | err x s2 => rw [q2] at h; exact h
      | ok ds s2 =>
        rw [q2] at h
        have h : SemA Γ W (.cons (.b i) r) (ofO ((getS s2 i).val.map (· :: ds)) s2) s σ H Q := h
        intro vs H2 e2 t2 r2
        cases hx : (getS s2 i).val with
        | none => rw [hx] at h; exact h.elim
        | some d =>
          rw [hx] at h
          obtain ⟨v2, hv2, w⟩ := e2.peek hx
          rw [hv1] at hv2; cases hv2
          exact h (v :: vs) H2 e2 t2 ⟨d, ds, v, vs, rfl, rfl, w, hv1, hx, r2⟩
    · rw [if_neg hv] at h
      exact h.elim

/-- an operation by values -/
def OpS (K : PySem.W.Frag) (o : List D → Option D) (rr : List V → Hp → VK → Prop) : Prop :=
  ∀ (G : Gm) (H : Hp) (M : Addr → Prop) (ds : List D) (vs : List V) (d : D) (Q : VK), G.K = K → (∀ a, M a → H a ≠ none) → RepWs G H M ds vs → o ds = some d →
    (∀ v H', (∀ a o, H a = some o → H' a = some o) → Rep G H' M d v → Q v H') → rr vs H Q
theorem op_run {K : PySem.W.Frag} {o : Op} {rr : List V → Hp → VK → Prop} {a : As} {Q : VK} (hK : Γ.G.K = K) (hS : OpS K (opD o) rr) (h : semE Γ W c (.op o a) σ H Q) : tAs Γ W c a σ H fun vs H' => rr vs H' Q := by
  obtain ⟨s, e, h⟩ := h
  rw [evalE] at h
  refine tAs_run a s H _ e ?_
  cases q : evalAs c a s with
  | bad => rw [q] at h; exact h
  | err x s1 => rw [q] at h; exact h
  | ok ds s1 =>
    rw [q] at h
    have h : SemE Γ W (ofO (opD o ds) s1) s σ H Q := h
    intro vs H1 e1 t1 r1
    cases hd : opD o ds with
    | none => rw [hd] at h; exact h.elim
    | some d =>
      rw [hd] at h
      exact hS Γ.G H1 (MM Γ σ s1) ds vs d Q hK e1.mmTrk r1.weak hd fun v H' k r => h v H' (e1.grow k) (t1.trans (Step.grow k)) r
/-- .. whose arguments are all strong -/
def OpZ (K : PySem.W.Frag) (o : List D → Option D) (rr : List V → Hp → VK → Prop) : Prop :=
  ∀ (G : Gm) (H : Hp) (M : Addr → Prop) (ds : List D) (vs : List V) (d : D) (Q : VK), G.K = K → (∀ a, M a → H a ≠ none) → Reps G H M ds vs → o ds = some d →
    (∀ v H', (∀ a o, H a = some o → H' a = some o) → Rep G H' M d v → Q v H') → rr vs H Q
theorem op_runZ {K : PySem.W.Frag} {o : Op} {rr : List V → Hp → VK → Prop} {a : As} {Q : VK} (hb : a.bs = []) (hK : Γ.G.K = K) (hS : OpZ K (opD o) rr) (h : semE Γ W c (.op o a) σ H Q) : tAs Γ W c a σ H fun vs H' => rr vs H' Q := by
  obtain ⟨s, e, h⟩ := h
  rw [evalE] at h
  refine tAs_run a s H _ e ?_
  cases q : evalAs c a s with
  | bad => rw [q] at h; exact h
  | err x s1 => rw [q] at h; exact h
  | ok ds s1 =>
    rw [q] at h
    have h : SemE Γ W (ofO (opD o ds) s1) s σ H Q := h
    intro vs H1 e1 t1 r1
    cases hd : opD o ds with
    | none => rw [hd] at h; exact h.elim
    | some d =>
      rw [hd] at h
      exact hS Γ.G H1 (MM Γ σ s1) ds vs d Q hK e1.mmTrk (r1.strong hb) hd fun v H' k r => h v H' (e1.grow k) (t1.trans (Step.grow k)) r
end

theorem _root_.L2.PE.weak {X : Cx} {e : Expr} {t t' : TE} (h : PE X e t) (w : ∀ σ H Q, t' σ H Q → t σ H Q) : PE X e t' := ⟨fun pins s σ H Q I q => h.run pins s σ H Q I (w σ H Q q)⟩
theorem _root_.L2.PT.weak {X : Cx} {e : Expr} {t t' : TT} (h : PT X e t) (w : ∀ σ H Q, t' σ H Q → t σ H Q) : PT X e t' := ⟨fun pins s σ H Q I q => h.run pins s σ H Q I (w σ H Q q)⟩
theorem _root_.L2.PS.weak {X : Cx} {e : Stmt} {t t' : TS} (h : PS X e t) (w : ∀ D σ H, t' D σ H → t D σ H) : PS X e t' := ⟨fun pins s σ H D I q => h.run pins s σ H D I (w D σ H q)⟩
theorem _root_.L2.PSs.weak {X : Cx} {e : List Stmt} {t t' : TS} (h : PSs X e t) (w : ∀ D σ H, t' D σ H → t D σ H) : PSs X e t' := ⟨fun pins s σ H D I q => h.run pins s σ H D I (w D σ H q)⟩
/-- two operands -/
def rr2 (r : R2) : List V → Hp → VK → Prop := fun vs H Q => match vs with
  | [x, y] => r x y H Q
  | _ => False
def rr1 (r : V → Hp → VK → Prop) : List V → Hp → VK → Prop := fun vs H Q => match vs with
  | [x] => r x H Q
  | _ => False
end PI

set_option linter.all false
set_option maxRecDepth 100000
set_option maxHeartbeats 1000000
/-! P4: each operation, by values. -/
namespace PI
open PySem PySem.Spec PyProof.Rows L2
theorem guardO_some {b : Bool} {d e : D} (h : guardO b d = some e) : b = true ∧ d = e := by
  unfold guardO at h
  split at h
  · rename_i hb; exact ⟨hb, Option.some.inj h⟩
  · cases h
theorem lim_line : lim = sizeLine := by rw [sizeLine_eq]; rfl
theorem lenS (s : List Nat) : (⟨s.toArray⟩ : Str).length = s.length := by simp [Str.length]
theorem appS (a b : List Nat) : (⟨a.toArray⟩ : Str) ++ (⟨b.toArray⟩ : Str) = ⟨(a ++ b).toArray⟩ := TL.ext_tl (by simp [TL.tl, TL.tl_append])
section
variable {K : PySem.W.Frag}
/-! ### + - * // % ** & | << >> -/
def rAddX (K : PySem.W.Frag) : R2 := fun x y H Q => rI0 (fun i j => .int (i + j)) x y H Q ∨ (∃ i j, x = .str i ∧ y = .str j ∧ i.length + j.length ≤ sizeLine ∧ Q (.str (i ++ j)) H) ∨ rCat x y H Q ∨ rCatA K x y H Q
theorem or_add {X : Cx} : OpR X (binaryOp .Add) (rAddX X.K) := op_add.or (op_add_str.or (op_cat.or op_catA))
theorem os_add : OpS K (opD .add) (rr2 (rAddX K)) := by
  intro G H M ds vs d Q hK hM r hd q
  subst hK
  have hd : addD ds = some d := hd
  unfold addD at hd
  split at hd
  · obtain ⟨x, y, rfl, r1, r2⟩ := r.n2
    cases hd
    exact .inl ⟨_, _, r1.int, r2.int, q _ _ (fun _ _ h => h) rfl⟩
  · obtain ⟨x, y, rfl, r1, r2⟩ := r.n2
    obtain ⟨h1, rfl⟩ := guardO_some hd
    refine .inr (.inl ⟨_, _, r1.str, r2.str, ?_, q _ _ (fun _ _ h => h) ?_⟩)
    · rw [lenS, lenS, ← lim_line]; exact of_decide_eq_true h1
    · rw [appS]; rfl
  · obtain ⟨x, y, rfl, r1, r2⟩ := r.n2
    obtain ⟨h1, rfl⟩ := guardO_some hd
    obtain ⟨a, xs, rfl, ha, ra⟩ := r1.lst
    obtain ⟨b, ys, rfl, hb, rb⟩ := r2.lst
    refine .inr (.inr (.inl ⟨a, b, xs, ys, rfl, rfl, ha, hb, ?_, fun p np => q _ _ (fun _ _ h => upd_keep np _ _ h) (Rep.newLst hM np (ra.app rb))⟩))
    rw [← ra.len, ← rb.len, ← lim_line]; exact of_decide_eq_true h1
  · obtain ⟨x, y, rfl, r1, r2⟩ := r.n2
    obtain ⟨h1, rfl⟩ := guardO_some hd
    obtain ⟨a, xs, rfl, ha, ra⟩ := r1.tup
    obtain ⟨b, ys, rfl, hb, rb⟩ := r2.tup
    refine .inr (.inr (.inr ⟨a, b, xs, ys, rfl, rfl, ha.sq, hb.sq, ?_, fun e => q _ _ (fun _ _ h => h) ⟨b, _, rfl, hb, ?_⟩, fun _ e => q _ _ (fun _ _ h => h) ⟨a, _, rfl, ha, ?_⟩,
      fun _ _ p np => q _ _ (fun _ _ h => upd_keep np _ _ h) (Rep.newTup hM np (ra.app rb))⟩))
    · rw [← ra.len, ← rb.len, ← lim_line]; exact of_decide_eq_true h1
    · have z := ra.app rb
      rw [e] at z; exact z
    · have z := ra.app rb
      rw [e, List.append_nil] at z; exact z
  · cases hd
theorem os_sub : OpS K (opD .sub) (rr2 (rI0 fun i j => .int (i - j))) := by
  intro G H M ds vs d Q hK hM r hd q
  have hd : subD ds = some d := hd
  unfold subD at hd
  split at hd
  · obtain ⟨x, y, rfl, r1, r2⟩ := r.n2
    cases hd
    exact ⟨_, _, r1.int, r2.int, q _ _ (fun _ _ h => h) rfl⟩
  · cases hd
theorem cmul_ok {i j : Int} (h : cmul i j = true) : CMul i j := by
  unfold cmul at h
  simp only [Bool.or_eq_true, Bool.and_eq_true, decide_eq_true_eq] at h
  exact h
theorem os_mul : OpS K (opD .mul) (rr2 fun x y H Q => rI CMul (fun i j => .int (i * j)) x y H Q ∨ rRep x y H Q ∨ rRepT K x y H Q) := by
  intro G H M ds vs d Q hK hM r hd q
  subst hK
  have hd : mulD ds = some d := hd
  unfold mulD at hd
  split at hd
  · obtain ⟨x, y, rfl, r1, r2⟩ := r.n2
    obtain ⟨h1, rfl⟩ := guardO_some hd
    exact .inl ⟨_, _, r1.int, r2.int, cmul_ok h1, q _ _ (fun _ _ h => h) rfl⟩
  · obtain ⟨x, y, rfl, r1, r2⟩ := r.n2
    obtain ⟨h1, rfl⟩ := guardO_some hd
    simp only [Bool.and_eq_true, decide_eq_true_eq] at h1
    obtain ⟨a, xs, rfl, ha, ra⟩ := r1.lst
    exact .inr (.inl ⟨a, _, xs, rfl, r2.int, ha, h1.1, h1.2.1, by rw [← ra.len, ← lim_line]; exact h1.2.2, fun p np => q _ _ (fun _ _ h => upd_keep np _ _ h) (Rep.newLst hM np (ra.flat _))⟩)
  · obtain ⟨x, y, rfl, r1, r2⟩ := r.n2
    obtain ⟨h1, rfl⟩ := guardO_some hd
    simp only [Bool.and_eq_true, decide_eq_true_eq, Bool.not_eq_true'] at h1
    obtain ⟨a, xs, rfl, ha, ra⟩ := r1.tup
    refine .inr (.inr ⟨a, _, xs, rfl, r2.int, ha.sq, fun e => ?_, h1.2.1, h1.2.2.1, by rw [← ra.len]; exact h1.2.2.2, fun p np => q _ _ (fun _ _ h => upd_keep np _ _ h) (Rep.newTup hM np (ra.flat _))⟩)
    have z := ra.len
    rw [e] at z
    rw [List.length_eq_zero_iff.mp z] at h1
    exact Bool.noConfusion h1.1
  · cases hd
theorem os_fdiv : OpS K (opD .fdiv) (rr2 (rI CDiv fun i j => .int (i / j))) := by
  intro G H M ds vs d Q hK hM r hd q
  have hd : fdivD ds = some d := hd
  unfold fdivD at hd
  split at hd
  · obtain ⟨x, y, rfl, r1, r2⟩ := r.n2
    obtain ⟨h1, rfl⟩ := guardO_some hd
    simp only [Bool.and_eq_true, decide_eq_true_eq] at h1
    exact ⟨_, _, r1.int, r2.int, h1, q _ _ (fun _ _ h => h) rfl⟩
  · cases hd
theorem os_mod : OpS K (opD .mod) (rr2 (rI (fun _ j => 0 < j) fun i j => .int (i % j))) := by
  intro G H M ds vs d Q hK hM r hd q
  have hd : modD ds = some d := hd
  unfold modD at hd
  split at hd
  · obtain ⟨x, y, rfl, r1, r2⟩ := r.n2
    obtain ⟨h1, rfl⟩ := guardO_some hd
    exact ⟨_, _, r1.int, r2.int, of_decide_eq_true h1, q _ _ (fun _ _ h => h) rfl⟩
  · cases hd
theorem cpow_ok {i j : Int} (h : cpow i j = true) : CPow i j := by
  unfold cpow at h
  simp only [Bool.and_eq_true, decide_eq_true_eq] at h
  exact h
theorem os_pow : OpS K (opD .pow) (rr2 (rI CPow fun i j => .int (i ^ j.toNat))) := by
  intro G H M ds vs d Q hK hM r hd q
  have hd : powD ds = some d := hd
  unfold powD at hd
  split at hd
  · obtain ⟨x, y, rfl, r1, r2⟩ := r.n2
    obtain ⟨h1, rfl⟩ := guardO_some hd
    exact ⟨_, _, r1.int, r2.int, cpow_ok h1, q _ _ (fun _ _ h => h) rfl⟩
  · cases hd
theorem os_shl : OpS K (opD .shl) (rr2 (rI CPow fun i j => .int (i * 2 ^ j.toNat))) := by
  intro G H M ds vs d Q hK hM r hd q
  have hd : shlD ds = some d := hd
  unfold shlD at hd
  split at hd
  · obtain ⟨x, y, rfl, r1, r2⟩ := r.n2
    obtain ⟨h1, rfl⟩ := guardO_some hd
    exact ⟨_, _, r1.int, r2.int, cpow_ok h1, q _ _ (fun _ _ h => h) rfl⟩
  · cases hd
theorem os_shr : OpS K (opD .shr) (rr2 (rI (fun _ j => 0 ≤ j) fun i j => .int (i / 2 ^ j.toNat))) := by
  intro G H M ds vs d Q hK hM r hd q
  have hd : shrD ds = some d := hd
  unfold shrD at hd
  split at hd
  · obtain ⟨x, y, rfl, r1, r2⟩ := r.n2
    obtain ⟨h1, rfl⟩ := guardO_some hd
    exact ⟨_, _, r1.int, r2.int, of_decide_eq_true h1, q _ _ (fun _ _ h => h) rfl⟩
  · cases hd
theorem os_band : OpS K (opD .band) (rr2 (rI0 fun i j => .int (Builtin.bitAnd i j))) := by
  intro G H M ds vs d Q hK hM r hd q
  have hd : bandD ds = some d := hd
  unfold bandD at hd
  split at hd
  · obtain ⟨x, y, rfl, r1, r2⟩ := r.n2
    cases hd
    exact ⟨_, _, r1.int, r2.int, q _ _ (fun _ _ h => h) rfl⟩
  · cases hd
theorem os_neg : OpS K (opD .neg) (rr1 (rU fun i => .int (-i))) := by
  intro G H M ds vs d Q hK hM r hd q
  have hd : negD ds = some d := hd
  unfold negD at hd
  split at hd
  · obtain ⟨x, rfl, r1⟩ := r.n1
    cases hd
    exact ⟨_, r1.int, q _ _ (fun _ _ h => h) rfl⟩
  · cases hd
theorem bitNot_eq (i : Int) : Builtin.bitNot i = -i - 1 := by
  first
    | rfl
    | (unfold Builtin.bitNot; omega)
theorem os_inv : OpS K (opD .inv) (rr1 (rU fun i => .int (Builtin.bitNot i))) := by
  intro G H M ds vs d Q hK hM r hd q
  have hd : invD ds = some d := hd
  unfold invD at hd
  split at hd
  · obtain ⟨x, rfl, r1⟩ := r.n1
    cases hd
    exact ⟨_, r1.int, q _ _ (fun _ _ h => h) (by show V.int (Builtin.bitNot _) = V.int _; rw [bitNot_eq])⟩
  · cases hd
/-! ### == != in, not in: data -/
mutual
def toPy : D → PyData
  | .non => .none
  | .bl b => .bool b
  | .int i => .int i
  | .str s => .str ⟨s.toArray⟩
  | .tup ds => .tuple (toPys ds)
  | .lst ds => .list (toPys ds)
  | _ => .none
def toPys : List D → List PyData
  | [] => []
  | d :: ds => toPy d :: toPys ds
end
mutual
theorem dp_of {G : Gm} {H : Hp} {M : Addr → Prop} : ∀ (d : D) (n : Nat) (v : V), D.okd n d = true → Rep G H M d v → Dp G.K H v (toPy d)
  | .non, _, _, _, h => by have h : _ = V.non := h; subst h; exact .non
  | .bl b, _, _, _, h => by have h : _ = V.bl b := h; subst h; exact .bl b
  | .int b, _, _, _, h => by have h : _ = V.int b := h; subst h; exact .int b
  | .str b, _, _, _, h => by have h : _ = V.str _ := h; subst h; exact .str _
  | .tup ds, n, _, ok, h => by
    obtain ⟨a, vs, e, q, r⟩ := h
    subst e
    cases n with
    | zero => simp [D.okd] at ok
    | succ n => exact .tup q.sq (dps_of ds n vs (by simpa [D.okd] using ok) r)
  | .lst ds, n, _, ok, h => by
    obtain ⟨a, vs, e, q, r⟩ := h
    subst e
    cases n with
    | zero => simp [D.okd] at ok
    | succ n => exact .lst (SqL.of q.1) (dps_of ds n vs (by simpa [D.okd] using ok) r)
  | .set _, n, _, ok, _ => by cases n <;> simp [D.okd] at ok
  | .dic _ _, n, _, ok, _ => by cases n <;> simp [D.okd] at ok
  | .fn _, n, _, ok, _ => by cases n <;> simp [D.okd] at ok
  | .lam, n, _, ok, _ => by cases n <;> simp [D.okd] at ok
  | .exc _ _, n, _, ok, _ => by cases n <;> simp [D.okd] at ok
  | .scr _, n, _, ok, _ => by cases n <;> simp [D.okd] at ok
theorem dps_of {G : Gm} {H : Hp} {M : Addr → Prop} : ∀ (ds : List D) (n : Nat) (vs : List V), (∀ d ∈ ds, D.okd n d = true) → Reps G H M ds vs → DpAll G.K H vs (toPys ds)
  | [], _, _, _, h => by have h : _ = [] := h; subst h; exact .nil
  | d :: ds, n, _, ok, h => by
    obtain ⟨v, r, e, h1, h2⟩ := h
    subst e
    exact .cons (dp_of d n v (ok d (by simp)) h1) (dps_of ds n r (fun x hx => ok x (by simp [hx])) h2)
end
theorem dpW_of {G : Gm} {H : Hp} {M : Addr → Prop} {d : D} {n : Nat} {v : V} (ok : D.okd n d = true) (h : RepW G H M d v) : Dp G.K H v (toPy d) := by
  rcases h with h | ⟨a, e, c⟩
  · exact dp_of d n v ok h
  · subst e
    cases d with
    | lst ds =>
      obtain ⟨vs, h1, h2⟩ := c
      cases n with
      | zero => simp [D.okd] at ok
      | succ n => exact .lst (SqL.of h1) (dps_of ds n vs (by simpa [D.okd] using ok) h2)
    | _ => exact c.elim
mutual
theorem plain_of : ∀ (d : D) (n : Nat), D.okd n d = true → (toPy d).plain = true ∧ (toPy d).depth ≤ n
  | .non, n, _ => ⟨rfl, Nat.zero_le _⟩
  | .bl _, n, _ => ⟨rfl, Nat.zero_le _⟩
  | .int _, n, _ => ⟨rfl, Nat.zero_le _⟩
  | .str _, n, _ => ⟨rfl, Nat.zero_le _⟩
  | .tup ds, 0, h => by simp [D.okd] at h
  | .lst ds, 0, h => by simp [D.okd] at h
  | .tup ds, n + 1, h => by
    obtain ⟨h1, h2⟩ := plains_of ds n (by simpa [D.okd] using h)
    exact ⟨h1, by show PyData.depthAll (toPys ds) + 1 ≤ n + 1; omega⟩
  | .lst ds, n + 1, h => by
    obtain ⟨h1, h2⟩ := plains_of ds n (by simpa [D.okd] using h)
    exact ⟨h1, by show PyData.depthAll (toPys ds) + 1 ≤ n + 1; omega⟩
  | .set _, n, h => ⟨rfl, Nat.zero_le _⟩
  | .dic _ _, n, h => ⟨rfl, Nat.zero_le _⟩
  | .fn _, n, h => ⟨rfl, Nat.zero_le _⟩
  | .lam, n, h => ⟨rfl, Nat.zero_le _⟩
  | .exc _ _, n, h => ⟨rfl, Nat.zero_le _⟩
  | .scr _, n, h => ⟨rfl, Nat.zero_le _⟩
theorem plains_of : ∀ (ds : List D) (n : Nat), (∀ d ∈ ds, D.okd n d = true) → PyData.plainAll (toPys ds) = true ∧ PyData.depthAll (toPys ds) ≤ n
  | [], n, _ => ⟨rfl, Nat.zero_le _⟩
  | d :: ds, n, h => by
    obtain ⟨h1, h2⟩ := plain_of d n (h d (by simp))
    obtain ⟨h3, h4⟩ := plains_of ds n (fun x hx => h x (by simp [hx]))
    exact ⟨by show (PyData.plain (toPy d) && PyData.plainAll (toPys ds)) = true; rw [h1, h3]; rfl, by show max _ _ ≤ n; omega⟩
end
theorem strEq (a b : List Nat) : ((⟨a.toArray⟩ : Str) == (⟨b.toArray⟩ : Str)) = decide (a = b) := by
  by_cases e : a = b
  · subst e; simp
  · rw [decide_eq_false e]
    refine beq_eq_false_iff_ne.mpr fun h => e ?_
    have := congrArg (fun x : Str => x.cps.toList) h
    simpa using this
mutual
theorem eqv_py : ∀ (a b : D) (n m : Nat), D.okd n a = true → D.okd m b = true → PyData.eqv (toPy a) (toPy b) = D.eqv a b
  | .non, b, n, m, ha, hb => by cases b <;> cases m <;> simp [D.okd] at hb <;> simp [toPy, PyData.eqv, D.eqv]
  | .bl x, b, n, m, ha, hb => by cases b <;> cases m <;> simp [D.okd] at hb <;> simp [toPy, PyData.eqv, D.eqv, Bool.beq_eq_decide_eq]
  | .int x, b, n, m, ha, hb => by cases b <;> cases m <;> simp [D.okd] at hb <;> simp [toPy, PyData.eqv, D.eqv, Bool.beq_eq_decide_eq]
  | .str x, b, n, m, ha, hb => by cases b <;> cases m <;> simp [D.okd] at hb <;> simp [toPy, PyData.eqv, D.eqv, strEq]
  | .tup x, b, n, m, ha, hb => by
    cases n with
    | zero => simp [D.okd] at ha
    | succ n =>
      cases b with
      | tup y =>
        cases m with
        | zero => simp [D.okd] at hb
        | succ m =>
          simp only [toPy, PyData.eqv, D.eqv]
          exact eqvs_py x y n m (by simpa [D.okd] using ha) (by simpa [D.okd] using hb)
      | _ => cases m <;> simp [D.okd] at hb <;> simp [toPy, PyData.eqv, D.eqv]
  | .lst x, b, n, m, ha, hb => by
    cases n with
    | zero => simp [D.okd] at ha
    | succ n =>
      cases b with
      | lst y =>
        cases m with
        | zero => simp [D.okd] at hb
        | succ m =>
          simp only [toPy, PyData.eqv, D.eqv]
          exact eqvs_py x y n m (by simpa [D.okd] using ha) (by simpa [D.okd] using hb)
      | _ => cases m <;> simp [D.okd] at hb <;> simp [toPy, PyData.eqv, D.eqv]
  | .set _, _, n, _, ha, _ => by cases n <;> simp [D.okd] at ha
  | .dic _ _, _, n, _, ha, _ => by cases n <;> simp [D.okd] at ha
  | .fn _, _, n, _, ha, _ => by cases n <;> simp [D.okd] at ha
  | .lam, _, n, _, ha, _ => by cases n <;> simp [D.okd] at ha
  | .exc _ _, _, n, _, ha, _ => by cases n <;> simp [D.okd] at ha
  | .scr _, _, n, _, ha, _ => by cases n <;> simp [D.okd] at ha
theorem eqvs_py : ∀ (a b : List D) (n m : Nat), (∀ d ∈ a, D.okd n d = true) → (∀ d ∈ b, D.okd m d = true) → PyData.eqvAll (toPys a) (toPys b) = D.eqvs a b
  | [], [], _, _, _, _ => rfl
  | [], _ :: _, _, _, _, _ => rfl
  | _ :: _, [], _, _, _, _ => rfl
  | a :: as, b :: bs, n, m, ha, hb => by
    simp only [toPys, PyData.eqvAll, D.eqvs]
    rw [eqv_py a b n m (ha a (by simp)) (hb b (by simp)), eqvs_py as bs n m (fun x hx => ha x (by simp [hx])) (fun x hx => hb x (by simp [hx]))]
end
def rEqP (K : PySem.W.Frag) : R2 := fun x y H Q => ∃ d e, Dp K H x d ∧ Dp K H y e ∧ d.plain = true ∧ e.plain = true ∧ min d.depth e.depth ≤ 64 ∧ Q (.bl (PyData.eqv d e)) H
def rNeP (K : PySem.W.Frag) : R2 := fun x y H Q => ∃ d e, Dp K H x d ∧ Dp K H y e ∧ d.plain = true ∧ e.plain = true ∧ min d.depth e.depth ≤ 64 ∧ Q (.bl (!PyData.eqv d e)) H
theorem or_eq {X : Cx} (hu : X.A.units + 64 < cLine) : OpR X (compareOp .Eq) (rEqP X.K) := by
  intro pins s σ H x y v u Q I rx ry h
  obtain ⟨d, e, hd, he, sd, se, hm, q⟩ := h
  obtain ⟨as, r1⟩ := Dp.reads I d x v hd rx
  obtain ⟨bs, r2⟩ := Dp.reads I e y u he ry
  exact SeqAt.eq_plain r1 r2 sd se (by omega) ⟨.bl _, H, I, rfl, q⟩
theorem or_ne {X : Cx} (hu : X.A.units + 64 < cLine) : OpR X (compareOp .NotEq) (rNeP X.K) := by
  intro pins s σ H x y v u Q I rx ry h
  obtain ⟨d, e, hd, he, sd, se, hm, q⟩ := h
  obtain ⟨as, r1⟩ := Dp.reads I d x v hd rx
  obtain ⟨bs, r2⟩ := Dp.reads I e y u he ry
  exact SeqAt.ne_plain r1 r2 sd se (by omega) ⟨.bl _, H, I, rfl, q⟩
theorem okd2 {a b : D} (h : (D.okd 60 a && D.okd 200 b || D.okd 60 b && D.okd 200 a) = true) : ∃ n m, D.okd n a = true ∧ D.okd m b = true ∧ min n m ≤ 60 := by
  simp only [Bool.or_eq_true, Bool.and_eq_true] at h
  rcases h with ⟨h1, h2⟩ | ⟨h1, h2⟩
  · exact ⟨60, 200, h1, h2, by omega⟩
  · exact ⟨200, 60, h2, h1, by omega⟩
theorem os_eq : OpS K (opD .eq) (rr2 (rEqP K)) := by
  intro G H M ds vs d Q hK hM r hd q
  subst hK
  have hd : eqD ds = some d := hd
  unfold eqD at hd
  split at hd
  · obtain ⟨x, y, rfl, r1, r2⟩ := r.n2
    obtain ⟨h1, rfl⟩ := guardO_some hd
    obtain ⟨n, m, h2, h3, h4⟩ := okd2 h1
    obtain ⟨p1, d1⟩ := plain_of _ n h2
    obtain ⟨p2, d2⟩ := plain_of _ m h3
    exact ⟨_, _, dpW_of h2 r1, dpW_of h3 r2, p1, p2, by omega, q _ _ (fun _ _ h => h) (by rw [eqv_py _ _ n m h2 h3]; rfl)⟩
  · cases hd
theorem os_ne : OpS K (opD .ne) (rr2 (rNeP K)) := by
  intro G H M ds vs d Q hK hM r hd q
  subst hK
  have hd : neD ds = some d := hd
  unfold neD at hd
  split at hd
  · obtain ⟨x, y, rfl, r1, r2⟩ := r.n2
    obtain ⟨h1, rfl⟩ := guardO_some hd
    obtain ⟨n, m, h2, h3, h4⟩ := okd2 h1
    obtain ⟨p1, d1⟩ := plain_of _ n h2
    obtain ⟨p2, d2⟩ := plain_of _ m h3
    exact ⟨_, _, dpW_of h2 r1, dpW_of h3 r2, p1, p2, by omega, q _ _ (fun _ _ h => h) (by rw [eqv_py _ _ n m h2 h3]; rfl)⟩
  · cases hd
/-! ### order -/
theorem ltN_eq : ∀ a b : List Nat, ltN a b = decide (a < b)
  | [], [] => by simp [ltN]
  | [], _ :: _ => by simp [ltN]
  | _ :: _, [] => by simp [ltN]
  | a :: as, b :: bs => by
    unfold ltN
    by_cases e : a = b
    · subst e
      rw [if_pos rfl, ltN_eq as bs]
      simp [List.cons_lt_cons_iff]
    · rw [if_neg e]
      simp [List.cons_lt_cons_iff, e]
theorem ltI_eq : ∀ a b : List Int, ltI a b = HT.lexLt a b
  | [], [] => rfl
  | [], _ :: _ => rfl
  | _ :: _, [] => rfl
  | a :: as, b :: bs => by
    unfold ltI HT.lexLt
    rw [ltI_eq as bs]
def rLtX (K : PySem.W.Frag) : R2 := fun x y H Q => rI0 (fun i j => .bl (decide (i < j))) x y H Q ∨ (∃ i j, x = .str i ∧ y = .str j ∧ Q (.bl (decide (i.cps.toList < j.cps.toList))) H) ∨ rLtT K x y H Q
theorem or_lt {X : Cx} (hu : X.A.units < cLine) : OpR X (compareOp .Lt) (rLtX X.K) := op_lt.or (op_lt_str.or (op_ltT hu))
theorem os_lt : OpS K (opD .lt) (rr2 (rLtX K)) := by
  intro G H M ds vs d Q hK hM r hd q
  subst hK
  have hd : ltD ds = some d := hd
  unfold ltD at hd
  split at hd
  · obtain ⟨x, y, rfl, r1, r2⟩ := r.n2
    cases hd
    exact .inl ⟨_, _, r1.int, r2.int, q _ _ (fun _ _ h => h) rfl⟩
  · obtain ⟨x, y, rfl, r1, r2⟩ := r.n2
    cases hd
    exact .inr (.inl ⟨_, _, r1.str, r2.str, q _ _ (fun _ _ h => h) (by rw [ltN_eq]; rfl)⟩)
  · obtain ⟨x, y, rfl, r1, r2⟩ := r.n2
    split at hd
    · rename_i lx ly e1 e2
      cases hd
      obtain ⟨a, xs, rfl, ha, ra⟩ := r1.tup
      obtain ⟨b, ys, rfl, hb, rb⟩ := r2.tup
      refine .inr (.inr ⟨a, b, lx, ly, rfl, rfl, ?_, ?_, q _ _ (fun _ _ h => h) ?_⟩)
      · rw [← ra.ints e1]; exact ha.sq
      · rw [← rb.ints e2]; exact hb.sq
      · rw [ltI_eq]; rfl
    · cases hd
  · cases hd
def rLeX : R2 := fun x y H Q => rI0 (fun i j => .bl (decide (i ≤ j))) x y H Q ∨ (∃ i j, x = .str i ∧ y = .str j ∧ Q (.bl (!decide (j.cps.toList < i.cps.toList))) H)
theorem or_le {X : Cx} : OpR X (compareOp .LtE) rLeX := op_le.or op_le_str
theorem os_le : OpS K (opD .le) (rr2 rLeX) := by
  intro G H M ds vs d Q hK hM r hd q
  have hd : leD ds = some d := hd
  unfold leD at hd
  split at hd
  · obtain ⟨x, y, rfl, r1, r2⟩ := r.n2
    cases hd
    exact .inl ⟨_, _, r1.int, r2.int, q _ _ (fun _ _ h => h) rfl⟩
  · obtain ⟨x, y, rfl, r1, r2⟩ := r.n2
    cases hd
    refine .inr ⟨_, _, r1.str, r2.str, q _ _ (fun _ _ h => h) ?_⟩
    rw [ltN_eq]
    rfl
  · cases hd
theorem os_gt : OpS K (opD .gt) (rr2 (rI0 fun i j => .bl (decide (j < i)))) := by
  intro G H M ds vs d Q hK hM r hd q
  have hd : gtD ds = some d := hd
  unfold gtD at hd
  split at hd
  · obtain ⟨x, y, rfl, r1, r2⟩ := r.n2
    cases hd
    exact ⟨_, _, r1.int, r2.int, q _ _ (fun _ _ h => h) rfl⟩
  · cases hd
theorem os_ge : OpS K (opD .ge) (rr2 (rI0 fun i j => .bl (decide (j ≤ i)))) := by
  intro G H M ds vs d Q hK hM r hd q
  have hd : geD ds = some d := hd
  unfold geD at hd
  split at hd
  · obtain ⟨x, y, rfl, r1, r2⟩ := r.n2
    cases hd
    exact ⟨_, _, r1.int, r2.int, q _ _ (fun _ _ h => h) rfl⟩
  · cases hd
/-! ### in -/
def rInP (K : PySem.W.Frag) (neg : Bool) : R2 := fun x y H Q => ∃ d ds, Dp K H x d ∧ (Dp K H y (.list ds) ∨ Dp K H y (.tuple ds)) ∧ d.plain = true ∧ PyData.plainAll ds = true ∧ d.depth ≤ 64 ∧ Q (.bl (if neg then !ds.any fun z => PyData.eqv z d else ds.any fun z => PyData.eqv z d)) H
theorem or_in {X : Cx} (hu : X.A.units + 66 < cLine) : OpR X (compareOp .In) (rInP X.K false) := by
  intro pins s σ H x y v u Q I rx ry h
  obtain ⟨d, ds, hd, hc, p1, p2, hm, q⟩ := h
  obtain ⟨as, r1⟩ := Dp.reads I d x v hd rx
  rcases hc with hc | hc
  · obtain ⟨bs, r2⟩ := Dp.reads I _ y u hc ry
    exact SeqAt.in_list_data r2 r1 p2 p1 (by omega) ⟨.bl _, H, I, rfl, q⟩
  · obtain ⟨bs, r2⟩ := Dp.reads I _ y u hc ry
    exact SeqAt.in_tuple_data r2 r1 p2 p1 (by omega) ⟨.bl _, H, I, rfl, q⟩
theorem or_notin {X : Cx} (hu : X.A.units + 66 < cLine) : OpR X (compareOp .NotIn) (rInP X.K true) := by
  intro pins s σ H x y v u Q I rx ry h
  obtain ⟨d, ds, hd, hc, p1, p2, hm, q⟩ := h
  obtain ⟨as, r1⟩ := Dp.reads I d x v hd rx
  rcases hc with hc | hc
  · obtain ⟨bs, r2⟩ := Dp.reads I _ y u hc ry
    exact SeqAt.notIn_list_data r2 r1 p2 p1 (by omega) ⟨.bl _, H, I, rfl, q⟩
  · obtain ⟨bs, r2⟩ := Dp.reads I _ y u hc ry
    exact SeqAt.notIn_tuple_data r2 r1 p2 p1 (by omega) ⟨.bl _, H, I, rfl, q⟩
theorem any_py {n m : Nat} {x : D} (hx : D.okd n x = true) : ∀ {ds : List D}, (∀ d ∈ ds, D.okd m d = true) → ((toPys ds).any fun z => PyData.eqv z (toPy x)) = ds.any fun y => D.eqv y x
  | [], _ => rfl
  | d :: ds, h => by
    simp only [toPys, List.any_cons]
    rw [eqv_py d x m n (h d (by simp)) hx, any_py hx fun y hy => h y (by simp [hy])]
theorem inB_ok {G : Gm} {H : Hp} {M : Addr → Prop} {a b : D} {x y : V} {r : Bool} (h : inB a b = some r) (r1 : RepW G H M a x) (r2 : RepW G H M b y) :
    ∃ d ds, Dp G.K H x d ∧ (Dp G.K H y (.list ds) ∨ Dp G.K H y (.tuple ds)) ∧ d.plain = true ∧ PyData.plainAll ds = true ∧ d.depth ≤ 64 ∧ (ds.any fun z => PyData.eqv z d) = r := by
  unfold inB at h
  split at h
  · split at h
    · rename_i ds hc
      simp only [Bool.and_eq_true, List.all_eq_true] at hc
      cases h
      obtain ⟨p1, d1⟩ := plain_of _ 60 hc.1
      obtain ⟨p2, d2⟩ := plains_of _ 200 hc.2
      exact ⟨_, _, dpW_of hc.1 r1, .inl (dpW_of (n := 201) (d := .lst ds) (by simpa [D.okd] using hc.2) r2), p1, p2, by omega, any_py hc.1 hc.2⟩
    · cases h
  · split at h
    · rename_i ds hc
      simp only [Bool.and_eq_true, List.all_eq_true] at hc
      cases h
      obtain ⟨p1, d1⟩ := plain_of _ 60 hc.1
      obtain ⟨p2, d2⟩ := plains_of _ 200 hc.2
      exact ⟨_, _, dpW_of hc.1 r1, .inr (dpW_of (n := 201) (d := .tup ds) (by simpa [D.okd] using hc.2) r2), p1, p2, by omega, any_py hc.1 hc.2⟩
    · cases h
  · cases h
theorem os_in : OpS K (opD .isin) (rr2 (rInP K false)) := by
  intro G H M ds vs d Q hK hM r hd q
  subst hK
  have hd : inD ds = some d := hd
  unfold inD at hd
  split at hd
  · obtain ⟨x, y, rfl, r1, r2⟩ := r.n2
    obtain ⟨b, h1, rfl⟩ := Option.map_eq_some_iff.mp hd
    obtain ⟨e, es, h2, h3, h4, h5, h6, h7⟩ := inB_ok h1 r1 r2
    exact ⟨e, es, h2, h3, h4, h5, h6, q _ _ (fun _ _ h => h) (by rw [if_neg Bool.false_ne_true, h7]; rfl)⟩
  · cases hd
theorem os_notin : OpS K (opD .notin) (rr2 (rInP K true)) := by
  intro G H M ds vs d Q hK hM r hd q
  subst hK
  have hd : notinD ds = some d := hd
  unfold notinD at hd
  split at hd
  · obtain ⟨x, y, rfl, r1, r2⟩ := r.n2
    obtain ⟨b, h1, rfl⟩ := Option.map_eq_some_iff.mp hd
    obtain ⟨e, es, h2, h3, h4, h5, h6, h7⟩ := inB_ok h1 r1 r2
    exact ⟨e, es, h2, h3, h4, h5, h6, q _ _ (fun _ _ h => h) (by rw [if_pos rfl, h7]; rfl)⟩
  · cases hd
/-! ### is -/
theorem RepW.isNon {G : Gm} {H : Hp} {M : Addr → Prop} {d : D} {v : V} (r : RepW G H M d v) : decide (v = .non) = d.isNon := by
  rcases r with r | ⟨a, e, c⟩
  · cases d with
    | non => have r : v = _ := r; subst r; rfl
    | bl _ => have r : v = _ := r; subst r; rfl
    | int _ => have r : v = _ := r; subst r; rfl
    | str _ => have r : v = _ := r; subst r; rfl
    | tup _ => obtain ⟨_, _, e, _⟩ := r; subst e; rfl
    | lst _ => obtain ⟨_, _, e, _⟩ := r; subst e; rfl
    | set _ => obtain ⟨_, _, e, _⟩ := r; subst e; rfl
    | dic _ _ => exact r.elim
    | fn _ => have r : v = _ := r; subst r; rfl
    | lam => obtain ⟨_, _, e⟩ := r; subst e; rfl
    | exc _ _ => obtain ⟨_, _, e, _⟩ := r; subst e; rfl
    | scr _ => obtain ⟨_, e, _⟩ := r; subst e; rfl
  · subst e
    cases d with
    | lst _ => rfl
    | _ => exact c.elim
theorem os_isn : OpS K (opD .isn) (rr1 fun x H Q => V.non = V.non ∧ Q (.bl (decide (x = .non))) H) := by
  intro G H M ds vs d Q hK hM r hd q
  have hd : isnD ds = some d := hd
  unfold isnD at hd
  split at hd
  · obtain ⟨x, rfl, r1⟩ := r.n1
    cases hd
    exact ⟨rfl, q _ _ (fun _ _ h => h) (by rw [r1.isNon]; rfl)⟩
  · cases hd
theorem os_isnn : OpS K (opD .isnn) (rr1 fun x H Q => V.non = V.non ∧ Q (.bl (!decide (x = .non))) H) := by
  intro G H M ds vs d Q hK hM r hd q
  have hd : isnnD ds = some d := hd
  unfold isnnD at hd
  split at hd
  · obtain ⟨x, rfl, r1⟩ := r.n1
    cases hd
    exact ⟨rfl, q _ _ (fun _ _ h => h) (by rw [r1.isNon]; rfl)⟩
  · cases hd
theorem os_isb (b : Bool) : OpS K (opD (.isb b)) (rr1 fun x H Q => rIsB x (.bl b) H Q) := by
  intro G H M ds vs d Q hK hM r hd q
  have hd : isbD b ds = some d := hd
  unfold isbD at hd
  split at hd
  · obtain ⟨x, rfl, r1⟩ := r.n1
    cases hd
    exact ⟨_, _, r1.bl, rfl, q _ _ (fun _ _ h => h) (by rw [Bool.beq_eq_decide_eq]; rfl)⟩
  · cases hd
theorem os_isnb (b : Bool) : OpS K (opD (.isnb b)) (rr1 fun x H Q => rNotB x (.bl b) H Q) := by
  intro G H M ds vs d Q hK hM r hd q
  have hd : isnbD b ds = some d := hd
  unfold isnbD at hd
  split at hd
  · obtain ⟨x, rfl, r1⟩ := r.n1
    cases hd
    exact ⟨_, _, r1.bl, rfl, q _ _ (fun _ _ h => h) (by rw [Bool.beq_eq_decide_eq]; rfl)⟩
  · cases hd
/-! ### displays -/
theorem oz_tup : OpZ K (opD .tup) (fun xs H Q => xs.length ≤ sizeLine ∧ ∀ p, H p = none → Q (.ref p) (upd H p (.tup xs))) := by
  intro G H M ds vs d Q hK hM r hd q
  obtain ⟨h1, rfl⟩ := guardO_some hd
  exact ⟨by rw [← r.len, ← lim_line]; exact of_decide_eq_true h1, fun p np => q _ _ (fun _ _ h => upd_keep np _ _ h) (Rep.newTup hM np r)⟩
theorem oz_lst : OpZ K (opD .lst) (fun xs H Q => xs.length ≤ sizeLine ∧ ∀ p, H p = none → Q (.ref p) (upd H p (.lst xs))) := by
  intro G H M ds vs d Q hK hM r hd q
  obtain ⟨h1, rfl⟩ := guardO_some hd
  exact ⟨by rw [← r.len, ← lim_line]; exact of_decide_eq_true h1, fun p np => q _ _ (fun _ _ h => upd_keep np _ _ h) (Rep.newLst hM np r)⟩
/-! ### items, slices -/
theorem Reps.atI {G : Gm} {H : Hp} {M : Addr → Prop} {ds : List D} {vs : List V} {i : Int} {d : D} (r : Reps G H M ds vs) (h : L2.atI ds i = some d) : ∃ v, L2.atI vs i = some v ∧ Rep G H M d v := by
  unfold L2.atI at h ⊢
  rw [← r.len]
  cases e : ixN ds.length i with
  | none => rw [e] at h; cases h
  | some j =>
    rw [e] at h
    exact r.get h
theorem os_item : OpS K (opD .item) (rr2 (rIx K)) := by
  intro G H M ds vs d Q hK hM r hd q
  subst hK
  have hd : itemD ds = some d := hd
  unfold itemD at hd
  split at hd
  · obtain ⟨x, y, rfl, r1, r2⟩ := r.n2
    obtain ⟨a, xs, rfl, ha, ra⟩ := r1.lst
    obtain ⟨v, h1, h2⟩ := ra.atI hd
    exact .inl ⟨a, xs, _, v, rfl, r2.int, SqL.of ha, h1, q _ _ (fun _ _ h => h) h2⟩
  · obtain ⟨x, y, rfl, r1, r2⟩ := r.n2
    obtain ⟨a, xs, rfl, ha, ra⟩ := r1.tup
    obtain ⟨v, h1, h2⟩ := ra.atI hd
    exact .inr (.inl ⟨a, xs, _, v, rfl, r2.int, ha.sq, h1, q _ _ (fun _ _ h => h) h2⟩)
  · obtain ⟨x, y, rfl, r1, r2⟩ := r.n2
    split at hd
    · rename_i hl
      obtain ⟨c, h1, rfl⟩ := Option.map_eq_some_iff.mp hd
      exact .inr (.inr ⟨_, _, c, r1.str, r2.int, by rw [lenS, ← lim_line]; exact hl, by simpa using h1, q _ _ (fun _ _ h => h) rfl⟩)
    · cases hd
  · cases hd
theorem cut_len {α : Type} (xs : List α) (lo hi : Option Int) : (cut xs lo hi).length ≤ xs.length := by
  unfold cut
  rw [List.length_take, List.length_drop]
  omega
theorem Reps.cut {G : Gm} {H : Hp} {M : Addr → Prop} {ds : List D} {vs : List V} (r : Reps G H M ds vs) (lo hi : Option Int) : Reps G H M (PI.cut ds lo hi) (cutV vs lo hi) := by
  unfold PI.cut cutV
  rw [r.len]
  exact (r.drop _).take _
def rSlX (K : PySem.W.Frag) : V → Option Int → Option Int → Hp → VK → Prop := fun x lo hi H Q => rSlL K x lo hi H Q ∨ rSlA K x lo hi H Q ∨ rSlS x lo hi H Q
theorem sr_sl {X : Cx} : SlR X (rSlX X.K) := sl_list.or (sl_tupA.or sl_str)
end
end PI

set_option linter.all false
set_option maxRecDepth 100000
set_option maxHeartbeats 1000000
/-! P5: more operations, by values. -/
namespace PI
open PySem PySem.Spec PyProof.Rows L2
section
variable {K : PySem.W.Frag}
/-- a slice's parts -/
def SlS (K : PySem.W.Frag) : Prop := ∀ (G : Gm) (H : Hp) (M : Addr → Prop) (e d : D) (x : V) (lo hi : Option Int) (Q : VK), G.K = K → (∀ a, M a → H a ≠ none) → RepW G H M e x → slX e lo hi = some d →
    (∀ v H', (∀ a o, H a = some o → H' a = some o) → Rep G H' M d v → Q v H') → rSlX K x lo hi H Q
theorem cutS_eq (s : List Nat) (lo hi : Option Int) : cutS ⟨s.toArray⟩ lo hi = ⟨(cut s lo hi).toArray⟩ := by
  unfold cutS cut
  simp [Str.length]
theorem ss_sl : SlS K := by
  intro G H M e d x lo hi Q hK hM r hd q
  subst hK
  unfold slX at hd
  split at hd
  · cases hd
    obtain ⟨a, xs, rfl, ha, ra⟩ := r.lst
    exact .inl ⟨a, xs, rfl, SqL.of ha, fun p np => q _ _ (fun _ _ h => upd_keep np _ _ h) (Rep.newLst hM np (ra.cut lo hi))⟩
  · cases hd
    obtain ⟨a, xs, rfl, ha, ra⟩ := r.tup
    refine .inr (.inl ⟨a, xs, rfl, ha.sq, fun ⟨h1, h2⟩ => q _ _ (fun _ _ h => h) ⟨a, xs, rfl, ha, ?_⟩, fun _ p np => q _ _ (fun _ _ h => upd_keep np _ _ h) (Rep.newTup hM np (ra.cut lo hi))⟩)
    have z := ra.cut lo hi
    have e : cutV xs lo hi = xs := by
      unfold cutV
      rw [h1, h2]; simp
    rw [e] at z; exact z
  · obtain ⟨h1, rfl⟩ := guardO_some hd
    refine .inr (.inr ⟨_, r.str, by rw [lenS, ← lim_line]; exact of_decide_eq_true h1, q _ _ (fun _ _ h => h) ?_⟩)
    rw [cutS_eq]; rfl
  · cases hd
theorem os_len : OpS K (opD .len) (fun xs H Q => ∃ x n, xs = [x] ∧ LenV K x H n ∧ Q (.int n) H) := by
  intro G H M ds vs d Q hK hM r hd q
  subst hK
  have hd : lenD ds = some d := hd
  unfold lenD at hd
  split at hd
  · obtain ⟨x, rfl, r1⟩ := r.n1
    cases hd
    obtain ⟨a, xs, rfl, ha, ra⟩ := r1.lst
    exact ⟨_, _, rfl, .inl ⟨xs, SqL.of ha, ra.len⟩, q _ _ (fun _ _ h => h) rfl⟩
  · obtain ⟨x, rfl, r1⟩ := r.n1
    cases hd
    obtain ⟨a, xs, rfl, ha, ra⟩ := r1.tup
    exact ⟨_, _, rfl, .inr ⟨xs, ha.sq, ra.len⟩, q _ _ (fun _ _ h => h) rfl⟩
  · obtain ⟨x, rfl, r1⟩ := r.n1
    obtain ⟨h1, rfl⟩ := guardO_some hd
    rw [r1.str]
    exact ⟨_, _, rfl, ⟨by rw [lenS, ← lim_line]; exact of_decide_eq_true h1, (lenS _).symm⟩, q _ _ (fun _ _ h => h) rfl⟩
  · cases hd
theorem os_abs : OpS K (opD .abs) (fun xs H Q => ∃ i, xs = [.int i] ∧ Q (.int (if i < 0 then -i else i)) H) := by
  intro G H M ds vs d Q hK hM r hd q
  have hd : absD ds = some d := hd
  unfold absD at hd
  split at hd
  · obtain ⟨x, rfl, r1⟩ := r.n1
    cases hd
    rw [r1.int]
    exact ⟨_, rfl, q _ _ (fun _ _ h => h) rfl⟩
  · cases hd
theorem os_int1 : OpS K (opD .int1) (fun xs H Q => (∃ i, xs = [.int i] ∧ Q (.int i) H) ∨ ∃ k, xs = [.bl k] ∧ Q (.int (if k then 1 else 0)) H) := by
  intro G H M ds vs d Q hK hM r hd q
  have hd : int1D ds = some d := hd
  unfold int1D at hd
  split at hd
  · obtain ⟨x, rfl, r1⟩ := r.n1
    cases hd
    rw [r1.int]
    exact .inl ⟨_, rfl, q _ _ (fun _ _ h => h) rfl⟩
  · obtain ⟨x, rfl, r1⟩ := r.n1
    cases hd
    rw [r1.bl]
    exact .inr ⟨_, rfl, q _ _ (fun _ _ h => h) rfl⟩
  · cases hd
theorem os_max2 : OpS K (opD .max2) (fun xs H Q => ∃ i j, xs = [.int i, .int j] ∧ Q (.int (if j > i then j else i)) H) := by
  intro G H M ds vs d Q hK hM r hd q
  have hd : max2D ds = some d := hd
  unfold max2D at hd
  split at hd
  · obtain ⟨x, y, rfl, r1, r2⟩ := r.n2
    cases hd
    rw [r1.int, r2.int]
    exact ⟨_, _, rfl, q _ _ (fun _ _ h => h) rfl⟩
  · cases hd
theorem os_min2 : OpS K (opD .min2) (fun xs H Q => ∃ i j, xs = [.int i, .int j] ∧ Q (.int (if j < i then j else i)) H) := by
  intro G H M ds vs d Q hK hM r hd q
  have hd : min2D ds = some d := hd
  unfold min2D at hd
  split at hd
  · obtain ⟨x, y, rfl, r1, r2⟩ := r.n2
    cases hd
    rw [r1.int, r2.int]
    exact ⟨_, _, rfl, q _ _ (fun _ _ h => h) rfl⟩
  · cases hd
theorem os_sum : OpS K (opD .sum) (rSum K) := by
  intro G H M ds vs d Q hK hM r hd q
  subst hK
  have hd : sumD ds = some d := hd
  unfold sumD at hd
  split at hd
  · obtain ⟨x, rfl, r1⟩ := r.n1
    obtain ⟨l, h1, rfl⟩ := Option.map_eq_some_iff.mp hd
    obtain ⟨a, xs, rfl, ha, ra⟩ := r1.lst
    exact ⟨a, l, rfl, by rw [← ra.ints h1]; exact SqL.of ha, q _ _ (fun _ _ h => h) rfl⟩
  · cases hd
theorem foldl_max : ∀ (l : List Int) (a : Int), l.foldl max a ∈ a :: l ∧ ∀ y ∈ a :: l, y ≤ l.foldl max a
  | [], a => ⟨by simp, by simp⟩
  | b :: l, a => by
    obtain ⟨h1, h2⟩ := foldl_max l (max a b)
    rw [List.foldl_cons]
    refine ⟨?_, fun y hy => ?_⟩
    · rcases List.mem_cons.mp h1 with h | h
      · rw [h]
        rcases Int.le_total a b with q | q
        · rw [Int.max_eq_right q]; simp
        · rw [Int.max_eq_left q]; simp
      · simp [h]
    · have hm := h2 (max a b) (by simp)
      simp only [List.mem_cons] at hy
      rcases hy with rfl | rfl | hy
      · omega
      · omega
      · exact h2 y (by simp [hy])
theorem foldl_min : ∀ (l : List Int) (a : Int), l.foldl min a ∈ a :: l ∧ ∀ y ∈ a :: l, l.foldl min a ≤ y
  | [], a => ⟨by simp, by simp⟩
  | b :: l, a => by
    obtain ⟨h1, h2⟩ := foldl_min l (min a b)
    rw [List.foldl_cons]
    refine ⟨?_, fun y hy => ?_⟩
    · rcases List.mem_cons.mp h1 with h | h
      · rw [h]
        rcases Int.le_total a b with q | q
        · rw [Int.min_eq_left q]; simp
        · rw [Int.min_eq_right q]; simp
      · simp [h]
    · have hm := h2 (min a b) (by simp)
      simp only [List.mem_cons] at hy
      rcases hy with rfl | rfl | hy
      · omega
      · omega
      · exact h2 y (by simp [hy])
theorem os_max1 : OpS K (opD .max1) (rMax K) := by
  intro G H M ds vs d Q hK hM r hd q
  subst hK
  have hd : max1D ds = some d := hd
  unfold max1D at hd
  split at hd
  · obtain ⟨x, rfl, r1⟩ := r.n1
    obtain ⟨l, h1, h2⟩ := Option.bind_eq_some_iff.mp hd
    obtain ⟨m, h3, rfl⟩ := Option.map_eq_some_iff.mp h2
    obtain ⟨a, xs, rfl, ha, ra⟩ := r1.lst
    cases l with
    | nil => cases h3
    | cons b l =>
      cases h3
      obtain ⟨m1, m2⟩ := foldl_max l b
      refine ⟨a, b :: l, rfl, by rw [← ra.ints h1]; exact SqL.of ha, by simp, fun m hm hy => ?_⟩
      have e : m = l.foldl max b := Int.le_antisymm (m2 m hm) (hy _ m1)
      rw [e]
      exact q _ _ (fun _ _ h => h) rfl
  · cases hd
theorem os_min1 : OpS K (opD .min1) (rMin K) := by
  intro G H M ds vs d Q hK hM r hd q
  subst hK
  have hd : min1D ds = some d := hd
  unfold min1D at hd
  split at hd
  · obtain ⟨x, rfl, r1⟩ := r.n1
    obtain ⟨l, h1, h2⟩ := Option.bind_eq_some_iff.mp hd
    obtain ⟨m, h3, rfl⟩ := Option.map_eq_some_iff.mp h2
    obtain ⟨a, xs, rfl, ha, ra⟩ := r1.lst
    cases l with
    | nil => cases h3
    | cons b l =>
      cases h3
      obtain ⟨m1, m2⟩ := foldl_min l b
      refine ⟨a, b :: l, rfl, by rw [← ra.ints h1]; exact SqL.of ha, by simp, fun m hm hy => ?_⟩
      have e : m = l.foldl min b := Int.le_antisymm (hy _ m1) (m2 m hm)
      rw [e]
      exact q _ _ (fun _ _ h => h) rfl
  · cases hd
theorem os_all : OpS K (opD .all) (rAll K) := by
  intro G H M ds vs d Q hK hM r hd q
  subst hK
  have hd : allD ds = some d := hd
  unfold allD at hd
  split at hd
  · obtain ⟨x, rfl, r1⟩ := r.n1
    obtain ⟨l, h1, rfl⟩ := Option.map_eq_some_iff.mp hd
    obtain ⟨a, xs, rfl, ha, ra⟩ := r1.lst
    exact ⟨a, l, rfl, by rw [← ra.bls h1]; exact SqL.of ha, q _ _ (fun _ _ h => h) rfl⟩
  · cases hd
theorem os_any : OpS K (opD .any) (rAny K) := by
  intro G H M ds vs d Q hK hM r hd q
  subst hK
  have hd : anyD ds = some d := hd
  unfold anyD at hd
  split at hd
  · obtain ⟨x, rfl, r1⟩ := r.n1
    obtain ⟨l, h1, rfl⟩ := Option.map_eq_some_iff.mp hd
    obtain ⟨a, xs, rfl, ha, ra⟩ := r1.lst
    exact ⟨a, l, rfl, by rw [← ra.bls h1]; exact SqL.of ha, q _ _ (fun _ _ h => h) rfl⟩
  · cases hd
theorem os_tuple : OpS K (opD .tuple) (fun xs H Q => ∃ p ys, xs = [.ref p] ∧ ((SqL K H p ys ∧ ∀ l, H l = none → Q (.ref l) (upd H l (.tup ys))) ∨ (SqT K H p ys ∧ Q (.ref p) H))) := by
  intro G H M ds vs d Q hK hM r hd q
  subst hK
  have hd : tupleD ds = some d := hd
  unfold tupleD at hd
  split at hd
  · obtain ⟨x, rfl, r1⟩ := r.n1
    cases hd
    obtain ⟨a, xs, rfl, ha, ra⟩ := r1.lst
    exact ⟨a, xs, rfl, .inl ⟨SqL.of ha, fun p np => q _ _ (fun _ _ h => upd_keep np _ _ h) (Rep.newTup hM np ra)⟩⟩
  · obtain ⟨x, rfl, r1⟩ := r.n1
    cases hd
    obtain ⟨a, xs, rfl, ha, ra⟩ := r1.tup
    exact ⟨a, xs, rfl, .inr ⟨ha.sq, q _ _ (fun _ _ h => h) ⟨a, xs, rfl, ha, ra⟩⟩⟩
  · cases hd
theorem os_list : OpS K (opD .list) (fun xs H Q => ∃ p ys, xs = [.ref p] ∧ (SqL K H p ys ∨ SqT K H p ys) ∧ ∀ l, H l = none → Q (.ref l) (upd H l (.lst ys))) := by
  intro G H M ds vs d Q hK hM r hd q
  subst hK
  have hd : listD ds = some d := hd
  unfold listD at hd
  split at hd
  · obtain ⟨x, rfl, r1⟩ := r.n1
    cases hd
    obtain ⟨a, xs, rfl, ha, ra⟩ := r1.lst
    exact ⟨a, xs, rfl, .inl (SqL.of ha), fun p np => q _ _ (fun _ _ h => upd_keep np _ _ h) (Rep.newLst hM np ra)⟩
  · obtain ⟨x, rfl, r1⟩ := r.n1
    cases hd
    obtain ⟨a, xs, rfl, ha, ra⟩ := r1.tup
    exact ⟨a, xs, rfl, .inr ha.sq, fun p np => q _ _ (fun _ _ h => upd_keep np _ _ h) (Rep.newLst hM np ra)⟩
  · obtain ⟨x, rfl, r1⟩ := r.n1
    cases hd
    rcases r1 with ⟨a, rfl, ha⟩ | ⟨a, _, c⟩
    · exact ⟨a, _, rfl, .inl ha.sq, fun p np => q _ _ (fun _ _ h => upd_keep np _ _ h) (Rep.newLst hM np (Reps.ofInts _))⟩
    · exact c.elim
  · cases hd
/-! ### isinstance -/
def sortN : Nat → String
  | 0 => "NoneType"
  | 1 => "bool"
  | 2 => "int"
  | 3 => "str"
  | 4 => "tuple"
  | _ => "list"
theorem TpM.ty {G : Gm} {H : Hp} {M : Addr → Prop} {a : Addr} {xs : List V} (h : TpM G.K H M a xs) : TyX G.K H (.ref a) (.type "tuple") := by
  rcases h with ⟨h | ⟨o, h⟩, _⟩ | ⟨o, its, n, h1, h2, _⟩
  · exact .base (.tup h)
  · exact .fTuple h
  · exact .kTuple h1 h2
theorem sort_ty {G : Gm} {H : Hp} {M : Addr → Prop} {d : D} {v : V} {n : Nat} (r : RepW G H M d v) (h : sort? d = some n) : TyX G.K H v (.type (sortN n)) := by
  cases d with
  | non => cases h; rw [r.non]; exact .base .non
  | bl b => cases h; rw [r.bl]; exact .base (.bl _)
  | int b => cases h; rw [r.int]; exact .base (.int _)
  | str b => cases h; rw [r.str]; exact .base (.str _)
  | tup ds => cases h; obtain ⟨a, xs, rfl, ha, _⟩ := r.tup; exact ha.ty
  | lst ds => cases h; obtain ⟨a, xs, rfl, ha, _⟩ := r.lst; exact .base (.lst ha)
  | _ => cases h
theorem sort_le {d : D} {n : Nat} (h : sort? d = some n) : n ≤ 5 := by cases d <;> simp [sort?] at h <;> omega
/-- the number of the class that is asked, its name -/
theorem kitB_sort : ∀ n k : Nat, n ≤ 5 → 1 ≤ k → k ≤ 5 → kitB (sortN n) (sortN k) = some (n == k || (n == 1 && k == 2)) := by
  intro n k hn hk1 hk
  have : (n = 0 ∨ n = 1 ∨ n = 2 ∨ n = 3 ∨ n = 4 ∨ n = 5) ∧ (k = 1 ∨ k = 2 ∨ k = 3 ∨ k = 4 ∨ k = 5) := by omega
  obtain ⟨h1, h2⟩ := this
  rcases h1 with rfl | rfl | rfl | rfl | rfl | rfl <;> rcases h2 with rfl | rfl | rfl | rfl | rfl <;> decide +kernel
theorem os_isi {o : Op} {k : Nat} (ho : opD o = isiD k) (hk1 : 1 ≤ k) (hk : k ≤ 5) : OpS K (opD o) (rr1 fun x H Q => rIsi K [x, .ty (sortN k)] H Q) := by
  intro G H M ds vs d Q hK hM r hd q
  subst hK
  rw [ho] at hd
  unfold isiD at hd
  split at hd
  · obtain ⟨x, rfl, r1⟩ := r.n1
    obtain ⟨n, h1, rfl⟩ := Option.map_eq_some_iff.mp hd
    exact ⟨x, _, _, _, _, rfl, .ty _, sort_ty r1 h1, kit_ty (kitB_sort n k (sort_le h1) hk1 hk), q _ _ (fun _ _ h => h) rfl⟩
  · cases hd
/-! ### truth -/
theorem truB_ok {G : Gm} {H : Hp} {M : Addr → Prop} {e : D} {x : V} {b : Bool} (r1 : RepW G H M e x) (h1 : truB e = some b) : TruV G.K x H b := by
  cases e with
  | non => cases h1; rw [r1.non]; rfl
  | bl b => cases h1; rw [r1.bl]; rfl
  | int b =>
    cases h1; rw [r1.int]
    show decide (b ≠ 0) = (b != 0)
    simp [bne, Bool.beq_eq_decide_eq]
  | tup ds =>
    cases h1
    obtain ⟨a, xs, rfl, ha, ra⟩ := r1.tup
    refine .inr (.inl ⟨xs, ha.sq, ?_⟩)
    have := ra.len
    cases ds <;> cases xs <;> simp_all
  | lst ds =>
    cases h1
    obtain ⟨a, xs, rfl, ha, ra⟩ := r1.lst
    refine .inl ⟨xs, SqL.of ha, ?_⟩
    have := ra.len
    cases ds <;> cases xs <;> simp_all
  | _ => cases h1
theorem os_tru : OpS K (opD .tru) (rr1 fun x H Q => ∃ k, TruV K x H k ∧ Q (.bl k) H) := by
  intro G H M ds vs d Q hK hM r hd q
  subst hK
  have hd : truD ds = some d := hd
  unfold truD at hd
  split at hd
  · obtain ⟨x, rfl, r1⟩ := r.n1
    obtain ⟨b, h1, rfl⟩ := Option.map_eq_some_iff.mp hd
    exact ⟨b, truB_ok r1 h1, q _ _ (fun _ _ h => h) rfl⟩
  · cases hd
/-! ### join -/
theorem joinN_eq (sep : List Nat) : ∀ l : List (List Nat), joinN sep l = TL.joinL sep l
  | [] => rfl
  | [_] => rfl
  | a :: b :: r => by
    unfold joinN TL.joinL
    rw [joinN_eq sep (b :: r), List.append_assoc]
theorem txtJoin (sep : List Nat) (l : List (List Nat)) : Txt.join ⟨sep.toArray⟩ (l.map fun s => (⟨s.toArray⟩ : Str)) = ⟨(joinN sep l).toArray⟩ := by
  rw [joinN_eq]
  exact SX.join_S sep l
theorem joinN_len (sep : List Nat) : ∀ l : List (List Nat), (l.map (·.length)).sum + l.length * sep.length ≤ (joinN sep l).length + sep.length
  | [] => by simp [joinN]
  | [a] => by simp [joinN]
  | a :: b :: r => by
    have ih := joinN_len sep (b :: r)
    unfold joinN
    simp only [List.map_cons, List.sum_cons, List.length_cons, List.length_append] at ih ⊢
    have e1 : (r.length + 1 + 1) * sep.length = (r.length + 1) * sep.length + sep.length := by rw [Nat.add_mul, Nat.one_mul]
    rw [e1]
    omega
def rJoinX (K : PySem.W.Frag) : R2 := fun x y H Q => tyV K "str" x H ∧ ∃ a p, ∃ ys : List Str, x = .str a ∧ y = .ref p ∧ (SqL K H p (ys.map V.str) ∨ SqT K H p (ys.map V.str)) ∧
    (ys.map (·.length)).sum + ys.length * a.length ≤ 16777216 ∧ Q (.str (Txt.join a ys)) H
theorem mapS (l : List (List Nat)) : (l.map fun s => V.str ⟨s.toArray⟩) = (l.map fun s => (⟨s.toArray⟩ : Str)).map V.str := by rw [List.map_map]; rfl
end
end PI

set_option linter.all false
set_option maxRecDepth 100000
set_option maxHeartbeats 2000000
/-! P5b: x[::-1], x a list or a tuple. -/
namespace PI
open PySem PySem.Spec PyProof.Rows L2
section
variable {prog : Program} {w : World} {A : Around} {E : Value → Shared → Prop} {s : Shared}
theorem adjust_rev (n : Nat) : Builtin.Slice.sliceAdjust none none (-1) (n : Int) = ((n : Int) - 1, -1) := by
  first
  | rfl
  | simp [Builtin.Slice.sliceAdjust]
theorem places_rev (n : Nat) : Builtin.Slice.slicePlaces ((n : Int) - 1) (-1) (-1) = n := by
  unfold Builtin.Slice.slicePlaces
  have h1 : ¬ ((-1 : Int) > 0) := by decide
  simp only [h1, if_false, show (- -1 : Int) = 1 from by decide, Int.ediv_one]
  split <;> omega
theorem sliceApplied_rev {sl : Addr} {vs : Value} {n : Nat} {Q : Int × Int × Nat → Shared → Prop} (hs : s.heap.IsSliceOf sl .none .none vs) (ps : IsPart vs (some (-1)))
    (h : Q ((n : Int) - 1, -1, n) s) : wpAny (model prog w) A (Builtin.Slice.sliceApplied (.ref sl) (pure (n : Int))) Q E s := by
  obtain ⟨os, hos, hcs, hds⟩ := id hs
  unfold Builtin.Slice.sliceApplied Builtin.Slice.sliceFields
  refine wpAny_bind (wpAny_bind (wpAny_field hos hds (x := .none) rfl (wpAny_bind (wpAny_field hos hds (x := .none) rfl (wpAny_bind (wpAny_field hos hds (x := vs) rfl (wpAny_pure ?_)))))))
  refine wpAny_bind (HT.slicePart_ ps ?_)
  show wpAny _ _ (if ((-1 : Int) == 0) = true then _ else _) _ _ s
  rw [if_neg (by decide)]
  refine wpAny_bind (slicePart_none (wpAny_bind (slicePart_none (wpAny_bind (wpAny_pure ?_)))))
  show wpAny _ _ (match Builtin.Slice.sliceAdjust none none (-1) (n : Int) with | (lo, hi) => pure (lo, (-1 : Int), Builtin.Slice.slicePlaces lo hi (-1))) _ _ s
  rw [adjust_rev n]
  show wpAny _ _ (pure ((n : Int) - 1, (-1 : Int), Builtin.Slice.slicePlaces ((n : Int) - 1) (-1) (-1))) _ _ s
  rw [places_rev]
  exact wpAny_pure h
theorem pick_rev (xs : Array Value) : ((List.range xs.size).filterMap fun (m : Nat) => xs[((xs.size : Int) - 1 + (m : Int) * (-1)).toNat]?).toArray = xs.toList.reverse.toArray := by
  have e1 : ∀ l : List Nat, (∀ m ∈ l, m < xs.size) → l.filterMap (fun (m : Nat) => xs[((xs.size : Int) - 1 + (m : Int) * (-1)).toNat]?) = (l.map fun m => xs.size - 1 - m).filterMap (xs[·]?) := by
    intro l hl
    induction l with
    | nil => rfl
    | cons m r ih =>
      have : ((xs.size : Int) - 1 + (m : Int) * (-1)).toNat = xs.size - 1 - m := by have := hl m List.mem_cons_self; omega
      rw [List.map_cons, List.filterMap_cons, List.filterMap_cons, this, ih (fun k hk => hl k (List.mem_cons_of_mem _ hk))]
  rw [e1 _ (fun m hm => List.mem_range.mp hm), PySem.W.krv_range, List.filterMap_reverse, PySem.W.krv_all]
theorem getItem_tuple_rev {t sl : Addr} {items : Array Value} {vs : Value} {Q : Value → Shared → Prop} (ht : IsTup s.heap t items) (hs : s.heap.IsSliceOf sl .none .none vs) (ps : IsPart vs (some (-1)))
    (h : Q (.ref s.heap.objs.size) { s with heap := s.heap.push { cls := .type "tuple", data := .seq items.toList.reverse.toArray } })
    (hsz : items.size ≤ sizeLine) : wpAny (model prog w) A (getItem (.ref t) (.ref sl)) Q E s := by
  have hts : sizeOk (.seq items.toList.reverse.toArray) := by
    show items.toList.reverse.toArray.size ≤ sizeLine
    rw [List.size_toArray, List.length_reverse, Array.length_toList]
    exact hsz
  obtain ⟨os, hos, hcs, hds⟩ := id hs
  have hTs : s.TypeIs (.ref sl) "slice" := ⟨os, hos, hcs⟩
  unfold getItem
  try with_reducible refine wpAny_holding ?_
  first | refine wpAny_bind (wpAny_pure ?_) | skip
  refine wpAny_bind (wpAny_sequenceKey ht.typeIs (by decide) ?_)
  refine wpAny_bind (wpAny_callSpecial?_slot (name := Str.ofString "__getitem__") ht.typeIs PyProof.Rows.slot_tuple_getitem
    (wpAny_call_entry PyProof.Rows.slot_tuple_getitem ht.typeIs entry_tuple_getitem ?_ (args_tuple_getitem _ _)))
  show wpAny _ _ (Builtin.Tuple.tupleItemsOf (.ref t) >>= _) _ _ s
  refine wpAny_bind (tupleItemsOf_ ht ?_)
  refine wpAny_bind (wpAny_typeOf hTs ?_)
  rw [if_pos (by decide)]
  refine wpAny_bind (sliceApplied_rev hs ps ?_)
  have hno : ¬ (((((items.size : Nat) : Int) - 1) == 0 && (-1 : Int) == 1 && items.size == items.size) = true) := by
    intro q
    rw [Bool.and_eq_true, Bool.and_eq_true] at q
    exact absurd q.1.2 (by decide)
  show wpAny _ _ (if ((((items.size : Nat) : Int) - 1) == 0 && (-1 : Int) == 1 && items.size == items.size) = true then _ else _) _ _ s
  rw [if_neg hno, pick_rev]
  first
    | exact wpAny_bind (m := Builtin.Tuple.tupleExact _) (wpAny_newObj_type (wpAny_pure ⟨_, rfl, wpAny_pure h⟩) hts)
    | exact wpAny_bind (m := Builtin.Tuple.tupleExact _) (wpAny_newObj_type (wpAny_bind (wpAny_pure (wpAny_pure ⟨_, rfl, wpAny_pure h⟩))) hts)
    | exact wpAny_bind (wpAny_bind (m := Builtin.Tuple.tupleExact _) (wpAny_newObj_type (wpAny_pure (wpAny_pure ⟨_, rfl, wpAny_pure h⟩)) hts))
    | exact wpAny_bind (wpAny_bind (m := Builtin.Tuple.tupleExact _) (wpAny_newObj_type (wpAny_pure ⟨_, rfl, wpAny_pure h⟩) hts))
end
/-- x[::-1], x a list or a tuple -/
def tRevX (K : PySem.W.Frag) (te : TE) : TE := fun σ H Q => te σ H fun x H1 => ∃ a xs, x = .ref a ∧ ((SqL K H1 a xs ∧ ∀ p, H1 p = none → Q (.ref p) (upd H1 p (.lst xs.reverse))) ∨ (SqT K H1 a xs ∧ ∀ p, H1 p = none → Q (.ref p) (upd H1 p (.tup xs.reverse))))
theorem pe_revX {X : Cx} {e : Expr} {te : TE} {k : Nat} {p1 p2 p3 pos : Pos} (he : PE X e te) : PE X (.Subscript e (.Slice none none (some (.UnaryOp .USub (.Constant (.int 1) k p1) p2)) p3) pos) (tRevX X.K te) := by
  refine ⟨fun pins s σ H Q I h => ?_⟩
  refine Subscript_ (thn (he.run pins s σ H _ I h) fun v s1 ⟨x, H1, I1, r1, q1⟩ => ?_)
  obtain ⟨a, xs, ex, q⟩ := q1
  subst ex
  cases r1
  have hst : PO X (some (.UnaryOp .USub (.Constant (.int 1) k p1) p2)) (tPart (tUn (rU fun i => .int (-i)) (tC (.int 1)))) := po_some (pe_un un_neg pe_int)
  refine wpAny_Slice (thn (po_none.run pins s1 σ H1 (fun o H2 => o = none ∧ H2 = H1) I1 ⟨rfl, rfl⟩) fun vl s2 ⟨l, H2, I2, pl, el, e2⟩ => ?_)
  subst el e2
  refine thn (po_none.run pins s2 σ H2 (fun o H3 => o = none ∧ H3 = H2) I2 ⟨rfl, rfl⟩) fun vu s3 ⟨u, H3, I3, pu, eu, e3⟩ => ?_
  subst eu e3
  refine thn (hst.run pins s3 σ H3 (fun o H4 => o = some (-1) ∧ H4 = H3) I3 ⟨1, rfl, -1, rfl, rfl, rfl⟩) fun vs s4 ⟨o, H4, I4, ps, eo, e4⟩ => ?_
  subst eo e4
  have I5 : Inv X pins σ H4 { s4 with heap := s4.heap.push { cls := .type "slice", data := .fields #[vl, vu, vs] } } := I4.kept (t' := s4.toks) fun b ob q => Heap.get?_push_of_some _ q
  have el : vl = .none := by cases pl; rfl
  have eu : vu = .none := by cases pu; rfl
  show wpAny (model X.prog X.w) X.A (subscriptTail e (.Slice none none (some (.UnaryOp .USub (.Constant (.int 1) k p1) p2)) p3) (.ref a) (.ref s4.heap.objs.size)) (EP X pins σ Q) X.xe { s4 with heap := s4.heap.push { cls := .type "slice", data := .fields #[vl, vu, vs] } }
  rcases q with ⟨hx, q⟩ | ⟨hx, q⟩
  · obtain ⟨its, r, ht, hz⟩ := I5.list hx
    have hlen := r.length
    refine tail_any (ops := [.ref a, .ref s4.heap.objs.size]) ht.isList.typeIs (PySem.slot_list_getitem.lookup) ?_ (by with_unfolding_all rfl)
    refine wpAny_getItem_list_slice ht.isList (Heap.IsSliceOf.new _ vl vu vs) pl pu ps (by decide) ?_ (by rw [List.size_toArray]; omega)
    rw [PySem.W.krv_pick]
    refine ⟨.ref _, _, I5.laid (t' := s4.toks) (o := .lst xs.reverse) (fun b ob q => Heap.get?_push_of_some _ q) (Nat.le_refl _) ?_, rfl, q _ (I5.hok.fresh (Nat.le_refl _))⟩
    exact ⟨by rw [List.length_reverse]; exact hz, _, 0, r.reverse, Heap.get?_push_size _ rfl⟩
  · obtain ⟨its, r, ht, hz⟩ := I5.tuple hx
    have hlen := r.length
    refine tail_any (ops := [.ref a, .ref s4.heap.objs.size]) ht.typeIs (PyProof.Rows.slot_tuple_getitem.lookup) ?_ (by with_unfolding_all rfl)
    have sl := Heap.IsSliceOf.new s4.heap vl vu vs
    refine getItem_tuple_rev ht (vs := vs) (by rw [el, eu] at sl ⊢; exact sl) ps ?_ (by rw [List.size_toArray]; omega)
    refine ⟨.ref _, _, I5.laid (t' := s4.toks) (o := .tup xs.reverse) (fun b ob q => Heap.get?_push_of_some _ q) (Nat.le_refl _) ?_, rfl, q _ (I5.hok.fresh (Nat.le_refl _))⟩
    exact ⟨by rw [List.length_reverse]; exact hz, _, r.reverse, IsTup.new _ _⟩
theorem os_revX {K : PySem.W.Frag} : OpS K (opD .rev) (rr1 fun x H Q => ∃ a xs, x = .ref a ∧ ((SqL K H a xs ∧ ∀ p, H p = none → Q (.ref p) (upd H p (.lst xs.reverse))) ∨ (SqT K H a xs ∧ ∀ p, H p = none → Q (.ref p) (upd H p (.tup xs.reverse))))) := by
  intro G H M ds vs d Q hK hM r hd q
  subst hK
  have hd : revD ds = some d := hd
  unfold revD at hd
  split at hd
  · cases hd
    obtain ⟨x, rfl, r1⟩ := r.n1
    obtain ⟨a, xs, rfl, ha, ra⟩ := r1.lst
    exact ⟨a, xs, rfl, .inl ⟨SqL.of ha, fun p hp => q _ _ (fun b u h => upd_keep hp b u h) (Rep.newLst hM hp ra.rev)⟩⟩
  · cases hd
    obtain ⟨x, rfl, r1⟩ := r.n1
    obtain ⟨a, xs, rfl, ha, ra⟩ := r1.tup
    exact ⟨a, xs, rfl, .inr ⟨ha.sq, fun p hp => q _ _ (fun b u h => upd_keep hp b u h) (Rep.newTup hM hp ra.rev)⟩⟩
  · cases hd
end PI

set_option linter.all false
set_option maxRecDepth 100000
set_option maxHeartbeats 4000000
/-! P5c: isinstance of the handled exception, with a dict or without (after HandS.ExcIs). -/
namespace PySem.W
open PySem PySem.Spec PySem.Calls PyProof.Rows
section
variable {prog : Program} {w : World} {A : Around} {E : Value → Shared → Prop} {s : Shared} {K : Frag} {x D : Addr} {ox : Obj}
theorem findObj_dataD {C : Addr} {od : Option Obj} {name : Str} {a g : Value} (hc : (clsIn K C).isSome = true) (ha : findIn K (.ref C) name = some (some a)) (hg : specialIn K a "__get__" = some (some g)) (ht : takesIn K a = some true) : findObj K C od name = some (.bind g a) := by
  obtain ⟨cd, hc'⟩ := Option.isSome_iff_exists.mp hc
  simp only [findObj, hc', ha, hg, ht, Option.bind_some]
theorem kin_classD {od : Option Obj} {Q : Option Value → Shared → Prop} (hga : findIn K (.ref D) "__getattribute__" = some (some (.builtin "BaseException.__getattribute__"))) (hgt : findIn K (.ref D) "__getattr__" = some none) (hsub : subIn K (.ref D) (.type "BaseException") = some true)
    (hdct : hasDictIn K D = true) (ha : findIn K (.ref D) "__class__" = some (some (.builtin "object.__class__")))
    (hn : specialIn K (.builtin "object.__class__") "__get__" = some (some (.builtin "getset_descriptor.__get__"))) (htk : takesIn K (.builtin "object.__class__") = some true) (hm : mroIn K D (.type "object") = some true)
    (X : K.In s.heap) (I : InstAt s.heap x ox D od) (h : Q (some (.ref D)) { s with toks := s.toks + 1 }) : wpAny (model prog w) A (getAttr? (.ref x) "__class__") Q E s := by
  have hf : findObj K D od "__class__" = some (.bind (.builtin "getset_descriptor.__get__") (.builtin "object.__class__")) := findObj_dataD (by obtain ⟨cd, hc, _⟩ := any_some hdct; rw [hc]; rfl) ha hn htk
  obtain ⟨hp, g, d, t, os⟩ := s
  have L0 := I.type (M := model prog w)
  have L1 := looks_findIn (M := model prog w) X hga
  have L2 := looks_findIn (M := model prog w) X hgt
  have L3 := looks_find (M := model prog w) X I hf
  have sub : Looks (model prog w) hp (isInstance (.ref x) (.type "BaseException")) true := L0.andThen (looks_subIn X hsub)
  have hx0 : (false && onTheHeap (Value.builtin "BaseException.__getattribute__")) = false := rfl
  have hx2 : (Value.builtin "BaseException.__getattribute__" == Value.builtin "object.__getattribute__") = false := by decide +kernel
  have hx1 : (onTheHeap (Value.ref D) && Value.builtin "BaseException.__getattribute__" == Value.builtin "object.__getattribute__") = false := by rw [hx2]; rfl
  unfold getAttr? getAttrBy? getAttrBy
  refine wpAny_bind (wpAny_mkText (wpAny_bind (wpAny_attempt (wpAny_holding (wpAny_bind (L0.at (wpAny_bind (L1.at ?_))))))))
  show wpAny _ _ (if (onTheHeap (Value.ref D) && Value.builtin "BaseException.__getattribute__" == Value.builtin "object.__getattribute__") = true then _ else _) _ _ _
  rw [hx1, if_neg Bool.false_ne_true]
  unfold getAttrByItsOwn hookBefore
  refine wpAny_bind ?_
  rw [if_pos (show onTheHeap (Value.ref D) = true from rfl)]
  refine L2.at ?_
  refine wpAny_bind (wpAny_attempt (wpAny_holding ?_))
  unfold callGetattribute
  rw [hx0, if_neg Bool.false_ne_true]
  unfold boundAndCalled
  rw [PySem.F.excAttr_ValueError.ga.bind (.ref x)]
  refine wpAny_bind (wpAny_pure ?_)
  show wpAny _ _ (call (.builtin "BaseException.__getattribute__") [.ref x, .str "__class__" t]) _ _ _
  refine wpAny_call (codeAny_call_builtin PySem.F.excAttr_ValueError.ga.plain PySem.F.entry_bexc_ga ?_)
  refine @check_slot (model prog w) _ _ ⟨hp, g, d, t + 1, os⟩ "BaseException.__getattribute__" "BaseException" "__getattribute__" (.ref x) [.str "__class__" t] [] _ (by decide +kernel) (by decide +kernel) sub (PySem.F.args_bexc_ga (.ref x) (.str "__class__" t)) ?_
  unfold Builtin.«object.__getattribute__»
  refine wpAny_bind (wpAny_of_eq (a := ((Value.ref x : Value), [Value.str "__class__" t])) (by first | rfl | (simp only [slotArgs]; rfl)) ?_)
  refine wpAny_bind (wpAny_pure (wpAny_bind (L0.at (wpAny_bind (L3.at ?_)))))
  show wpAny _ _ (holding [Value.builtin "object.__class__"] (call (.builtin "getset_descriptor.__get__") [.builtin "object.__class__", .ref x, .ref D]) >>= ret) _ _ _
  refine wpAny_bind (wpAny_holding (wpAny_call (class_get (s := ⟨hp, g, d, t + 1, os⟩) (ox := ox) (od := od) X I hm ?_)))
  refine wpAny_pure ?_
  show wpAny _ _ (handedOut (.ref D)) _ _ _
  rw [handedOut_of (v := .ref D) rfl]
  first
    | exact wpAny_pure (wpAny_pure h)
    | exact wpAny_pure h
    | exact wpAny_pure (wpAny_bind (wpAny_pure (wpAny_pure h)))
theorem handS_kitx_excD {od : Option Obj} (hga : findIn K (.ref D) "__getattribute__" = some (some (.builtin "BaseException.__getattribute__"))) (hgt : findIn K (.ref D) "__getattr__" = some none) (hsub : subIn K (.ref D) (.type "BaseException") = some true) (hdct : hasDictIn K D = true) (ha : findIn K (.ref D) "__class__" = some (some (.builtin "object.__class__")))
    (hn : specialIn K (.builtin "object.__class__") "__get__" = some (some (.builtin "getset_descriptor.__get__"))) (htk : takesIn K (.builtin "object.__class__") = some true) (hm : mroIn K D (.type "object") = some true) :
    KitX K (.ref x) (.ref D) (fun h => InstAt h x ox D od) where
  ty := fun _ _ _ I => I.type
  it := fun _ _ X _ => by
    obtain ⟨cdD, hcD, _⟩ := any_some hdct
    unfold clsIn at hcD
    split at hcD
    · rename_i c' d' cd' sl' ho
      intro A' Q' E' s' k q
      unfold isType loadHead
      exact wpAny_bind (wpAny_loadPart (k _ _ (X _ _ ho)) (wpAny_pure q))
    · cases hcD
  ne := fun h tp dd its n sl X htp => by
    obtain ⟨cdD, hcD, _⟩ := any_some hdct
    refine Bool.eq_false_iff.mpr fun q => ?_
    have e : D = tp := Value.ref.inj (beq_iff_eq.mp q)
    subst e
    unfold clsIn at hcD
    split at hcD
    · rename_i c' d' cd' sl' ho
      have z := (X _ _ ho).symm.trans htp
      cases z
    · cases hcD
  ca := fun X I k => kin_classD hga hgt hsub hdct ha hn htk hm X I k
end
end PySem.W
namespace PI
open PySem PySem.Spec PyProof.Rows L2
/-- isinstance(e, C), e the handled exception -/
def rIsX (G : Gm) (K : PySem.W.Frag) : List V → Hp → VK → Prop := fun xs H Q => ∃ a n dd c b, xs = [.ref a, .ref c] ∧ G.xc = some (a, n, dd) ∧ (dd = none ∨ ∃ q fs, dd = some q ∧ H q = some (.xd fs)) ∧ PySem.W.kitOne K (.ref (G.ec n)) (.ref c) = some b ∧ Q (.bl b) H
theorem call_isX {X : Cx} {G : Gm} {a : Addr} {oe : Obj} {n : Nat} {dd : Option Addr} (hx : G.xc = some (a, n, dd)) (hp : (a, oe) ∈ X.pn) (C : ExcC X.K (G.ec n)) (hz : L2N.Zn (.ref (G.ec n)) dd oe) (hf : ∃ vs, oe.data = .fields vs) : CallR X (.builtin "isinstance") (rIsX G X.K) := by
  intro pins s σ H xs us Q I r h
  obtain ⟨a', n', dd', c, b, rfl, hx', hd, e, q⟩ := h
  rw [hx] at hx'
  cases hx'
  cases r with
  | cons rx rr =>
    cases rr with
    | cons rt rr =>
      cases rr
      cases rx
      cases rt
      obtain ⟨hget, _⟩ := I.pin (a, oe) (List.mem_append_left _ hp)
      obtain ⟨vs, hv⟩ := hf
      have J : ∃ od, PySem.W.InstAt s.heap a oe (G.ec n) od := by
        obtain ⟨h1, h2, _⟩ := hz
        rcases hd with hd | ⟨dq, fs, hd, hH⟩
        · exact ⟨none, hget, h1, by unfold PySem.W.notCls; rw [hv] <;> rfl, by rw [h2, hd]; trivial⟩
        · have hx : ObjOk X.prog X.w H s.heap dq (.xd fs) := I.hok dq _ hH
          obtain ⟨mA, hns, hr⟩ := hx
          obtain ⟨od, ho, hl⟩ := lookIn_ns hns
          exact ⟨some od, hget, h1, by unfold PySem.W.notCls; rw [hv] <;> rfl, by rw [h2, hd]; exact ho⟩
      obtain ⟨od, J⟩ := J
      exact PySem.W.kia_one (PySem.W.handS_kitx_excD C.hg C.hk C.hs C.hd C.ha C.hn C.ht C.hm) I.kIn J e (fun z => nomatch z) fun tk => ⟨.bl b, H, I.kept (t' := tk) fun _ _ z => z, rfl, q⟩
end PI

set_option linter.all false
set_option maxRecDepth 100000
set_option maxHeartbeats 1000000
/-! P6: operations as they are written. -/
namespace PI
open PySem PySem.Spec PyProof.Rows L2
/-! ### looks at the syntax -/
def noStar : Expr → Bool
  | .Starred .. => false
  | _ => true
theorem star_of {e : Expr} {es : List Expr} {env : Env} (h : noStar e = true) : starEach (e :: es) env = (false, eval e env) :: starEach es env := by
  cases e <;> first | rfl | (simp [noStar] at h)
theorem star_any {env : Env} {pos : Pos} : ∀ {es : List Expr}, es.all noStar = true → (backTo pos (starEach es env)).any (·.1) = false
  | [], _ => rfl
  | e :: es, h => by
    simp only [List.all_cons, Bool.and_eq_true] at h
    rw [star_of h.1]
    show (false || (backTo pos (starEach es env)).any (·.1)) = false
    rw [star_any h.2]; rfl
def attrOk : Expr → Bool
  | .Call (.Name _ _) [] [] _ => false
  | _ => true
theorem base_of {o : Expr} {n : Str} {env : Env} (h : attrOk o = true) : attributeBase o n env (eval o env) = eval o env := by
  unfold attributeBase
  split
  · simp [attrOk] at h
  · rfl
def plainT : Expr → Bool
  | .UnaryOp .. => false
  | .BoolOp .. => false
  | .IfExp .. => false
  | .Compare .. => false
  | _ => true
theorem true_of {e : Expr} {env : Env} (h : plainT e = true) : ∀ whole, isTrue e env whole = (do let v ← whole; standAt e.pos; holding [v] (truthy v)) := by
  intro w
  cases e <;> first | rfl | (simp [plainT] at h)
def plainSl : Expr → Bool
  | .Slice .. => false
  | _ => true
theorem ix_of {b : Expr} (h : plainSl b = true) : PlainIx b := by
  intro o i
  cases b <;> first | rfl | (simp [plainSl] at h)
def noSet : Expr → Bool
  | .Set .. => false
  | _ => true
theorem mark_of {b : Expr} {op : CmpOp} (h : noSet b = true) : behindInMarks op b = false := by
  cases b <;> first | rfl | (simp [noSet] at h)
theorem fold_of {it : Expr} {env : Env} (h : noSet it = true) : ∀ x, foldedSetIterable it env x = pure x := by
  intro x
  cases it <;> first | rfl | (simp [noSet] at h)
def glB (sc : Scope) (x : Str) : Bool := decide (sc.names.lookup x = some .globalImplicit) && !(x == ("__debug__" : Str))
def visB (sc : Scope) (x : Str) : Bool := match sc.names.lookup x with
  | some .local => true
  | some .cell => true
  | some .free => true
  | _ => false
theorem vis_of {sc : Scope} {x : Str} (h : visB sc x = true) : Vis sc x := by
  unfold visB at h
  unfold Vis
  split at h
  · rename_i e; exact .inl e
  · rename_i e; exact .inr (.inl e)
  · rename_i e; exact .inr (.inr e)
  · cases h

/-! ### the context of a check -/
structure Ct where
  sc : Scope
  N : List Str
  fk : Str → Bool
  hot : Bool := false
  qual : Str
  fns : List (Str × Nat)
  exs : List (Str × Nat)
  cns : List (Str × D)
  io : Nat → List Bool
  isfn : Nat → Bool
  fr : Nat → Bool
  /-- defs that get a lambda; does this one make any; the name that calls what it got; are we in a lambda -/
  isl : Nat → Bool
  /-- classes of exceptions: those made with a text alone; how many -/
  exp : Nat → Bool
  hasl : Bool := false
  th : Option Str := none
  inl : Bool := false
def bnames : List Str := ["len", "abs", "int", "str", "sum", "max", "min", "all", "any", "sorted", "set", "tuple", "list", "range", "enumerate", "zip", "reversed", "isinstance", "bool", "dict"]

/-- what a def promises -/
def Owns (io : List Bool) (vs : List V) (a : Addr) : Prop := ∃ i : Nat, io[i]? = some true ∧ vs[i]? = some (V.ref a)
structure Post (G : Gm) (H : Hp) (M : Addr → Prop) (io : List Bool) (vs : List V) (outs : List D) (H' : Hp) : Prop where
  keep : ∀ a o, H a = some o → ¬ Owns io vs a → NT o → H' a = some o
  dom : ∀ a, H a ≠ none → H' a ≠ none
  tab : Tabz G H'
def ArgsOk (G : Gm) (H : Hp) (M : Addr → Prop) : List Bool → List D → List V → Prop
  | [], ds, vs => ds = [] ∧ vs = []
  | false :: r, ds, vs => ∃ d t v u, ds = d :: t ∧ vs = v :: u ∧ Rep G H M d v ∧ ArgsOk G H M r t u
  | true :: r, ds, vs => ∃ d t a u, ds = d :: t ∧ vs = .ref a :: u ∧ M a ∧ Cont G H M d a ∧ ArgsOk G H M r t u
def OutsOk (G : Gm) (H : Hp) (M : Addr → Prop) : List Bool → List D → List V → Prop
  | [], ds, vs => ds = [] ∧ vs = []
  | false :: r, ds, vs => ∃ v u, vs = v :: u ∧ OutsOk G H M r ds u
  | true :: r, ds, vs => ∃ d t a u, ds = d :: t ∧ vs = .ref a :: u ∧ Cont G H M d a ∧ OutsOk G H M r t u
def Apart (io : List Bool) (vs : List V) : Prop := ∀ (i j : Nat) (a : Addr), io[i]? = some true → io[j]? = some true → vs[i]? = some (V.ref a) → vs[j]? = some (V.ref a) → i = j
/-- what comes back: any value, or (fr) a new list that nobody else holds -/
def Ret (G : Gm) (H : Hp) (M : Addr → Prop) (io : List Bool) (vs : List V) (outs : List D) (d : D) (Q : VK) : Bool → Prop
  | false => ∀ v H', Post G H M io vs outs H' → OutsOk G H' M io outs vs → Rep G H' M d v → Q v H'
  | true => ∀ a ds' vs' H', Post G H M io vs outs H' → OutsOk G H' (fun b => b = a ∨ M b) io outs vs → d = .lst ds' → H a = none → H' a = some (.lst vs') → Reps G H' (fun b => b = a ∨ M b) ds' vs' → Q (.ref a) H'
def spF (G : Gm) (io : List Bool) (fr : Bool) (F : List D → FRes) : Sp := fun vs H Q E => ∃ (M : Addr → Prop) (ds : List D), (∀ a, M a → H a ≠ none) ∧ Tabz G H ∧ ArgsOk G H M io ds vs ∧ Apart io vs ∧ match F ds with
  | .ok d outs => Ret G H M io vs outs d Q fr
  | .err x outs => ∀ cls dd H', Post G H M io vs outs H' → OutsOk G H' M io outs vs → RepX G H' M x cls dd → E cls dd H'
  | .bad => False
def KeepNT (H H' : Hp) : Prop := ∀ a o, H a = some o → NT o → H' a = some o
def DomLe (H H' : Hp) : Prop := ∀ a, H a ≠ none → H' a ≠ none
/-- a def that gets a lambda: its promise -/
def LamBody (P : Program) (w : World) (K : PySem.W.Frag) (mg : Str → Option Value) (base : Heap) (G : Gm) (lv : Nat) (ga : Addr) (Ng : List Str) (x a : Str) (sg : Scope) (cdv : Value) (bg : List Stmt) (F : TR → FRes) : Prop :=
  ∀ (A : Around) (outer : List Env) (s : Shared) (H : Hp) (Q : VK) (M : Addr → Prop) (f c' : Addr) (q : Str) (tr : TR) (tl : XK → Hp → VK → Prop),
    Room (lv + 1) (A.deeper (envOfC x sg s.heap.objs.size ga cdv)) →
    (∀ (W : WX) (pn : List (Addr × Obj)) (xe : Value → Shared → Prop) (p1 p2 : Pos), L2N.Takes ((cxOf C8.CX0 P w K mg base Ng x sg ga cdv A outer s H C8.E0).tr pn xe) W →
      PE ((cxOf C8.CX0 P w K mg base Ng x sg ga cdv A outer s H C8.E0).tr pn xe) (.Call (.Name a p1) [] [] p2) (fun σZ HZ Q => σZ[0]? = some (some (.ref f)) ∧ HZ c' = some (LamX.CodeO c' q) ∧ tl (WE W σZ) HZ Q)) →
    (∀ b, M b → H b ≠ none) → Tabz G H → H c' = some (LamX.CodeO c' q) →
    (∀ (HZ : Hp) (Q : VK) (E : XK), KeepNT H HZ → DomLe H HZ → Tabz G HZ → (match tr with
      | .ok d => ∀ v H', KeepNT HZ H' → DomLe HZ H' → Tabz G H' → Rep G H' M d v → Q v H'
      | .err x => ∀ cls dd H', KeepNT HZ H' → DomLe HZ H' → Tabz G H' → RepX G H' M x cls dd → E cls dd H'
      | .bad => False) → tl E HZ Q) →
    (match F tr with
      | .ok d _ => ∀ v H', KeepNT H H' → DomLe H H' → Tabz G H' → Rep G H' M d v → Q v H'
      | _ => False) →
    ∃ t, PSs (cxOf C8.CX0 P w K mg base Ng x sg ga cdv A outer s H C8.E0).nox bg t ∧ t { nx := fun _ H' => Q .non H', rt := Q } (L2.start Ng [.ref f]) H
def LamDef (P : Program) (w : World) (K : PySem.W.Frag) (mg : Str → Option Value) (base : Heap) (G : Gm) (lv : Nat) (ga : Addr) (F : TR → FRes) : Prop :=
  ∃ (x a : Str) (Ng : List Str) (pg : Arguments) (bg : List Stmt) (sg : Scope) (dV kV doc pm cdv ct oc : Value) (an od : Option Addr) (osl : Array (Option Value)),
    K.lookup ga = some ⟨oc, od, .func (PySem.W.fnOf x x pg bg sg dV kV doc pm an cdv ct), osl⟩ ∧ PySem.W.codeIn K cdv x = true ∧ L2.Binds K (PySem.W.fnOf x x pg bg sg dV kV doc pm an cdv ct) [a] [] ∧ FnScope Ng [a] sg ∧ Ng[0]? = some a ∧ Vis sg a ∧
    (a == ("__debug__" : Str)) = false ∧ (a == ("__classdict__" : Str)) = false ∧ LamBody P w K mg base G lv ga Ng x a sg cdv bg F
structure CtOk (X : Cx) (Γ : Fm) (W : WX) (c : Cn) (k : Ct) : Prop where
  sc : X.env.scope = k.sc
  N : X.N = k.N
  nd : X.N.Nodup
  fk : X.fn = k.fk
  hK : Γ.G.K = X.K
  calm : k.hot = false → X.calm = true
  tk : L2N.Takes X W
  un : X.A.units + 200 < cLine
  free : ∀ x ∈ bnames, X.mg x = none
  fns : ∀ x g, k.fns.lookup x = some g → X.mg x = some (.ref (Γ.G.ad g)) ∧ PySem.W.keepIn X.K (.ref (Γ.G.ad g)) = true
  room : k.hot = false → Room c.lv X.A
  cal : k.hot = false → ∀ g, k.isfn g = true → ∃ fd ps, FnOk X.prog X.w X.K X.mg X.base (L2N.CX X.prog X.w) c.lv (Γ.G.ad g) fd ps (spF Γ.G (k.io g) (k.fr g) (c.call g)) ∧ Binds X.K fd ps [] ∧ PySem.W.keepIn X.K (.ref (Γ.G.ad g)) = true
  bad : ∀ g ds, k.isfn g = false → c.call g ds = .bad
  noio : ∀ g n, c.noio g n = true → k.isfn g = true ∧ k.io g = List.replicate n false
  room2 : k.hot = false → k.inl = false → Room (c.lv + 2) X.A
  lam : k.hot = false → ∀ g, k.isl g = true → LamDef X.prog X.w X.K X.mg X.base Γ.G c.lv (Γ.G.ad g) (c.lam g)
  lt : k.hasl = true → ∃ cA P, X.env.code = .ref cA ∧ LamX.TabB X.base X.mg cA P ∧ (P, X.env.qual ++ "<lambda>") ∈ Γ.G.T ∧ ∀ p ∈ Γ.G.T, p.1 = P → p.2 = X.env.qual ++ "<lambda>"
  exs : ∀ x n, k.exs.lookup x = some n → X.mg x = some (.ref (Γ.G.ec n)) ∧ PySem.W.keepIn X.K (.ref (Γ.G.ec n)) = true ∧ PySem.W.subIn X.K (.ref (Γ.G.ec n)) (.type "BaseException") = some true ∧ PySem.W.typeIn X.K (.ref (Γ.G.ec n)) = some (.type "type")
  exp : ∀ n, k.exp n = true → PySem.W.excIn X.K (Γ.G.ec n) [.type "ValueError", .type "Exception", .type "BaseException", .type "object"] "ValueError.__new__" = true
  xc0 : k.hot = false → Γ.G.xc = none
  exm : ∀ m n, m < c.nx → n < c.nx → PySem.W.exmOne X.K (.ref (Γ.G.ec m)) (.ref (Γ.G.ec n)) = some (n == 0 || m == n)
  th : ∀ x, k.th = some x → ∀ (W' : WX) (pn : List (Addr × Obj)) (xe : Value → Shared → Prop), L2N.Takes (X.tr pn xe) W' → ∀ p1 p2, PE (X.tr pn xe) (.Call (.Name x p1) [] [] p2) (semE Γ W' c .thunk)
  cns : ∀ x d, k.cns.lookup x = some d → ∃ u v, X.mg x = some u ∧ RelV v u ∧ ∀ H M, Rep Γ.G H M d v
  hotc : k.hot = true → ∃ (a : Addr) (oe : Obj) (n : Nat) (dd : Option Addr), Γ.G.xc = some (a, n, dd) ∧ (a, oe) ∈ X.pn ∧ L2H.Hot1 X.A (a, oe) ∧ L2N.Zn (.ref (Γ.G.ec n)) dd oe ∧ (∃ vs, oe.data = .fields vs) ∧ n < c.nx
  exc : ∀ n, n < c.nx → ExcC X.K (Γ.G.ec n)
  kit : ∀ m n, m < c.nx → n < c.nx → PySem.W.kitOne X.K (.ref (Γ.G.ec m)) (.ref (Γ.G.ec n)) = some (n == 0 || m == n)
  exn : ∀ x n, k.exs.lookup x = some n → n < c.nx
section
variable {X : Cx} {Γ : Fm} {W : WX} {c : Cn} {k : Ct} {σ : St} {H : Hp}
theorem CtOk.gl (h : CtOk X Γ W c k) {x : Str} (g : glB k.sc x = true) : Gl X x ∧ (x == ("__debug__" : Str)) = false := by
  unfold glB at g
  simp only [Bool.and_eq_true, decide_eq_true_eq, Bool.not_eq_true'] at g
  refine ⟨?_, g.2⟩
  show X.env.scope.names.lookup x = _
  rw [h.sc]; exact g.1
/-- the arguments as they are written -/
def AsOk (X : Cx) (Γ : Fm) (W : WX) (c : Cn) : As → List Expr → Prop
  | .nil, es => es = []
  | .cons a r, es => ∃ e t, es = e :: t ∧ PE X e (tAr Γ W c a) ∧ noStar e = true ∧ AsOk X Γ W c r t
theorem AsOk.star : ∀ {a : As} {es : List Expr}, AsOk X Γ W c a es → es.all noStar = true
  | .nil, _, h => by have h : _ = [] := h; subst h; rfl
  | .cons a r, _, ⟨e, t, h0, h1, h2, h3⟩ => by subst h0; simp only [List.all_cons, Bool.and_eq_true]; exact ⟨h2, AsOk.star (a := r) h3⟩
theorem AsOk.pa : ∀ {a : As} {es : List Expr}, AsOk X Γ W c a es → PA X es (tAs Γ W c a)
  | .nil, _, h => by have h : _ = [] := h; subst h; exact pa_nil
  | .cons a r, _, ⟨e, t, h0, h1, h2, h3⟩ => by subst h0; exact pa_cons h1 (AsOk.pa (a := r) h3) (star_of h2)
theorem AsOk.n1 {a : As} {x : Expr} (h : AsOk X Γ W c a [x]) : ∃ p, a = .cons p .nil ∧ PE X x (tAr Γ W c p) ∧ noStar x = true := by
  cases a with
  | nil => cases h
  | cons p r =>
    obtain ⟨e, t, h0, h1, h2, h3⟩ := h
    cases h0
    cases r with
    | nil => exact ⟨p, rfl, h1, h2⟩
    | cons q s => obtain ⟨_, _, z, _⟩ := h3; cases z
theorem AsOk.n2 {a : As} {x y : Expr} (h : AsOk X Γ W c a [x, y]) : ∃ p q, a = .cons p (.cons q .nil) ∧ PE X x (tAr Γ W c p) ∧ PE X y (tAr Γ W c q) ∧ noStar x = true ∧ noStar y = true := by
  cases a with
  | nil => cases h
  | cons p r =>
    obtain ⟨e, t, h0, h1, h2, h3⟩ := h
    cases h0
    obtain ⟨q, rfl, h4, h5⟩ := AsOk.n1 h3
    exact ⟨p, q, rfl, h1, h4, h2, h5⟩
theorem AsOk.n3 {a : As} {x y z : Expr} (h : AsOk X Γ W c a [x, y, z]) : ∃ p q r, a = .cons p (.cons q (.cons r .nil)) ∧ PE X x (tAr Γ W c p) ∧ PE X y (tAr Γ W c q) ∧ PE X z (tAr Γ W c r) := by
  cases a with
  | nil => cases h
  | cons p r =>
    obtain ⟨e, t, h0, h1, h2, h3⟩ := h
    cases h0
    obtain ⟨q, r, rfl, h4, h5, _, _⟩ := AsOk.n2 h3
    exact ⟨p, q, r, rfl, h1, h4, h5⟩

def binOf : Op → Option Operator
  | .add => some .Add | .sub => some .Sub | .mul => some .Mult | .fdiv => some .FloorDiv | .mod => some .Mod | .pow => some .Pow
  | .band => some .BitAnd | .shl => some .LShift | .shr => some .RShift
  | _ => none
def cmpOf : Op → Option CmpOp
  | .eq => some .Eq | .ne => some .NotEq | .lt => some .Lt | .le => some .LtE | .gt => some .Gt | .ge => some .GtE | .isin => some .In | .notin => some .NotIn
  | _ => none
def unOf : Op → Option UnaryOp
  | .neg => some .USub | .inv => some .Invert
  | _ => none
/-- built-in functions: name, how many arguments -/
def blOf : Op → Option (Str × Nat)
  | .len => some ("len", 1) | .abs => some ("abs", 1) | .sum => some ("sum", 1) | .max1 => some ("max", 1) | .min1 => some ("min", 1) | .max2 => some ("max", 2) | .min2 => some ("min", 2) | .all => some ("all", 1) | .any => some ("any", 1)
  | _ => none
def tyOf : Op → Option Str
  | .int1 => some "int" | .tuple => some "tuple" | .list => some "list"
  | _ => none
def isOf : Op → Option (Nat × Str)
  | .isbool => some (1, "bool") | .isint => some (2, "int") | .isstr => some (3, "str") | .istuple => some (4, "tuple") | .islist => some (5, "list")
  | _ => none
/-- the rule of a binary operator -/
theorem bin_rule {o : Op} {op : Operator} (h : binOf o = some op) : ∃ r, OpR X (binaryOp op) r ∧ OpS X.K (opD o) (rr2 r) := by
  cases o <;> simp only [binOf, Option.some.injEq, reduceCtorEq] at h <;> subst h
  · exact ⟨_, or_add, os_add⟩
  · exact ⟨_, op_sub, os_sub⟩
  · exact ⟨_, op_mul.or (op_rep.or op_repT), os_mul⟩
  · exact ⟨_, op_fdiv, os_fdiv⟩
  · exact ⟨_, op_mod, os_mod⟩
  · exact ⟨_, op_pow, os_pow⟩
  · exact ⟨_, op_and, os_band⟩
  · exact ⟨_, op_shl, os_shl⟩
  · exact ⟨_, op_shr, os_shr⟩
theorem cmp_rule {o : Op} {op : CmpOp} (hu : X.A.units + 200 < cLine) (h : cmpOf o = some op) : ∃ r, OpR X (compareOp op) r ∧ OpS X.K (opD o) (rr2 r) := by
  cases o <;> simp only [cmpOf, Option.some.injEq, reduceCtorEq] at h <;> subst h
  · exact ⟨_, or_eq (by omega), os_eq⟩
  · exact ⟨_, or_ne (by omega), os_ne⟩
  · exact ⟨_, or_lt (by omega), os_lt⟩
  · exact ⟨_, or_le, os_le⟩
  · exact ⟨_, op_gt, os_gt⟩
  · exact ⟨_, op_ge, os_ge⟩
  · exact ⟨_, or_in (by omega), os_in⟩
  · exact ⟨_, or_notin (by omega), os_notin⟩
theorem un_rule {o : Op} {op : UnaryOp} (h : unOf o = some op) : ∃ r, UnR X (unaryOp op) r ∧ OpS X.K (opD o) (rr1 r) := by
  cases o <;> simp only [unOf, Option.some.injEq, reduceCtorEq] at h <;> subst h
  · exact ⟨_, un_neg, os_neg⟩
  · exact ⟨_, un_inv, os_inv⟩
theorem bl_rule {o : Op} {x : Str} {n : Nat} (hc : X.calm = true) (h : blOf o = some (x, n)) : ∃ id r, bootBuiltins x = some (.builtin id) ∧ x ∈ bnames ∧ CallR X (.builtin id) r ∧ OpS X.K (opD o) r := by
  cases o <;> simp only [blOf, Option.some.injEq, Prod.mk.injEq, reduceCtorEq] at h <;> obtain ⟨rfl, rfl⟩ := h
  · exact ⟨_, _, boot_len, by decide, call_len, os_len⟩
  · exact ⟨"abs", _, by decide +kernel, by decide, call_abs, os_abs⟩
  · exact ⟨"sum", _, by decide +kernel, by decide, cr_sum hc, os_sum⟩
  · exact ⟨"max", _, by decide +kernel, by decide, cr_max hc, os_max1⟩
  · exact ⟨"max", _, by decide +kernel, by decide, call_max2 hc, os_max2⟩
  · exact ⟨"min", _, by decide +kernel, by decide, cr_min hc, os_min1⟩
  · exact ⟨"min", _, by decide +kernel, by decide, call_min2 hc, os_min2⟩
  · exact ⟨"all", _, by decide +kernel, by decide, cr_all hc, os_all⟩
  · exact ⟨"any", _, by decide +kernel, by decide, cr_any hc, os_any⟩
theorem ty_rule {o : Op} {x : Str} (h : tyOf o = some x) : ∃ T r, bootBuiltins x = some (.type T) ∧ x ∈ bnames ∧ CallR X (.type T) r ∧ OpS X.K (opD o) r := by
  cases o <;> simp only [tyOf, Option.some.injEq, reduceCtorEq] at h <;> subst h
  · exact ⟨"int", _, by decide +kernel, by decide, call_int1, os_int1⟩
  · exact ⟨"tuple", _, by decide +kernel, by decide, call_tuple_of, os_tuple⟩
  · exact ⟨"list", _, by decide +kernel, by decide, call_list_of, os_list⟩
theorem is_rule {o : Op} {n : Nat} {x : Str} (h : isOf o = some (n, x)) : bootBuiltins x = some (.type (sortN n)) ∧ x ∈ bnames ∧ OpS X.K (opD o) (rr1 fun x H Q => rIsi X.K [x, .ty (sortN n)] H Q) := by
  cases o <;> simp only [isOf, Option.some.injEq, Prod.mk.injEq, reduceCtorEq] at h <;> obtain ⟨rfl, rfl⟩ := h
  · exact ⟨by decide +kernel, by decide, os_isi rfl (by omega) (by omega)⟩
  · exact ⟨by decide +kernel, by decide, os_isi rfl (by omega) (by omega)⟩
  · exact ⟨by decide +kernel, by decide, os_isi rfl (by omega) (by omega)⟩
  · exact ⟨by decide +kernel, by decide, os_isi rfl (by omega) (by omega)⟩
  · exact ⟨by decide +kernel, by decide, os_isi rfl (by omega) (by omega)⟩
/-- the arguments of an operation that is written so; none: it isn't -/
def cmpArgs (o : Op) (l : Expr) (op : CmpOp) (r : Expr) : Option (List Expr) := match o, op, r with
  | .isn, .Is, .Constant .none _ _ => some [l]
  | .isnn, .IsNot, .Constant .none _ _ => some [l]
  | .isb b, .Is, .Constant (.bool b') _ _ => if b = b' then some [l] else none
  | .isnb b, .IsNot, .Constant (.bool b') _ _ => if b = b' then some [l] else none
  | o, op, r => if cmpOf o = some op then (if noSet r = true then some [l, r] else none) else none
def callArgs0 (k : Ct) (o : Op) (f : Str) (args : List Expr) : Option (List Expr) := match isOf o, args with
  | some (_, x), [a, .Name t _] => if f = "isinstance" then (if t = x then (if glB k.sc f = true ∧ glB k.sc t = true then some [a] else none) else none) else none
  | some _, _ => none
  | none, args => if blOf o = some (f, args.length) ∧ k.hot = false then (if glB k.sc f = true then some args else none)
    else if tyOf o = some f ∧ args.length = 1 then (if glB k.sc f = true then some args else none) else none
def callArgs (k : Ct) (o : Op) (f : Str) (args : List Expr) : Option (List Expr) := match o with
  | .isexc n => (match args with
    | [a, .Name t _] => if f = "isinstance" ∧ (k.hot = true ∧ k.exs.lookup t = some n) then (if glB k.sc f = true ∧ glB k.sc t = true then some [a] else none) else none
    | _ => none)
  | o => callArgs0 k o f args
def slArgs (o : Op) (a : Expr) (lo hi : Option Expr) : Option (List Expr) := match o, lo, hi with
  | .sl false false, none, none => some [a]
  | .sl true false, some l, none => some [a, l]
  | .sl false true, none, some h => some [a, h]
  | .sl true true, some l, some h => some [a, l, h]
  | _, _, _ => none
def opArgs (k : Ct) (o : Op) (e : Expr) : Option (List Expr) := match e with
  | .BinOp l op r _ => if binOf o = some op then some [l, r] else none
  | .UnaryOp op x _ => if unOf o = some op then some [x] else none
  | .Compare l [op] [r] _ => cmpArgs o l op r
  | .Tuple es _ _ => if o = .tup then some es else none
  | .List es _ => if o = .lst then some es else none
  | .Subscript a (.Slice lo hi none _) _ => slArgs o a lo hi
  | .Subscript a (.Slice none none (some (.UnaryOp .USub (.Constant (.int 1) _ _) _)) _) _ => if o = .rev then some [a] else none
  | .Subscript a b _ => if o = .item ∧ plainSl b = true then some [a, b] else none
  | .Call (.Name f _) args [] _ => callArgs k o f args
  | .Call (.Attribute r m ap) [a] [] cp => if o = .join ∧ m = "join" then (if (ap.endLine == cp.line) = true ∧ attrOk r = true then some [r, a] else none) else none
  | _ => none
def strictO : Op → Bool
  | .tup => true
  | .lst => true
  | _ => false
/-- two operands, by a rule of values -/
theorem bin_sem {o : Op} {r : R2} {p q : Ar} {Q : VK} (hK : Γ.G.K = X.K) (hS : OpS X.K (opD o) (rr2 r)) (h : semE Γ W c (.op o (.cons p (.cons q .nil))) σ H Q) : tOp r (tAr Γ W c p) (tAr Γ W c q) σ H Q := op_run hK hS h
theorem un_sem {o : Op} {r : V → Hp → VK → Prop} {p : Ar} {Q : VK} (hK : Γ.G.K = X.K) (hS : OpS X.K (opD o) (rr1 r)) (h : semE Γ W c (.op o (.cons p .nil)) σ H Q) : tUn r (tAr Γ W c p) σ H Q := op_run hK hS h
theorem cmp_sound {o : Op} {l r : Expr} {op : CmpOp} {pos : Pos} {es : List Expr} {a : As} (K : CtOk X Γ W c k) (h : cmpArgs o l op r = some es) (A : AsOk X Γ W c a es) :
    PE X (.Compare l [op] [r] pos) (semE Γ W c (.op o a)) := by
  unfold cmpArgs at h
  split at h
  · cases h
    obtain ⟨p, rfl, h1, _⟩ := A.n1
    exact (pe_cmpR op_isN h1 pe_non (nomark _)).weak fun σ H Q h => un_sem (r := fun x H Q => V.non = V.non ∧ Q (.bl (decide (x = .non))) H) K.hK os_isn h
  · cases h
    obtain ⟨p, rfl, h1, _⟩ := A.n1
    exact (pe_cmpR op_notN h1 pe_non (nomark _)).weak fun σ H Q h => un_sem (r := fun x H Q => V.non = V.non ∧ Q (.bl (!decide (x = .non))) H) K.hK os_isnn h
  · split at h
    · rename_i b b' _ _ e
      subst e
      cases h
      obtain ⟨p, rfl, h1, _⟩ := A.n1
      exact (pe_cmpR op_isBl h1 pe_bl (nomark _)).weak fun σ H Q h => un_sem (r := fun x H Q => rIsB x (.bl b) H Q) K.hK (os_isb b) h
    · cases h
  · split at h
    · rename_i b b' _ _ e
      subst e
      cases h
      obtain ⟨p, rfl, h1, _⟩ := A.n1
      exact (pe_cmpR op_notBl h1 pe_bl (nomark _)).weak fun σ H Q h => un_sem (r := fun x H Q => rNotB x (.bl b) H Q) K.hK (os_isnb b) h
    · cases h
  · split at h
    · rename_i e1
      split at h
      · rename_i e2
        cases h
        obtain ⟨p, q, rfl, h1, h2, _, _⟩ := A.n2
        obtain ⟨r, ho, hS⟩ := cmp_rule (X := X) K.un e1
        exact (pe_cmpR ho h1 h2 (mark_of e2)).weak fun σ H Q h => bin_sem K.hK hS h
      · cases h
    · cases h
theorem call_sound0 {o : Op} {f : Str} {fp pos : Pos} {args es : List Expr} {a : As} (K : CtOk X Γ W c k) (h : callArgs0 k o f args = some es) (A : AsOk X Γ W c a es) :
    PE X (.Call (.Name f fp) args [] pos) (semE Γ W c (.op o a)) := by
  unfold callArgs0 at h
  split at h
  · rename_i n x a' t tp e
    split at h
    · rename_i ef
      subst ef
      split at h
      · rename_i et
        subst et
        split at h
        · rename_i eg
          cases h
          obtain ⟨p, rfl, h1, hs⟩ := A.n1
          obtain ⟨b1, b2, hS⟩ := is_rule (X := X) e
          obtain ⟨g1, g2⟩ := K.gl eg.1
          obtain ⟨g3, g4⟩ := K.gl eg.2
          have nn : t ≠ "__name__" := fun z => by subst z; revert b2; decide
          refine (pe_callB call_isi g1 (K.free _ (by decide)) (by decide +kernel) (pa_cons h1 (pa_cons (pe_bltn (v := .ty (sortN n)) g3 (K.free _ b2) b1 rfl nn g4) pa_nil (by rfl)) (star_of hs)) (by decide) g2 (star_of hs) (by rfl)).weak fun σ H Q h => ?_
          exact un_sem (r := fun x H Q => rIsi X.K [x, .ty (sortN n)] H Q) K.hK hS h
        · cases h
      · cases h
    · cases h
  · cases h
  · split at h
    · rename_i e1
      split at h
      · rename_i eg
        cases h
        obtain ⟨id, r, b1, b2, hr, hS⟩ := bl_rule (X := X) (K.calm e1.2) e1.1
        obtain ⟨g1, g2⟩ := K.gl eg
        have nn : f ≠ "__name__" := fun z => by subst z; revert b2; decide
        cases es with
        | nil =>
          exfalso
          have := e1.1
          cases o <;> simp [blOf] at this
        | cons x xs =>
          have hst := A.star
          simp only [List.all_cons, Bool.and_eq_true] at hst
          exact (pe_callB hr g1 (K.free _ b2) b1 A.pa nn g2 (star_of hst.1) (star_any hst.2)).weak fun σ H Q h => op_run K.hK hS h
      · cases h
    · split at h
      · rename_i e1
        split at h
        · rename_i eg
          cases h
          obtain ⟨T, r, b1, b2, hr, hS⟩ := ty_rule (X := X) e1.1
          obtain ⟨g1, g2⟩ := K.gl eg
          have nn : f ≠ "__name__" := fun z => by subst z; revert b2; decide
          cases es with
          | nil => simp at e1
          | cons x xs =>
            have hst := A.star
            simp only [List.all_cons, Bool.and_eq_true] at hst
            exact (pe_callTy hr g1 (K.free _ b2) b1 A.pa nn g2 (star_of hst.1) (star_any hst.2)).weak fun σ H Q h => op_run K.hK hS h
        · cases h
      · cases h
/-- an operation by values, over the frame's own data -/
def OpSG (G : Gm) (o : List D → Option D) (rr : List V → Hp → VK → Prop) : Prop :=
  ∀ (H : Hp) (M : Addr → Prop) (ds : List D) (vs : List V) (d : D) (Q : VK), (∀ a, M a → H a ≠ none) → RepWs G H M ds vs → o ds = some d →
    (∀ v H', (∀ a o, H a = some o → H' a = some o) → Rep G H' M d v → Q v H') → rr vs H Q
theorem op_runG {o : Op} {rr : List V → Hp → VK → Prop} {a : As} {Q : VK} (hS : OpSG Γ.G (opD o) rr) (h : semE Γ W c (.op o a) σ H Q) : tAs Γ W c a σ H fun vs H' => rr vs H' Q := by
  obtain ⟨s, e, h⟩ := h
  rw [evalE] at h
  refine tAs_run a s H _ e ?_
  cases q : evalAs c a s with
  | bad => rw [q] at h; exact h
  | err x s1 => rw [q] at h; exact h
  | ok ds s1 =>
    rw [q] at h
    have h : SemE Γ W (ofO (opD o ds) s1) s σ H Q := h
    intro vs H1 e1 t1 r1
    cases hd : opD o ds with
    | none => rw [hd] at h; exact h.elim
    | some d =>
      rw [hd] at h
      exact hS H1 (MM Γ σ s1) ds vs d Q e1.mmTrk r1.weak hd fun v H' k r => h v H' (e1.grow k) (t1.trans (Step.grow k)) r
theorem call_sound {o : Op} {f : Str} {fp pos : Pos} {args es : List Expr} {a : As} (K : CtOk X Γ W c k) (h : callArgs k o f args = some es) (A : AsOk X Γ W c a es) :
    PE X (.Call (.Name f fp) args [] pos) (semE Γ W c (.op o a)) := by
  cases o with
  | isexc n =>
    unfold callArgs at h
    simp only at h
    split at h
    · rename_i a' t tp
      split at h
      · rename_i e1
        obtain ⟨ef, eh, et⟩ := e1
        subst ef
        split at h
        · rename_i eg
          cases h
          obtain ⟨p, rfl, h1, hs⟩ := A.n1
          obtain ⟨g1, g2⟩ := K.gl eg.1
          obtain ⟨g3, g4⟩ := K.gl eg.2
          obtain ⟨m1, _⟩ := K.exs t n et
          obtain ⟨ax, oe, nx, dd, hx, hp, hh, hz, hf, hlt⟩ := K.hotc eh
          have hn := K.exn t n et
          refine (pe_callB (call_isX hx hp (K.exc nx hlt) hz hf) g1 (K.free _ (by decide)) (by decide +kernel) (pa_cons h1 (pa_cons (pe_glob g3 m1 (show RelV (.ref (Γ.G.ec n)) (.ref (Γ.G.ec n)) from rfl) g4) pa_nil (by rfl)) (star_of hs)) (by decide) g2 (star_of hs) (by rfl)).weak fun σ H Q h => ?_
          refine op_runG (o := .isexc n) (rr := rr1 fun x H Q => rIsX Γ.G X.K [x, .ref (Γ.G.ec n)] H Q) ?_ h
          intro H M ds vs d Q hM r hd q
          match ds, hd with
          | [.exc e x], hd =>
            obtain ⟨v, rfl, r1⟩ := r.n1
            have r1 : Rep Γ.G H M (.exc e x) v := r1.elim id fun ⟨_, _, z⟩ => z.elim
            obtain ⟨a2, d2, rfl, hx2, h0, h3⟩ := r1
            rw [hx] at hx2
            cases hx2
            cases hd
            refine ⟨ax, nx, dd, Γ.G.ec n, _, rfl, hx, ?_, K.kit nx n hlt hn, q _ _ (fun _ _ h => h) rfl⟩
            cases x with
            | none => exact .inl (h0 rfl)
            | some i =>
              obtain ⟨q1, fs, w1, w2, _⟩ := h3 i rfl
              exact .inr ⟨q1, fs, w1, w2⟩
        · cases h
      · cases h
    · cases h
  | _ => exact call_sound0 K (by simpa [callArgs] using h) A
/-! ### slices -/
theorem os_sl (l h : Bool) {ds : List D} {d : D} (hd : opD (.sl l h) ds = some d) : ∃ e lo hi, slX e lo hi = some d ∧
    ((l = false ∧ h = false ∧ ds = [e] ∧ lo = none ∧ hi = none) ∨ (∃ i, l = true ∧ h = false ∧ ds = [e, .int i] ∧ lo = some i ∧ hi = none) ∨ (∃ j, l = false ∧ h = true ∧ ds = [e, .int j] ∧ lo = none ∧ hi = some j) ∨ (∃ i j, l = true ∧ h = true ∧ ds = [e, .int i, .int j] ∧ lo = some i ∧ hi = some j)) := by
  have hd : slD l h ds = some d := hd
  unfold slD at hd
  split at hd
  · exact ⟨_, _, _, hd, .inl ⟨rfl, rfl, rfl, rfl, rfl⟩⟩
  · exact ⟨_, _, _, hd, .inr (.inl ⟨_, rfl, rfl, rfl, rfl, rfl⟩)⟩
  · exact ⟨_, _, _, hd, .inr (.inr (.inl ⟨_, rfl, rfl, rfl, rfl, rfl⟩))⟩
  · exact ⟨_, _, _, hd, .inr (.inr (.inr ⟨_, _, rfl, rfl, rfl, rfl, rfl⟩))⟩
  · cases hd
theorem os_sl00 : OpS X.K (opD (.sl false false)) (rr1 fun x H Q => rSlX X.K x none none H Q) := by
  intro G H M ds vs d Q hK hM r hd q
  obtain ⟨e, lo, hi, h1, h2⟩ := os_sl _ _ hd
  rcases h2 with ⟨_, _, rfl, rfl, rfl⟩ | ⟨_, z, _⟩ | ⟨_, _, z, _⟩ | ⟨_, _, z, _⟩ <;> try cases z
  obtain ⟨x, rfl, r1⟩ := r.n1
  exact ss_sl G H M _ _ _ _ _ Q hK hM r1 h1 q
theorem os_sl10 : OpS X.K (opD (.sl true false)) (rr2 fun x y H Q => ∃ i, y = .int i ∧ rSlX X.K x (some i) none H Q) := by
  intro G H M ds vs d Q hK hM r hd q
  obtain ⟨e, lo, hi, h1, h2⟩ := os_sl _ _ hd
  rcases h2 with ⟨z, _⟩ | ⟨i, _, _, rfl, rfl, rfl⟩ | ⟨_, z, _⟩ | ⟨_, _, _, z, _⟩ <;> try cases z
  obtain ⟨x, y, rfl, r1, r2⟩ := r.n2
  exact ⟨i, r2.int, ss_sl G H M _ _ _ _ _ Q hK hM r1 h1 q⟩
theorem os_sl01 : OpS X.K (opD (.sl false true)) (rr2 fun x y H Q => ∃ i, y = .int i ∧ rSlX X.K x none (some i) H Q) := by
  intro G H M ds vs d Q hK hM r hd q
  obtain ⟨e, lo, hi, h1, h2⟩ := os_sl _ _ hd
  rcases h2 with ⟨_, z, _⟩ | ⟨i, z, _⟩ | ⟨i, _, _, rfl, rfl, rfl⟩ | ⟨_, _, z, _⟩ <;> try cases z
  obtain ⟨x, y, rfl, r1, r2⟩ := r.n2
  exact ⟨i, r2.int, ss_sl G H M _ _ _ _ _ Q hK hM r1 h1 q⟩
/-- a slice with a part whose int must be known as soon as it is there -/
theorem semE_mono {e : E} {Q Q' : VK} (h : ∀ v H', Q v H' → Q' v H') (s : semE Γ W c e σ H Q) : semE Γ W c e σ H Q' := by
  obtain ⟨s, e1, h1⟩ := s
  refine ⟨s, e1, ?_⟩
  cases q : evalE c e s with
  | ok d s' => rw [q] at h1; exact fun v H' a b r => h v H' (h1 v H' a b r)
  | err x s' => rw [q] at h1; exact h1
  | bad => rw [q] at h1; exact h1
theorem tAr_mono {p : Ar} {Q Q' : VK} (h : ∀ v H', Q v H' → Q' v H') (s : tAr Γ W c p σ H Q) : tAr Γ W c p σ H Q' := by
  cases p with
  | e a => exact semE_mono h s
  | b i => obtain ⟨v, e, q⟩ := s; exact ⟨v, e, h v H q⟩

/-! ### no call within: nothing is raised -/
mutual
def quietE : E → Bool
  | .k _ => true
  | .v _ => true
  | .op _ a => quietA a
  | _ => false
def quietA : As → Bool
  | .nil => true
  | .cons (.e a) r => quietE a && quietA r
  | .cons (.b _) r => quietA r
end
mutual
theorem quietE_ok : ∀ (e : E) (s : Sl), quietE e = true → ∀ x s', evalE c e s ≠ .err x s'
  | .k d, s, _, x, s' => by simp [evalE]
  | .v i, s, _, x, s' => by
    simp only [evalE, vS]
    split <;> simp
  | .op o a, s, h, x, s' => by
    simp only [quietE] at h
    rw [evalE]
    have q := quietA_ok a s h
    cases z : evalAs c a s with
    | bad => simp [Res.bind]
    | err y s2 => exact absurd z (q y s2)
    | ok ds s2 =>
      show ofO (opD o ds) s2 ≠ _
      unfold ofO
      split <;> simp
  | .bop _ _, _, h, _, _ => by simp [quietE] at h
  | .nt _, _, h, _, _ => by simp [quietE] at h
  | .ite _ _ _, _, h, _, _ => by simp [quietE] at h
  | .chain _ _ _ _ _, _, h, _, _ => by simp [quietE] at h
  | .call _ _, _, h, _, _ => by simp [quietE] at h
  | .callv _ _, _, h, _, _ => by simp [quietE] at h
  | .lamc _ _, _, h, _, _ => by simp [quietE] at h
  | .thunk, _, h, _, _ => by simp [quietE] at h
  | .comp _ _ _ _, _, h, _, _ => by simp [quietE] at h
  | .fn _, _, h, _, _ => by simp [quietE] at h
  | .conv _ _, _, h, _, _ => by simp [quietE] at h
theorem quietA_ok : ∀ (a : As) (s : Sl), quietA a = true → ∀ x s', evalAs c a s ≠ .err x s'
  | .nil, s, _, x, s' => by simp [evalAs]
  | .cons (.e a) r, s, h, x, s' => by
    simp only [quietA, Bool.and_eq_true] at h
    rw [evalAs]
    have q := quietE_ok a s h.1
    cases z : evalE c a s with
    | bad => simp [Res.bind]
    | err y s2 => exact absurd z (q y s2)
    | ok d s2 =>
      show ((evalAs c r s2).bind fun ds s => .ok (d :: ds) s) ≠ _
      have q2 := quietA_ok r s2 h.2
      cases z2 : evalAs c r s2 with
      | bad => simp [Res.bind]
      | err y s3 => exact absurd z2 (q2 y s3)
      | ok ds s3 => simp [Res.bind]
  | .cons (.b i) r, s, h, x, s' => by
    simp only [quietA] at h
    rw [evalAs]
    split
    · have q2 := quietA_ok r s h
      cases z2 : evalAs c r s with
      | bad => simp [Res.bind]
      | err y s3 => exact absurd z2 (q2 y s3)
      | ok ds s3 =>
        show ofO _ s3 ≠ _
        unfold ofO
        split <;> simp
    · simp
end
/-- both parts: the last one raises nothing -/
theorem sl11_sem {p : Ar} {qa ra : E} {Q : VK} (hK : Γ.G.K = X.K) (hq : quietE ra = true) (h : semE Γ W c (.op (.sl true true) (.cons p (.cons (.e qa) (.cons (.e ra) .nil)))) σ H Q) :
    tAr Γ W c p σ H fun x H1 => semE Γ W c qa σ H1 fun y H2 => ∃ i, y = .int i ∧ semE Γ W c ra σ H2 fun z H3 => ∃ j, z = .int j ∧ rSlX X.K x (some i) (some j) H3 Q := by
  obtain ⟨s, e, h⟩ := h
  rw [evalE] at h
  have body : ∀ (s1 : Sl) (H1 : Hp) (x : V) (d1 : Sl → Option D), EnvOk Γ H1 σ s1 → Step Γ σ s H σ s1 H1 → (∀ s3 H3 d, d1 s3 = some d → EnvOk Γ H3 σ s3 → Step Γ σ s1 H1 σ s3 H3 → RepW Γ.G H3 (MM Γ σ s3) d x) →
      SemE Γ W ((evalAs c (.cons (.e qa) (.cons (.e ra) .nil)) s1).bind fun ds s3 => ofO ((d1 s3).bind fun d => opD (.sl true true) (d :: ds)) s3) s σ H Q →
      semE Γ W c qa σ H1 fun y H2 => ∃ i, y = .int i ∧ semE Γ W c ra σ H2 fun z H3 => ∃ j, z = .int j ∧ rSlX X.K x (some i) (some j) H3 Q := by
    intro s1 H1 x d1 e1 t1 hx hm
    rw [evalAs] at hm
    refine ⟨s1, e1, ?_⟩
    cases z1 : evalE c qa s1 with
    | bad => rw [z1] at hm; exact hm
    | err y s2 =>
      rw [z1] at hm
      exact SemX.pre t1 hm
    | ok dq s2 =>
      rw [z1] at hm
      intro y H2 e2 t2 r2
      simp only [Res.bind, evalAs] at hm
      cases z2 : evalE c ra s2 with
      | bad => rw [z2] at hm; exact hm.elim
      | err y s3 => exact absurd z2 (quietE_ok ra s2 hq y s3)
      | ok dr s3 =>
        rw [z2] at hm
        simp only at hm
        cases hd1 : d1 s3 with
        | none => rw [hd1] at hm; exact hm.elim
        | some d =>
          rw [hd1] at hm
          have hm2 : SemE Γ W (ofO (opD (.sl true true) [d, dq, dr]) s3) s σ H Q := hm
          clear hm
          cases ho : opD (.sl true true) [d, dq, dr] with
          | none => rw [ho] at hm2; exact hm2.elim
          | some d' =>
            rw [ho] at hm2
            obtain ⟨e', lo, hi, h1, h2⟩ := os_sl _ _ ho
            rcases h2 with ⟨w, _⟩ | ⟨_, _, w, _⟩ | ⟨_, w, _⟩ | ⟨i, j, _, _, w, rfl, rfl⟩ <;> try cases w
            refine ⟨i, r2, s2, e2, ?_⟩
            rw [z2]
            intro z H3 e3 t3 r3
            exact ⟨j, r3, ss_sl Γ.G H3 (MM Γ σ s3) _ _ _ _ _ Q hK e3.mmTrk (hx s3 H3 _ hd1 e3 (t2.trans t3)) h1 fun v H' k rr => hm2 v H' (e3.grow k) (t1.trans ((t2.trans t3).trans (Step.grow k))) rr⟩
  cases p with
  | e pa =>
    refine ⟨s, e, ?_⟩
    rw [evalAs] at h
    cases z : evalE c pa s with
    | bad => rw [z] at h; exact h
    | err y s1 => rw [z] at h; exact h
    | ok d s1 =>
      rw [z] at h
      intro x H1 e1 t1 r1
      refine body s1 H1 x (fun _ => some d) e1 t1 (fun s3 H3 d' hd e3 t3 => by cases hd; exact .inl (Rep.step e1 t3 r1)) ?_
      have h : SemE Γ W (((evalAs c (.cons (.e qa) (.cons (.e ra) .nil)) s1).bind fun ds s => .ok (d :: ds) s).bind fun ds s => ofO (opD (.sl true true) ds) s) s σ H Q := h
      cases z3 : evalAs c (.cons (.e qa) (.cons (.e ra) .nil)) s1 with
      | bad => rw [z3] at h; exact h
      | err y s2 => rw [z3] at h; exact h
      | ok ds s2 => rw [z3] at h; exact h
  | b i =>
    rw [evalAs] at h
    split at h
    · rename_i hv
      obtain ⟨d0, hd0⟩ := Option.isSome_iff_exists.mp hv
      obtain ⟨x, hx1, _⟩ := e.peek hd0
      refine ⟨x, sAt_some hx1, ?_⟩
      refine body s H x (fun s3 => (getS s3 i).val) e Step.refl (fun s3 H3 d hd e3 _ => ?_) ?_
      · obtain ⟨v, hv1, w⟩ := e3.peek hd
        rw [hx1] at hv1; cases hv1
        exact w
      · cases z3 : evalAs c (.cons (.e qa) (.cons (.e ra) .nil)) s with
        | bad => rw [z3] at h; exact h
        | err y s2 => rw [z3] at h; exact h
        | ok ds s2 =>
          rw [z3] at h
          have h : SemE Γ W ((ofO ((getS s2 i).val.map (· :: ds)) s2).bind fun ds s => ofO (opD (.sl true true) ds) s) s σ H Q := h
          show SemE Γ W (ofO ((getS s2 i).val.bind fun d => opD (.sl true true) (d :: ds)) s2) s σ H Q
          cases hx2 : (getS s2 i).val with
          | none => rw [hx2] at h; exact h
          | some d => rw [hx2] at h; exact h
    · exact h.elim
theorem sl_sound {o : Op} {e : Expr} {lo hi : Option Expr} {es : List Expr} {a : As} {p2 pos : Pos} (K : CtOk X Γ W c k) (h : slArgs o e lo hi = some es) (A : AsOk X Γ W c a es)
    (hq : o = .sl true true → match a with | .cons _ (.cons (.e _) (.cons (.e r) .nil)) => quietE r = true | _ => False) : PE X (.Subscript e (.Slice lo hi none p2) pos) (semE Γ W c (.op o a)) := by
  unfold slArgs at h
  split at h
  · cases h
    obtain ⟨p, rfl, h1, _⟩ := A.n1
    exact (pe_slice sr_sl h1 po_none po_none).weak fun σ H Q h => op_run K.hK os_sl00 h
  · cases h
    obtain ⟨p, q, rfl, h1, h2, _, _⟩ := A.n2
    exact (pe_slice sr_sl h1 (po_some h2) po_none).weak fun σ H Q h => op_run K.hK os_sl10 h
  · cases h
    obtain ⟨p, q, rfl, h1, h2, _, _⟩ := A.n2
    exact (pe_slice sr_sl h1 po_none (po_some h2)).weak fun σ H Q h => op_run K.hK os_sl01 h
  · cases h
    obtain ⟨p, q, r, rfl, h1, h2, h3⟩ := A.n3
    have hq := hq rfl
    cases q with
    | b _ => exact hq.elim
    | e qa =>
      cases r with
      | b _ => exact hq.elim
      | e ra => exact (pe_slice sr_sl h1 (po_some h2) (po_some h3)).weak fun σ H Q h => sl11_sem K.hK hq h
  · cases h
/-! ### join: the text between is written -/
theorem os_join {sep : List Nat} : OpS X.K (fun ds => joinD (.str sep :: ds)) (rr1 fun y H Q => ∃ a p, ∃ ys : List Str, V.str ⟨sep.toArray⟩ = .str a ∧ [y] = [.ref p] ∧ (SqL X.K H p (ys.map V.str) ∨ SqT X.K H p (ys.map V.str)) ∧
    (ys.map (·.length)).sum + ys.length * a.length ≤ 16777216 ∧ Q (.str (Txt.join a ys)) H) := by
  intro G H M ds vs d Q hK hM r hd q
  rw [← hK]
  have hd : joinD (.str sep :: ds) = some d := hd
  unfold joinD at hd
  split at hd
  · rename_i e
    simp only [List.cons.injEq, D.str.injEq] at e
    obtain ⟨rfl, rfl⟩ := e
    obtain ⟨l, h1, h2⟩ := Option.bind_eq_some_iff.mp hd
    obtain ⟨h3, rfl⟩ := guardO_some h2
    obtain ⟨x, rfl, r1⟩ := r.n1
    obtain ⟨a, xs, rfl, ha, ra⟩ := r1.lst
    refine ⟨_, a, l.map fun s => (⟨s.toArray⟩ : Str), rfl, rfl, .inl ?_, ?_, ?_⟩
    · rw [← mapS, ← ra.strs h1]; exact SqL.of ha
    · rw [List.map_map, List.length_map, lenS]
      have e1 : (List.map ((fun x => x.length) ∘ fun s : List Nat => (⟨s.toArray⟩ : Str)) l) = l.map (·.length) := by
        refine List.map_congr_left fun s _ => ?_
        exact lenS s
      rw [e1]
      have := joinN_len sep l
      simp only [Bool.and_eq_true, decide_eq_true_eq] at h3
      have h4 := h3.1
      have h5 := h3.2
      omega
    · rw [txtJoin]
      exact q _ _ (fun _ _ h => h) rfl
  · rename_i e
    simp only [List.cons.injEq, D.str.injEq] at e
    obtain ⟨rfl, rfl⟩ := e
    obtain ⟨l, h1, h2⟩ := Option.bind_eq_some_iff.mp hd
    obtain ⟨h3, rfl⟩ := guardO_some h2
    obtain ⟨x, rfl, r1⟩ := r.n1
    obtain ⟨a, xs, rfl, ha, ra⟩ := r1.tup
    refine ⟨_, a, l.map fun s => (⟨s.toArray⟩ : Str), rfl, rfl, .inr ?_, ?_, ?_⟩
    · rw [← mapS, ← ra.strs h1]; exact ha.sq
    · rw [List.map_map, List.length_map, lenS]
      have e1 : (List.map ((fun x => x.length) ∘ fun s : List Nat => (⟨s.toArray⟩ : Str)) l) = l.map (·.length) := by
        refine List.map_congr_left fun s _ => ?_
        exact lenS s
      rw [e1]
      have := joinN_len sep l
      simp only [Bool.and_eq_true, decide_eq_true_eq] at h3
      have h4 := h3.1
      have h5 := h3.2
      omega
    · rw [txtJoin]
      exact q _ _ (fun _ _ h => h) rfl
  · cases hd
theorem join_sem {sep : List Nat} {q : Ar} {Q : VK} (hK : Γ.G.K = X.K) (h : semE Γ W c (.op .join (.cons (.e (.k (.str sep))) (.cons q .nil))) σ H Q) :
    tAr Γ W c q σ H fun y H2 => ∃ a p, ∃ ys : List Str, V.str ⟨sep.toArray⟩ = .str a ∧ [y] = [.ref p] ∧ (SqL X.K H2 p (ys.map V.str) ∨ SqT X.K H2 p (ys.map V.str)) ∧
      (ys.map (·.length)).sum + ys.length * a.length ≤ 16777216 ∧ Q (.str (Txt.join a ys)) H2 := by
  obtain ⟨s, e, h⟩ := h
  rw [evalE, evalAs] at h
  have h : SemE Γ W (((evalAs c (.cons q .nil) s).bind fun ds s => .ok (.str sep :: ds) s).bind fun ds s => ofO (opD .join ds) s) s σ H Q := h
  have := tAs_run (W := W) (c := c) (.cons q .nil) s H (fun vs H' => rr1 (fun y H2 Q => ∃ a p, ∃ ys : List Str, V.str ⟨sep.toArray⟩ = .str a ∧ [y] = [.ref p] ∧ (SqL X.K H2 p (ys.map V.str) ∨ SqT X.K H2 p (ys.map V.str)) ∧
      (ys.map (·.length)).sum + ys.length * a.length ≤ 16777216 ∧ Q (.str (Txt.join a ys)) H2) vs H' Q) e ?_
  · exact this
  · cases z : evalAs c (.cons q .nil) s with
    | bad => rw [z] at h; exact h
    | err x s1 => rw [z] at h; exact h
    | ok ds s1 =>
      rw [z] at h
      have h : SemE Γ W (ofO (opD .join (.str sep :: ds)) s1) s σ H Q := h
      intro vs H1 e1 t1 r1
      cases hd : opD .join (.str sep :: ds) with
      | none => rw [hd] at h; exact h.elim
      | some d =>
        rw [hd] at h
        exact os_join Γ.G H1 (MM Γ σ s1) ds vs d Q hK e1.mmTrk r1.weak hd fun v H' k r => h v H' (e1.grow k) (t1.trans (Step.grow k)) r
/-! ### the forms together -/
def formOk (o : Op) (a : As) (e : Expr) : Bool := match o with
  | .tup => a.bs.isEmpty
  | .lst => a.bs.isEmpty
  | .sl true true => (match a with
    | .cons _ (.cons (.e _) (.cons (.e r) .nil)) => quietE r
    | _ => false)
  | .join => (match a, e with
    | .cons (.e (.k (.str s))) (.cons _ .nil), .Call (.Attribute (.Constant (.str z) _ _) _ _) _ _ _ => decide (z = ⟨s.toArray⟩)
    | _, _ => false)
  | _ => true
theorem op_sound {o : Op} {e : Expr} {es : List Expr} {a : As} (K : CtOk X Γ W c k) (h : opArgs k o e = some es) (hf : formOk o a e = true) (A : AsOk X Γ W c a es) : PE X e (semE Γ W c (.op o a)) := by
  unfold opArgs at h
  split at h
  · split at h
    · rename_i e1
      cases h
      obtain ⟨p, q, rfl, h1, h2, _, _⟩ := A.n2
      obtain ⟨r, ho, hS⟩ := bin_rule (X := X) e1
      exact (pe_op ho h1 h2).weak fun σ H Q h => bin_sem K.hK hS h
    · cases h
  · split at h
    · rename_i e1
      cases h
      obtain ⟨p, rfl, h1, _⟩ := A.n1
      obtain ⟨r, ho, hS⟩ := un_rule (X := X) e1
      exact (pe_un ho h1).weak fun σ H Q h => un_sem K.hK hS h
    · cases h
  · exact cmp_sound K h A
  · split at h
    · rename_i e1
      subst e1
      cases h
      exact (pe_tup A.pa).weak fun σ H Q h => op_runZ (by simpa [formOk] using hf) K.hK oz_tup h
    · cases h
  · split at h
    · rename_i e1
      subst e1
      cases h
      exact (pe_lst A.pa).weak fun σ H Q h => op_runZ (by simpa [formOk] using hf) K.hK oz_lst h
    · cases h
  · refine sl_sound K h A fun eo => ?_
    subst eo
    simp only [formOk] at hf
    split at hf
    · exact hf
    · cases hf
  · split at h
    · rename_i e1
      subst e1
      cases h
      obtain ⟨p, rfl, h1, _⟩ := A.n1
      exact (pe_revX h1).weak fun σ H Q h => un_sem (r := fun x H Q => ∃ a xs, x = .ref a ∧ ((SqL X.K H a xs ∧ ∀ p, H p = none → Q (.ref p) (upd H p (.lst xs.reverse))) ∨ (SqT X.K H a xs ∧ ∀ p, H p = none → Q (.ref p) (upd H p (.tup xs.reverse))))) K.hK os_revX h
    · cases h
  · split at h
    · rename_i e1
      obtain ⟨e1, e2⟩ := e1
      subst e1
      cases h
      obtain ⟨p, q, rfl, h1, h2, _, _⟩ := A.n2
      exact (pe_ix ix_seq h1 h2 (ix_of e2)).weak fun σ H Q h => bin_sem K.hK os_item h
    · cases h
  · exact call_sound K h A
  · split at h
    · rename_i e1
      obtain ⟨e1, e2⟩ := e1
      subst e1
      subst e2
      split at h
      · rename_i e3
        cases h
        obtain ⟨p, q, rfl, h1, h2, h3, h4⟩ := A.n2
        simp only [formOk] at hf
        split at hf
        · rename_i ea eb
          have hz := of_decide_eq_true hf
          subst hz
          cases eb
          cases ea
          refine (pe_join (pe_str) h2 (star_of h4) rfl e3.1).weak fun σ H Q h => ⟨⟨_, rfl⟩, ?_⟩
          exact join_sem K.hK h
        · cases hf
      · cases h
    · cases h
  · cases h
end
end PI

set_option linter.all false
set_option maxRecDepth 100000
set_option maxHeartbeats 1000000
/-! P7: enumerate(tuple); what is walked. -/
namespace PI
open PySem PySem.Spec PyProof.Rows L2

/-! ### enumerate(v), v a tuple -/
theorem meets_enum1 {v : Value} {o : Obj} {H : Heap → Prop} (B : Begins v o H) :
    Meets (Builtin.«enumerate.__new__» ⟨[.type "enumerate", v], []⟩) (fun _ R s => H s.heap ∧
      R (.ok (.ret (.ref (s.heap.push o).objs.size))) { s with heap := (s.heap.push o).push { cls := .type "enumerate", data := .fields #[.none, .bool false, .ref s.heap.objs.size, rawInt 0, .none, .none] } }) :=
  .of_wp fun prog w A R s h => by
    obtain ⟨hp, g, d, tk, os⟩ := s; obtain ⟨h1, h⟩ := h
    have hsub := sub_enumerate
    have q1 : ∀ {A' : Around} {E : Value → Shared → Prop} {Q : Value → Shared → Prop}, Q (.ref hp.objs.size) ⟨hp.push o, g, d, tk, os⟩ → wpAny (model prog w) A' (pyIter v) Q E ⟨hp, g, d, tk, os⟩ :=
      fun q => B.iter prog w _ _ ⟨hp, g, d, tk, os⟩ _ h1 q
    wp_walk using q1
    refine wpAny_stack_any fun st => wpAny_pure ?_
    split
    · rename_i c _ _ _ _ _
      cases (c == Value.type "enumerate")
      · wp_walk using q1
        exact ⟨_, rfl, h⟩
      · wp_walk using q1
        exact ⟨_, rfl, h⟩
    · wp_walk using q1
      exact ⟨_, rfl, h⟩
section
variable {prog : Program} {w : World} {A : Around} {E : Value → Shared → Prop} {s : Shared}
theorem enum_begins1 {v : Value} {o : Obj} {H : Heap → Prop} {Q : Value → Shared → Prop} (B : Begins v o H) (h1 : H s.heap)
    (h : ∀ h', IsEnum h' (s.heap.objs.size + 1) s.heap.objs.size 0 .none → h'.get? s.heap.objs.size = some o → h'.objs.size = s.heap.objs.size + 2 →
      (∀ b o, s.heap.get? b = some o → h'.get? b = some o) → Q (.ref (s.heap.objs.size + 1)) { s with heap := h' }) :
    wpAny (model prog w) A (call (.type "enumerate") [v]) Q E s := by
  refine callType_new F.called_enumerate (by decide) (F.typeCall_enumerate_1 _) (F.newCall_enumerate_1 _) (fun obj => F.args_object_init_2 obj _) F.entry_enumerate_new
    (meets_enum1 B) ⟨h1, ?_⟩
  have hz : (s.heap.push o).objs.size = s.heap.objs.size + 1 := Heap.size_push ..
  show _ ∧ _
  rw [hz]
  have he : IsEnum ((s.heap.push o).push { cls := .type "enumerate", data := .fields #[.none, .bool false, .ref s.heap.objs.size, rawInt 0, .none, .none] }) (s.heap.objs.size + 1) s.heap.objs.size 0 .none := by
    have := Heap.get?_push_size (s.heap.push o) (o := { cls := .type "enumerate", data := .fields #[.none, .bool false, .ref s.heap.objs.size, rawInt 0, .none, .none] }) rfl
    rw [hz] at this; exact this
  refine ⟨⟨_, he, rfl⟩, h _ he (Heap.get?_push_of_some _ (Heap.get?_push_size _ B.free)) (by rw [Heap.size_push, hz]) fun b o x => Heap.get?_push_of_some _ (Heap.get?_push_of_some _ x)⟩
end
/-- the tuple at a as it stands at each turn, each item in a new pair -/
def IteT (K : PySem.W.Frag) (a : Addr) : L2.It :=
  ⟨fun i H => ∃ (xs : List V) (x : V), SqT K H a xs ∧ xs[i]? = some x, fun i H v H' => ∃ T x, v = .ref T ∧ H T = none ∧ H' = upd H T (.tup [.int (i : Nat), x]) ∧ ∀ xs, SqT K H a xs → xs[i]? = some x, fun i H => ∃ xs : List V, SqT K H a xs ∧ xs.length ≤ i⟩
theorem turn_enumT {P : Program} {w : World} {K : PySem.W.Frag} {elts : List Expr} {kk : Nat} {tpos : Pos} (a e it : Addr) :
    Turn P w K (.Tuple elts kk tpos) (IteT K a) [e, it] e (fun i h => (∃ old, IsEnum h e it ((i : Nat) : Int) old) ∧ h.IsTupleIter it a i ∧ e ≠ it) where
  mem := by simp
  obj := fun i h st b hb => by
    obtain ⟨⟨old, he⟩, ⟨o, ho, hc, hd⟩, _⟩ := st
    have e' : b = e ∨ b = it := by simpa using hb
    rcases e' with z | z
    · rw [z]; exact ⟨_, he, fun v q => nomatch q⟩
    · rw [z]; exact ⟨o, ho, fun v q => by rw [hd] at q; cases q⟩
  keep := fun i h h' st k => let ⟨⟨old, he⟩, hi, hne⟩ := st; ⟨⟨old, k e (by simp) _ he⟩, hi.at fun o q => k it (by simp) o q, hne⟩
  item := by
    intro X hP hw hK hc i pins s σ H E I hf st hg
    subst hP hw hK
    obtain ⟨⟨old, he⟩, hit, hne⟩ := st
    obtain ⟨xs, x, hq, hx⟩ := hg
    obtain ⟨its, rv, p, hz⟩ := I.tuple hq
    have p' : s.heap.IsTuple a its.toArray := p
    obtain ⟨u, hu, ru⟩ := rv.get hx
    have hel : e < s.heap.objs.size := Heap.lt_size he
    have hil : it < s.heap.objs.size := by obtain ⟨_, q, _⟩ := hit; exact Heap.lt_size q
    have nia : a ≠ it := fun z => by
      obtain ⟨o1, e1, c1, _⟩ := hit
      obtain ⟨o2, e2, c2, _⟩ := p'
      rw [z, e1] at e2; cases e2
      rw [c1] at c2; revert c2; decide
    have nea : e ≠ a := fun z => by
      obtain ⟨o2, e2, c2, _⟩ := p'
      have he' : s.heap.get? e = some _ := he
      rw [← z, he'] at e2; cases e2
      revert c2
      show Value.type "enumerate" = Value.type "tuple" → False
      decide
    have hlt : i < its.toArray.size := by
      have := List.getElem?_eq_some_iff.mp hu
      simpa using this.1
    refine wpAny_pyNext_enum_itemD (Draws.tuple (prog := X.prog) (w := X.w) (A := X.A.in1) (I.ok.hd hc) it a nia its.toArray) he ⟨hit, p'⟩ hlt hne (by simp [hne, nea]) fun y h' tk hy ho hit' hT hsz hk => ?_
    have hy : its.toArray[i]? = some y := hy
    have ey : y = u := by
      have hu' : its.toArray[i]? = some u := by simpa using hu
      rw [hy] at hu'; exact Option.some.inj hu'
    subst ey
    refine ⟨_, rfl, wpAny_letOwnedTupleGo_enum (s := { s with heap := h', toks := tk + 1 }) ho fun h'' he' sb => ?_⟩
    have hT2 : h''.get? s.heap.objs.size = some { cls := .type "tuple", data := .seq #[.int i tk, y] } := (sb.2 _ (Nat.ne_of_gt hel)).trans hT
    have new : ObjOk X.prog X.w (upd H s.heap.objs.size (.tup [.int (i : Nat), x])) h'' s.heap.objs.size (.tup [.int (i : Nat), x]) :=
      ⟨by show 2 ≤ sizeLine; decide, [.int i tk, y], .cons ⟨_, rfl⟩ (.cons ru .nil), ⟨_, hT2, rfl, _, rfl⟩⟩
    have I1 : Inv X pins σ (upd H s.heap.objs.size (.tup [.int (i : Nat), x])) { s with heap := h'', toks := tk + 1 } :=
      I.turnedNew (ch := [e, it]) (fun b ob hb q => (sb.2 b (fun z => hb (by simp [z]))).trans (hk b ob (fun z => hb (by simp [z])) (fun z => hb (by simp [z])) q)) hf (Nat.le_refl _) new
    refine ⟨.ref s.heap.objs.size, _, I1, rfl, ⟨_, x, rfl, I.hok.fresh (Nat.le_refl _), rfl, fun ys hy => by rw [I.tuple_inj hy hq]; exact hx⟩, ⟨⟨y, ?_⟩, hit'.1.at fun o q => (sb.2 it (Ne.symm hne)).trans q, hne⟩, fun b hb => ?_⟩
    · have e1 : ((i + 1 : Nat) : Int) = (i : Int) + 1 := by omega
      rw [e1]; exact he'
    · have hb' : b < s.heap.objs.size := by
        have e' : b = e ∨ b = it := by simpa using hb
        rcases e' with z | z
        · rw [z]; exact hel
        · rw [z]; exact hil
      rw [upd_ne (Nat.ne_of_lt hb')]
      exact (hf b hb).1
  done := by
    intro X hP hw hK hc i pins s σ H E I hf st hg
    subst hP hw hK
    obtain ⟨⟨old, he⟩, hit, hne⟩ := st
    obtain ⟨xs, hq, hx⟩ := hg
    obtain ⟨its, rv, p, hz⟩ := I.tuple hq
    have p' : s.heap.IsTuple a its.toArray := p
    obtain ⟨f0, f1, f2, f3, f4, f5⟩ := hf it (by simp)
    have hl := rv.length
    have nia : a ≠ it := fun z => by
      obtain ⟨o1, e1, c1, _⟩ := hit
      obtain ⟨o2, e2, c2, _⟩ := p'
      rw [z, e1] at e2; cases e2
      rw [c1] at c2; revert c2; decide
    unfold pyNext
    have hT : s.TypeIs (.ref e) "enumerate" := ⟨_, he, rfl⟩
    refine wpAny_bind (wpAny_attempt (wpAny_callSpecial?_slot (name := Str.ofString "__next__") hT F.slot_enumerate_next
      (wpAny_call_entry F.slot_enumerate_next hT F.entry_enumerate_next ?_ (F.args_enumerate_next_1 _))))
    show wpAny _ _ (field (.ref e) 2 >>= _) _ _ _
    refine wpAny_bind (wpAny_field he rfl (x := .ref it) rfl ?_)
    refine wpAny_bind (wpAny_nextOf_tuple_end (I.ok.hd hc) hit p' (by simp; omega) fun h' x he' hx' => ?_)
    obtain ⟨o, ho, hc'⟩ := hx'
    refine wpAny_bind (wpAny_isInstance (T := "StopIteration") (b := true) ⟨o, ho, hc'⟩ isSubtype_stop ?_)
    exact wpAny_pure ⟨rfl, I.turned (t' := s.toks) (fun b o hb q => he' b o hb q) f0 f1 f3 f4 f5⟩
  self := fun A i s Q E st h => let ⟨⟨_, he⟩, _⟩ := st; wpAny_pyIter_enum he h
def iEnumA (K : PySem.W.Frag) (ta : TA) : TI := fun σ H R => ta σ H fun vs H1 => ∃ a xs, vs = [.ref a] ∧ ((SqL K H1 a xs ∧ R (Ite K a) H1) ∨ (SqT K H1 a xs ∧ R (IteT K a) H1))
theorem pi_enumA {X : Cx} {e : Expr} {ta : TA} {p pos tpos : Pos} {elts : List Expr} {kk : Nat} (hg : Gl X "enumerate") (hm : X.mg "enumerate" = none) (ha : PA X [e] ta) (hs : starEach [e] X.env = [(false, eval e X.env)]) :
    PI X (.Tuple elts kk tpos) (.Call (.Name "enumerate" p) [e] [] pos) (iEnumA X.K ta) := by
  refine ⟨fun pins s σ H R I h => ?_⟩
  refine Call_ (ld_blt I hg hm boot_enumerate (PyProof.Rows.callWith_type1 (thn (ha.run pos pins s σ H _ I h) fun us s1 ⟨vs, H1, I1, r1, q1⟩ => ?_) hs rfl))
  obtain ⟨a, xs, ex, q⟩ := q1
  subst ex
  cases r1 with
  | cons r rr =>
    cases rr
    cases r
    have fp2 : ∀ b, b ∈ [s1.heap.objs.size + 1, s1.heap.objs.size] → FpOk X pins H1 b := fun b hb => by
      have e' : b = s1.heap.objs.size + 1 ∨ b = s1.heap.objs.size := by simpa using hb
      have hle : s1.heap.objs.size ≤ b := by
        rcases e' with z | z
        · rw [z]; exact Nat.le_add_right _ _
        · rw [z]; exact Nat.le_refl _
      exact I1.fpOk hle (I1.hok.fresh hle)
    rcases q with ⟨hq, q⟩ | ⟨hq, q⟩
    · obtain ⟨its, rv, p', hz⟩ := I1.list hq
      refine call_enumerate_list p'.isList fun h' he hit hsz hk => wpAny_pyIter_enum he ?_
      have I2 : Inv X pins σ H1 { s1 with heap := h' } := I1.kept (t' := s1.toks) hk
      exact ⟨s1.heap.objs.size + 1, [s1.heap.objs.size + 1, s1.heap.objs.size], _, _, H1, rfl, I2, turn_enum a (s1.heap.objs.size + 1) s1.heap.objs.size, ⟨⟨.none, he⟩, hit, Nat.succ_ne_self _⟩, fp2, q⟩
    · obtain ⟨its, rv, p', hz⟩ := I1.tuple hq
      refine enum_begins1 (begins_tuple a its.toArray) (show s1.heap.IsTuple a its.toArray from p') fun h' he hit hsz hk => wpAny_pyIter_enum he ?_
      have I2 : Inv X pins σ H1 { s1 with heap := h' } := I1.kept (t' := s1.toks) hk
      exact ⟨s1.heap.objs.size + 1, [s1.heap.objs.size + 1, s1.heap.objs.size], _, _, H1, rfl, I2, turn_enumT a (s1.heap.objs.size + 1) s1.heap.objs.size, ⟨⟨.none, he⟩, ⟨_, hit, rfl, rfl⟩, Nat.succ_ne_self _⟩, fp2, q⟩
/-- any list, tuple, text -/
def iAny (K : PySem.W.Frag) (te : TE) : TI := fun σ H R => te σ H fun v H1 => (∃ a xs, v = .ref a ∧ SqL K H1 a xs ∧ R (Itl K a) H1) ∨ (∃ a xs, v = .ref a ∧ SqT K H1 a xs ∧ R (Itt K a) H1) ∨ ∃ x, v = .str x ∧ R (Its x) H1
theorem pi_any {X : Cx} {tg e : Expr} {te : TE} (he : PE X e te) : PI X tg e (iAny X.K te) := by
  refine ⟨fun pins s σ H R I h => ?_⟩
  refine thn (he.run pins s σ H _ I h) fun v s1 ⟨y, H1, I1, r1, q⟩ => ?_
  rcases q with ⟨a, xs, e, hq, q⟩ | ⟨a, xs, e, hq, q⟩ | ⟨x, e, q⟩
  · subst e
    cases r1
    obtain ⟨its, rv, p, hz⟩ := I1.list hq
    exact wpAny_pyIter_list p.isList (pi_one (tk := s1.toks) I1 _ (turn_list a _) ⟨_, Heap.get?_push_size _ rfl, rfl, rfl⟩ q)
  · subst e
    cases r1
    obtain ⟨its, rv, p, hz⟩ := I1.tuple hq
    exact wpAny_pyIter_tuple (show s1.heap.IsTuple a its.toArray from p) (pi_one (tk := s1.toks) I1 _ (turn_tuple a _) ⟨_, Heap.get?_push_size _ rfl, rfl, rfl⟩ q)
  · subst e
    obtain ⟨t, rfl⟩ := r1
    cases ha : x.cps.all (· < 128)
    · exact wpAny_pyIter_wide ha (pi_one (tk := s1.toks) I1 _ (turn_str _ x t "str_iterator" (.inr rfl)) ⟨_, Heap.get?_push_size _ rfl, rfl, rfl⟩ q)
    · exact wpAny_pyIter_ascii ha (pi_one (tk := s1.toks) I1 _ (turn_str _ x t "str_ascii_iterator" (.inl rfl)) ⟨_, Heap.get?_push_size _ rfl, rfl, rfl⟩ q)
end PI

set_option linter.all false
set_option maxRecDepth 100000
set_option maxHeartbeats 1000000
/-! P7b: zip over lists and tuples, in any mix. -/
namespace PI
open PySem PySem.Spec PyProof.Rows L2
def SqK (K : PySem.W.Frag) (b : Bool) (H : Hp) (a : Addr) (xs : List V) : Prop := match b with
  | true => SqT K H a xs
  | false => SqL K H a xs
def ItK (b : Bool) (h : Heap) (it a : Addr) (i : Nat) : Prop := match b with
  | true => h.IsTupleIter it a i
  | false => h.IsListIter it a i
def HasK (b : Bool) (h : Heap) (a : Addr) (its : Array Value) : Prop := match b with
  | true => h.IsTuple a its
  | false => h.IsList a its
def objK (b : Bool) (a : Addr) : Obj := match b with
  | true => { cls := .type "tuple_iterator", data := .fields #[.ref a, .int 0 0] }
  | false => { cls := .type "list_iterator", data := .fields #[.ref a, .int 0 0] }
theorem beginsK (b : Bool) (a : Addr) (its : Array Value) : Begins (.ref a) (objK b a) (fun h => HasK b h a its) := by
  cases b
  · exact begins_list a its
  · exact begins_tuple a its
theorem drawsK {prog : Program} {w : World} {A : Around} (hh : A.handled = none) (b : Bool) (it a : Addr) (hne : a ≠ it) (its : Array Value) :
    Draws prog w A it [it, a] its.size (fun i v => its[i]? = some v) (fun i h => ItK b h it a i ∧ HasK b h a its) := by
  cases b
  · exact Draws.list hh it a hne its
  · exact Draws.tuple hh it a hne its
theorem ItK.at {b : Bool} {h h' : Heap} {it a : Addr} {i : Nat} (s : ItK b h it a i) (k : ∀ o, h.get? it = some o → h'.get? it = some o) : ItK b h' it a i := by
  cases b
  · exact Heap.IsListIter.at s k
  · exact Heap.IsTupleIter.at s k
theorem ItK.obj {b : Bool} {h : Heap} {it a : Addr} {i : Nat} (s : ItK b h it a i) : ∃ o, h.get? it = some o ∧ ∀ v, o.data ≠ .cell v := by
  cases b
  · obtain ⟨o, e, c, d⟩ := s
    exact ⟨o, e, fun v z => by rw [d] at z; cases z⟩
  · obtain ⟨o, e, c, d⟩ := s
    exact ⟨o, e, fun v z => by rw [d] at z; cases z⟩
theorem ItK.zero {b : Bool} {h : Heap} {it a : Addr} (e : h.get? it = some (objK b a)) : ItK b h it a 0 := by
  cases b
  · exact ⟨_, e, rfl, rfl⟩
  · exact ⟨_, e, rfl, rfl⟩
theorem HasK.lt {b : Bool} {h : Heap} {a : Addr} {its : Array Value} (s : HasK b h a its) : a < h.objs.size := by
  cases b
  · obtain ⟨o, e, _⟩ := s; exact Heap.lt_size e
  · obtain ⟨o, e, _⟩ := s; exact Heap.lt_size e
theorem Inv.sqk {X : Cx} {pins : List (Addr × Obj)} {σ : St} {H : Hp} {s : Shared} (I : Inv X pins σ H s) {b : Bool} {a : Addr} {xs : List V} (q : SqK X.K b H a xs) : ∃ its : List Value, Vals xs its ∧ HasK b s.heap a its.toArray := by
  cases b
  · obtain ⟨its, rv, p, _⟩ := I.list q
    exact ⟨its, rv, p.isList⟩
  · obtain ⟨its, rv, p, _⟩ := I.tuple q
    exact ⟨its, rv, p⟩
theorem Inv.sqk_inj {X : Cx} {pins : List (Addr × Obj)} {σ : St} {H : Hp} {s : Shared} (I : Inv X pins σ H s) {b : Bool} {a : Addr} {xs ys : List V} (q : SqK X.K b H a xs) (p : SqK X.K b H a ys) : xs = ys := by
  cases b
  · exact I.list_inj q p
  · exact I.tuple_inj q p
def ItzK (K : PySem.W.Frag) (k1 k2 : Bool) (a b : Addr) : L2.It :=
  ⟨fun i H => ∃ (xs ys : List V) (x y : V), SqK K k1 H a xs ∧ SqK K k2 H b ys ∧ xs[i]? = some x ∧ ys[i]? = some y,
    fun i H v H' => ∃ T x y, v = .ref T ∧ H T = none ∧ H' = upd H T (.tup [x, y]) ∧ (∀ xs, SqK K k1 H a xs → xs[i]? = some x) ∧ ∀ ys, SqK K k2 H b ys → ys[i]? = some y,
    fun i H => ∃ xs ys : List V, SqK K k1 H a xs ∧ SqK K k2 H b ys ∧ i = min xs.length ys.length⟩
theorem turn_zipK {P : Program} {w : World} {K : PySem.W.Frag} {elts : List Expr} {kk : Nat} {tpos : Pos} {a b z TI TO i1 i2 : Addr} (k1 k2 : Bool) (S : ZipSep2 z TI TO i1 i2 [i1, a] [i2, b]) (na : a ≠ i1) (nb : b ≠ i2) :
    Turn P w K (.Tuple elts kk tpos) (ItzK K k1 k2 a b) [z, TI, TO, i1, i2] z (fun i h => IsZip h z TI TO .none ∧ IsTupOf2 h TI (.ref i1) (.ref i2) ∧ (∃ x y, IsTupOf2 h TO x y) ∧ ItK k1 h i1 a i ∧ ItK k2 h i2 b i) where
  mem := by simp
  obj := fun i h st c hc => by
    obtain ⟨hz, hTI, ⟨x, y, hTO⟩, s1, s2⟩ := st
    have e' : c = z ∨ c = TI ∨ c = TO ∨ c = i1 ∨ c = i2 := by simpa using hc
    rcases e' with q | q | q | q | q
    · rw [q]; exact ⟨_, hz, fun v q => nomatch q⟩
    · rw [q]; exact ⟨_, hTI, fun v q => nomatch q⟩
    · rw [q]; exact ⟨_, hTO, fun v q => nomatch q⟩
    · rw [q]; exact s1.obj
    · rw [q]; exact s2.obj
  keep := fun i h h' st k => by
    obtain ⟨hz, hTI, ⟨x, y, hTO⟩, h1, h2⟩ := st
    exact ⟨k z (by simp) _ hz, k TI (by simp) _ hTI, ⟨x, y, k TO (by simp) _ hTO⟩, h1.at fun o q => k i1 (by simp) o q, h2.at fun o q => k i2 (by simp) o q⟩
  item := by
    intro X hP hw hK hc i pins s σ H E I hf st hg
    subst hP hw hK
    obtain ⟨hz, hTI, ⟨x0, y0, hTO⟩, h1, h2⟩ := st
    obtain ⟨xs, ys, x, y, hqx, hqy, hx, hy⟩ := hg
    obtain ⟨its, rv, p⟩ := Inv.sqk I hqx
    obtain ⟨its2, rv2, p2⟩ := Inv.sqk I hqy
    obtain ⟨u, hu, ru⟩ := rv.get hx
    obtain ⟨u2, hu2, ru2⟩ := rv2.get hy
    have hzl : z < s.heap.objs.size := Heap.lt_size hz
    have l1 : i < its.toArray.size := by have := (List.getElem?_eq_some_iff.mp hu).1; simpa using this
    have l2 : i < its2.toArray.size := by have := (List.getElem?_eq_some_iff.mp hu2).1; simpa using this
    refine wpAny_pyNext_zipD2_item S (drawsK (prog := X.prog) (w := X.w) (A := X.A.in1) (I.ok.hd hc) k1 i1 a na its.toArray) (drawsK (prog := X.prog) (w := X.w) (A := X.A.in1) (I.ok.hd hc) k2 i2 b nb its2.toArray) hz hTI hTO ⟨h1, p⟩ ⟨h2, p2⟩ l1 l2
      fun v1 v2 h' tk e1 e2 z' TO' h1' h2' hT hsz hk => ?_
    have e1 : v1 = u := by
      have e1 : its.toArray[i]? = some v1 := e1
      have hu' : its.toArray[i]? = some u := by simpa using hu
      rw [e1] at hu'; exact Option.some.inj hu'
    have e2 : v2 = u2 := by
      have e2 : its2.toArray[i]? = some v2 := e2
      have hu' : its2.toArray[i]? = some u2 := by simpa using hu2
      rw [e2] at hu'; exact Option.some.inj hu'
    subst e1 e2
    refine ⟨_, rfl, wpAny_letOwnedTupleGo_zip (s := { s with heap := h', toks := tk }) z' fun h'' z'' sb => ?_⟩
    have hT2 : h''.get? s.heap.objs.size = some { cls := .type "tuple", data := .seq #[v1, v2] } := (sb.2 _ (Nat.ne_of_gt hzl)).trans hT
    have new : ObjOk X.prog X.w (upd H s.heap.objs.size (.tup [x, y])) h'' s.heap.objs.size (.tup [x, y]) :=
      ⟨by show 2 ≤ sizeLine; decide, [v1, v2], .cons ru (.cons ru2 .nil), ⟨_, hT2, rfl, _, rfl⟩⟩
    have I1 : Inv X pins σ (upd H s.heap.objs.size (.tup [x, y])) { s with heap := h'', toks := tk } :=
      I.turnedNew (ch := [z, TI, TO, i1, i2]) (fun c o hb q => (sb.2 c (fun q' => hb (by simp [q']))).trans (hk c o (fun q' => hb (by simp [q'])) (fun q' => hb (by simp [q'])) (fun q' => hb (by simp [q'])) (fun q' => hb (by simp [q'])) q)) hf (Nat.le_refl _) new
    refine ⟨.ref s.heap.objs.size, _, I1, rfl, ⟨_, x, y, rfl, I.hok.fresh (Nat.le_refl _), rfl, fun l hl => by rw [Inv.sqk_inj I hl hqx]; exact hx, fun l hl => by rw [Inv.sqk_inj I hl hqy]; exact hy⟩, ⟨z'', ?_, ⟨v1, v2, ?_⟩, ?_, ?_⟩, fun c hcm => ?_⟩
    · exact (sb.2 _ S.TIz).trans (hk _ _ S.TIz S.TITO S.TIi1 S.TIi2 hTI)
    · exact (sb.2 _ S.TOz).trans TO'
    · exact h1'.1.at fun o q => (sb.2 _ (Ne.symm S.zi1)).trans q
    · exact h2'.1.at fun o q => (sb.2 _ (Ne.symm S.zi2)).trans q
    · have hlt : c < s.heap.objs.size := by
        have e' : c = z ∨ c = TI ∨ c = TO ∨ c = i1 ∨ c = i2 := by simpa using hcm
        rcases e' with q | q | q | q | q
        · rw [q]; exact hzl
        · rw [q]; exact Heap.lt_size hTI
        · rw [q]; exact Heap.lt_size hTO
        · rw [q]; obtain ⟨_, e1, _⟩ := h1.obj; exact Heap.lt_size e1
        · rw [q]; obtain ⟨_, e2, _⟩ := h2.obj; exact Heap.lt_size e2
      rw [upd_ne (Nat.ne_of_lt hlt)]
      exact (hf c hcm).1
  done := by
    intro X hP hw hK hc i pins s σ H E I hf st hg
    subst hP hw hK
    obtain ⟨hz, hTI, ⟨x0, y0, hTO⟩, h1, h2⟩ := st
    obtain ⟨xs, ys, hqx, hqy, hend⟩ := hg
    obtain ⟨its, rv, p⟩ := Inv.sqk I hqx
    obtain ⟨its2, rv2, p2⟩ := Inv.sqk I hqy
    have l1 := rv.length
    have l2 := rv2.length
    have z1 : its.toArray.size = its.length := List.size_toArray
    have z2 : its2.toArray.size = its2.length := List.size_toArray
    exact wpAny_pyNext_zipD2_end S (drawsK (prog := X.prog) (w := X.w) (A := X.A.in1) (I.ok.hd hc) k1 i1 a na its.toArray) (drawsK (prog := X.prog) (w := X.w) (A := X.A.in1) (I.ok.hd hc) k2 i2 b nb its2.toArray) hz hTI hTO ⟨h1, p⟩ ⟨h2, p2⟩ (by omega) (by omega) (by omega)
      fun h' tk hk => ⟨rfl, I.turnedL (ch := [z, TI, TO, i1, i2]) (fun c o hb q =>
      hk c o (fun q' => hb (by simp [q'])) (fun q' => hb (by simp [q'])) (fun q' => hb (by simp [q'])) (fun q' => hb (by simp [q'])) q) hf⟩
  self := fun A i s Q E st h => wpAny_pyIter_zip st.1 h
def iZipK (K : PySem.W.Frag) (ta : TA) : TI := fun σ H R => ta σ H fun vs H1 => ∃ k1 k2 a b xs ys, vs = [.ref a, .ref b] ∧ SqK K k1 H1 a xs ∧ SqK K k2 H1 b ys ∧ R (ItzK K k1 k2 a b) H1
theorem pi_zipK {X : Cx} {e e2 : Expr} {ta : TA} {p pos tpos : Pos} {elts : List Expr} {kk : Nat} (hg : Gl X "zip") (hm : X.mg "zip" = none) (ha : PA X [e, e2] ta)
    (hs : starEach [e, e2] X.env = (false, eval e X.env) :: starEach [e2] X.env) (hpl : (backTo pos (starEach [e2] X.env)).any (·.1) = false) :
    PI X (.Tuple elts kk tpos) (.Call (.Name "zip" p) [e, e2] [] pos) (iZipK X.K ta) := by
  refine ⟨fun pins s σ H R I h => ?_⟩
  refine Call_ (ld_blt I hg hm PyProof.Rows.boot_zip (PyProof.Rows.callWith_type1 (thn (ha.run pos pins s σ H _ I h) fun us s1 ⟨vs, H1, I1, r1, q1⟩ => ?_) hs hpl))
  obtain ⟨k1, k2, a, b, xs, ys, ex, hqx, hqy, q⟩ := q1
  subst ex
  cases r1 with
  | cons r rr =>
    cases rr with
    | cons r' rr =>
      cases rr
      cases r
      cases r'
      have fresh5 : ∀ c, c ∈ [s1.heap.objs.size + 4, s1.heap.objs.size + 2, s1.heap.objs.size + 3, s1.heap.objs.size, s1.heap.objs.size + 1] → FpOk X pins H1 c := fun c hcm => by
        have e' : c = s1.heap.objs.size + 4 ∨ c = s1.heap.objs.size + 2 ∨ c = s1.heap.objs.size + 3 ∨ c = s1.heap.objs.size ∨ c = s1.heap.objs.size + 1 := by simpa using hcm
        have hle : s1.heap.objs.size ≤ c := by
          rcases e' with z | z | z | z | z
          · rw [z]; exact Nat.le_add_right _ _
          · rw [z]; exact Nat.le_add_right _ _
          · rw [z]; exact Nat.le_add_right _ _
          · rw [z]; exact Nat.le_refl _
          · rw [z]; exact Nat.le_add_right _ _
        exact I1.fpOk hle (I1.hok.fresh hle)
      obtain ⟨its, rv, p1⟩ := Inv.sqk I1 hqx
      obtain ⟨its2, rv2, p2⟩ := Inv.sqk I1 hqy
      have la := p1.lt
      have lb := p2.lt
      refine zip_begins2 (beginsK k1 a its.toArray) (beginsK k2 b its2.toArray) p1 p2 fun h' hz hTI hTO h1 h2 hsz hk => wpAny_pyIter_zip hz ?_
      have I2 : Inv X pins σ H1 { s1 with heap := h' } := I1.kept (t' := s1.toks) hk
      refine ⟨s1.heap.objs.size + 4, [s1.heap.objs.size + 4, s1.heap.objs.size + 2, s1.heap.objs.size + 3, s1.heap.objs.size, s1.heap.objs.size + 1], _, _, H1, rfl, I2,
        turn_zipK k1 k2 (zip_sep2 (fp1 := [a]) (fp2 := [b]) (fun c hc => ?_) (fun c hc => ?_)) (Nat.ne_of_lt la) (Nat.ne_of_lt (Nat.lt_succ_of_lt lb)), ⟨hz, hTI, ⟨_, _, hTO⟩, .zero h1, .zero h2⟩, fresh5, q⟩
      · have e : c = a := by simpa using hc
        rw [e]; exact la
      · have e : c = b := by simpa using hc
        rw [e]; exact lb
end PI

set_option linter.all false
set_option maxRecDepth 100000
set_option maxHeartbeats 1000000
/-! P8: iterables, targets. -/
namespace PI
open PySem PySem.Spec PyProof.Rows L2

section
variable {Γ : Fm} {W : WX} {c : Cn} {σ σ' σ2 : St} {H H' H1 H2 : Hp} {s s1 s2 s' : Sl}
theorem getS_set_ne {i j : Nat} {x : Slot} (h : j ≠ i) : getS (s.set i x) j = getS s j := by
  unfold getS
  rw [List.getD_eq_getElem?_getD, List.getD_eq_getElem?_getD, List.getElem?_set_ne (fun z => h z.symm)]
/-- a slot is seen otherwise: the step -/
theorem Step.reslot {i : Nat} {x : Slot} (hi : i < s.length) (hm : x.mine = true → (getS s i).mine = true) (hc : x.mut = true → (getS s i).mut = true)
    (f1 : ∀ d, getS s i = .ino d → ∃ d', x = .ino d' ∨ x = .lent false d') (f2 : ∀ b d, getS s i = .lent b d → x = .lent b d) : Step Γ σ s H σ (s.set i x) H := by
  refine ⟨fun _ _ h _ _ => h, fun _ h => h, fun a h => .inl (Ch.sub hi hc a h), fun a h => .inl (MM.sub hi hm a h), fun j => ⟨fun d hd => ⟨rfl, ?_⟩, fun b d hd => ⟨rfl, ?_⟩⟩⟩
  · rw [getS_set hi]
    by_cases z : j = i
    · subst z; rw [if_pos rfl]; exact f1 d hd
    · rw [if_neg z]; exact ⟨d, .inl hd⟩
  · rw [getS_set hi]
    by_cases z : j = i
    · subst z; rw [if_pos rfl]; exact f2 b d hd
    · rw [if_neg z]; exact hd

/-- what is walked: a value, or a list that nobody changes meanwhile -/
def RepC (G : Gm) (H : Hp) (C M : Addr → Prop) (d : D) (v : V) : Prop := Rep G H M d v ∨ ∃ a, v = .ref a ∧ Cont G H M d a ∧ ¬ C a
theorem RepC.step (e : EnvOk Γ H σ s) (t : Step Γ σ s H σ' s' H') {d : D} {v : V} (r : RepC Γ.G H (Ch σ s) (MM Γ σ s) d v) : RepC Γ.G H' (Ch σ' s') (MM Γ σ' s') d v := by
  rcases r with r | ⟨a, e1, c1, n1⟩
  · exact .inl (Rep.step e t r)
  · refine .inr ⟨a, e1, c1.mono (fun a o e1 nm nt => t.keep a o e1 (fun z => nm (e.chM z)) nt) (fun a z => t.mm a z) (fun o ho nt => t.keep a o ho n1 nt), fun z => ?_⟩
    rcases t.ch a z with z | z
    · exact n1 z
    · cases d with
      | lst ds => obtain ⟨vs, h1, _⟩ := c1; rw [h1] at z; cases z
      | _ => exact c1.elim
theorem EnvOk.lend (e : EnvOk Γ H σ s) {i : Nat} {d : D} (h : lend s i = some (d, s1)) :
    EnvOk Γ H σ s1 ∧ Step Γ σ s H σ s1 H ∧ ∃ v, sAt σ i = some v ∧ RepC Γ.G H (Ch σ s1) (MM Γ σ s1) d v := by
  have q := e.slot i
  unfold PI.lend at h
  have lent : ∀ b, getS s i = .lent b d → s = s1 → EnvOk Γ H σ s1 ∧ Step Γ σ s H σ s1 H ∧ ∃ v, sAt σ i = some v ∧ RepC Γ.G H (Ch σ s1) (MM Γ σ s1) d v := fun b hb z => by
    subst z
    have hh : (getS s i).held = true := by rw [hb]; rfl
    refine ⟨e, Step.refl, ?_⟩
    have nc : ∀ a, sAt σ i = some (.ref a) → ¬ Ch σ s a := fun a ha ⟨j, h1, h2⟩ => by
      have := e.dis j i a (mut_held h2) hh h1 ha
      subst this
      rw [hb] at h2; simp [Slot.mut] at h2
    rw [hb] at q
    cases b with
    | true => obtain ⟨a, h1, _, _, h4⟩ := q; exact ⟨_, h1, .inr ⟨a, rfl, h4, nc a h1⟩⟩
    | false => obtain ⟨a, h1, _, h4⟩ := q; exact ⟨_, h1, .inr ⟨a, rfl, h4, nc a h1⟩⟩
  split at h
  · rename_i d' hs
    cases h
    rw [hs] at q
    obtain ⟨v, h1, h2⟩ := q
    exact ⟨e, Step.refl, v, h1, .inl h2⟩
  · rename_i d' hs
    cases h
    have hi : i < s.length := getS_lt (by rw [hs]; simp)
    have mm := MM.sub (Γ := Γ) (σ := σ) (x := .lent true d) hi (fun _ => by rw [hs]; rfl)
    rw [hs] at q
    obtain ⟨a, h1, h2, h3, h4⟩ := q
    have h4' : Cont Γ.G H (MM Γ σ (s.set i (.lent true d))) d a := h4.mono (fun _ _ h _ _ => h) (fun b z => .inl (mm b z)) (fun _ h _ => h)
    refine ⟨e.reslot hi mm ⟨a, h1, h2, h3, h4'⟩ (fun _ => by rw [hs]; rfl), Step.reslot hi (fun _ => by rw [hs]; rfl) (fun z => by simp [Slot.mut] at z) (fun d' hd => by rw [hs] at hd; cases hd) (fun b d' hd => by rw [hs] at hd; cases hd), _, h1, .inr ⟨a, rfl, h4', fun ⟨j, z1, z2⟩ => ?_⟩⟩
    rw [getS_set hi] at z2
    by_cases w : j = i
    · rw [if_pos w] at z2; simp [Slot.mut] at z2
    · rw [if_neg w] at z2
      exact w (e.dis j i a (mut_held z2) (by rw [hs]; rfl) z1 h1)
  · rename_i d' hs
    cases h
    have hi : i < s.length := getS_lt (by rw [hs]; simp)
    have mm := MM.sub (Γ := Γ) (σ := σ) (x := .lent false d) hi (fun z => by simp [Slot.mine] at z)
    rw [hs] at q
    obtain ⟨a, h1, h2, h4⟩ := q
    have h4' : Cont Γ.G H (MM Γ σ (s.set i (.lent false d))) d a := h4.mono (fun _ _ h _ _ => h) (fun b z => .inl (mm b z)) (fun _ h _ => h)
    refine ⟨e.reslot hi mm ⟨a, h1, h2, h4'⟩ (fun _ => by rw [hs]; rfl), Step.reslot hi (fun z => by simp [Slot.mine] at z) (fun z => by simp [Slot.mut] at z) (fun d' hd => ⟨d, .inr rfl⟩) (fun b d' hd => by rw [hs] at hd; cases hd), _, h1, .inr ⟨a, rfl, h4', fun ⟨j, z1, z2⟩ => ?_⟩⟩
    rw [getS_set hi] at z2
    by_cases w : j = i
    · rw [if_pos w] at z2; simp [Slot.mut] at z2
    · rw [if_neg w] at z2
      exact w (e.dis j i a (mut_held z2) (by rw [hs]; rfl) z1 h1)
  · rename_i b d' hs
    cases h
    exact lent b hs rfl
  · cases h
/-- behind the walk -/
theorem unlend_ok (t1 : Step Γ σ s H σ s1 H1) (t2 : Step Γ σ s1 H1 σ' s2 H') : ∀ (is : List Nat) , EnvOk Γ H' σ' s2 → Step Γ σ s H σ' s2 H' → EnvOk Γ H' σ' (unlend s s1 s2 is) ∧ Step Γ σ s H σ' (unlend s s1 s2 is) H' ∧ ∀ a, MM Γ σ' (unlend s s1 s2 is) a → MM Γ σ' s2 a
  | [], e, t => ⟨e, t, fun _ h => h⟩
  | i :: r, e, t => by
    obtain ⟨e, t, m0⟩ := unlend_ok t1 t2 r e t
    show EnvOk Γ H' σ' (unlend1 s s1 (unlend s s1 s2 r) i) ∧ Step Γ σ s H σ' (unlend1 s s1 (unlend s s1 s2 r) i) H' ∧ ∀ a, MM Γ σ' (unlend1 s s1 (unlend s s1 s2 r) i) a → MM Γ σ' s2 a
    generalize unlend s s1 s2 r = s3 at e t m0
    unfold unlend1
    split
    · rename_i x d0 d1 d h0 h1 h3
      have hi : i < s3.length := getS_lt (by rw [h3]; simp)
      have hσ : sAt σ' i = sAt σ i := ((t2.fix i).2 true d1 h1).1
      have mm := MM.sub (Γ := Γ) (σ := σ') (x := .own d) hi (fun _ => by rw [h3]; rfl)
      have q := e.slot i
      rw [h3] at q
      obtain ⟨a, g1, g2, g3, g4⟩ := q
      refine ⟨e.reslot hi mm ⟨a, g1, g2, g3, g4.mono (fun _ _ h _ _ => h) (fun b z => .inl (mm b z)) (fun _ h _ => h)⟩ (fun _ => by rw [h3]; rfl), ⟨t.keep, t.dom, fun b hb => ?_, fun b hb => t.mm b (mm b hb), fun j => ⟨fun d' hd => ?_, fun bb d' hd => ?_⟩⟩, fun b h => m0 b (mm b h)⟩
      · obtain ⟨j, z1, z2⟩ := hb
        rw [getS_set hi] at z2
        by_cases w : j = i
        · subst w
          exact .inl ⟨j, by rw [← hσ]; exact z1, by rw [h0]; rfl⟩
        · rw [if_neg w] at z2
          exact t.ch b ⟨j, z1, z2⟩
      · rw [getS_set hi]
        by_cases w : j = i
        · subst w; rw [h0] at hd; cases hd
        · rw [if_neg w]; exact (t.fix j).1 d' hd
      · rw [getS_set hi]
        by_cases w : j = i
        · subst w; rw [h0] at hd; cases hd
        · rw [if_neg w]; exact (t.fix j).2 bb d' hd
    · rename_i x d0 d1 d h0 h1 h3
      have hi : i < s3.length := getS_lt (by rw [h3]; simp)
      have hσ : sAt σ' i = sAt σ i := ((t2.fix i).2 false d1 h1).1
      have mm := MM.sub (Γ := Γ) (σ := σ') (x := .ino d) hi (fun z => by simp [Slot.mine] at z)
      have q := e.slot i
      rw [h3] at q
      obtain ⟨a, g1, g2, g4⟩ := q
      refine ⟨e.reslot hi mm ⟨a, g1, g2, g4.mono (fun _ _ h _ _ => h) (fun b z => .inl (mm b z)) (fun _ h _ => h)⟩ (fun _ => by rw [h3]; rfl), ⟨t.keep, t.dom, fun b hb => ?_, fun b hb => t.mm b (mm b hb), fun j => ⟨fun d' hd => ?_, fun bb d' hd => ?_⟩⟩, fun b h => m0 b (mm b h)⟩
      · obtain ⟨j, z1, z2⟩ := hb
        rw [getS_set hi] at z2
        by_cases w : j = i
        · subst w
          exact .inl ⟨j, by rw [← hσ]; exact z1, by rw [h0]; rfl⟩
        · rw [if_neg w] at z2
          exact t.ch b ⟨j, z1, z2⟩
      · rw [getS_set hi]
        by_cases w : j = i
        · subst w; rw [if_pos rfl]; exact ⟨hσ, d, .inl rfl⟩
        · rw [if_neg w]; exact (t.fix j).1 d' hd
      · rw [getS_set hi]
        by_cases w : j = i
        · subst w; rw [h0] at hd; cases hd
        · rw [if_neg w]; exact (t.fix j).2 bb d' hd
    · exact ⟨e, t, m0⟩
end

/-! ### iterators by values -/
def Lat (H1 : Hp) (C : Addr → Prop) (H : Hp) : Prop := ∀ a o, H1 a = some o → ¬ C a → NT o → H a = some o
structure ItOk (G : Gm) (H1 : Hp) (C M : Addr → Prop) (J : L2.It) (ds : List D) : Prop where
  goes : ∀ i H, i < ds.length → Lat H1 C H → J.go i H
  stops : ∀ H, Lat H1 C H → J.stop ds.length H
  yields : ∀ i H x H' M', i < ds.length → Lat H1 C H → (∀ a, M' a → M a ∨ H1 a = none) → (∀ a, M' a → H a ≠ none) → J.yld i H x H' → (∀ a o, H a = some o → H' a = some o) ∧ ∃ d, ds[i]? = some d ∧ Rep G H' M' d x
theorem Lat.of {Γ : Fm} {σ σ' : St} {s s' : Sl} {H H' : Hp} (t : Step Γ σ s H σ' s' H') : Lat H (Ch σ s) H' := t.keep
section
variable {G : Gm} {H1 : Hp} {C M : Addr → Prop} {K : PySem.W.Frag}
/-- a sequence there, and what it will be -/
structure SqIs (G : Gm) (H1 : Hp) (C M : Addr → Prop) (P : Hp → Addr → List V → Prop) (a : Addr) (ds : List D) (xs : List V) : Prop where
  at' : ∀ H, Lat H1 C H → P H a xs
  len : ds.length = xs.length
  item : ∀ (i : Nat) (x : V), xs[i]? = some x → ∃ d, ds[i]? = some d ∧ ∀ H M', Lat H1 C H → (∀ a, M' a → M a ∨ H1 a = none) → Rep G H M' d x
theorem SqIs.of {P : Hp → Addr → List V → Prop} {a : Addr} {ds : List D} {xs : List V} (hCM : ∀ a, C a → M a) (h : ∀ H, Lat H1 C H → P H a xs) (r : Reps G H1 M ds xs) : SqIs G H1 C M P a ds xs :=
  ⟨h, r.len, fun i x hx => by
    obtain ⟨d, h1, h2⟩ := r.get' hx
    exact ⟨d, h1, fun H M' l m => Rep.mono (fun a o e nm nt => l a o e (fun z => nm (hCM a z)) nt) m d x h2⟩⟩
theorem sqis_cont (hCM : ∀ a, C a → M a) {ds : List D} {v : V} (r : RepC G H1 C M (.lst ds) v) : ∃ a xs, v = .ref a ∧ SqIs G H1 C M (SqL G.K) a ds xs := by
  rcases r with ⟨a, vs, e, q, r⟩ | ⟨a, e, ⟨vs, q, r⟩, n⟩
  · exact ⟨a, vs, e, .of hCM (fun H l => SqL.of (l a _ q.1 (fun z => q.2 (hCM a z)) (fun ps z => by cases z))) r⟩
  · exact ⟨a, vs, e, .of hCM (fun H l => SqL.of (l a _ q n (fun ps z => by cases z))) r⟩
theorem sqis_tup (hCM : ∀ a, C a → M a) {ds : List D} {v : V} (r : RepC G H1 C M (.tup ds) v) : ∃ a xs, v = .ref a ∧ SqIs G H1 C M (SqT G.K) a ds xs := by
  rcases r with ⟨a, vs, e, q, r⟩ | ⟨a, e, q, n⟩
  · refine ⟨a, vs, e, .of hCM (fun H l => ?_) r⟩
    rcases q with ⟨q1, q2⟩ | q
    · exact .inl (Rd.keep (fun ps z => by cases z) q1 fun o e1 nt => l a o e1 (fun z => q2 (hCM a z)) nt)
    · exact .inr q
  · exact q.elim
theorem sqis_any (hCM : ∀ a, C a → M a) {d : D} {ds : List D} {v : V} (h : iterD d = some ds) (r : RepC G H1 C M d v) : ∃ k a xs, v = .ref a ∧ SqIs G H1 C M (SqK G.K k) a ds xs := by
  cases d with
  | lst ds' =>
    cases h
    obtain ⟨a, xs, ev, sq⟩ := sqis_cont hCM r
    exact ⟨false, a, xs, ev, sq⟩
  | tup ds' =>
    cases h
    obtain ⟨a, xs, ev, sq⟩ := sqis_tup hCM r
    exact ⟨true, a, xs, ev, sq⟩
  | _ => simp [iterD] at h
theorem itok_list {a : Addr} {ds : List D} {xs : List V} (q : SqIs G H1 C M (SqL K) a ds xs) : ItOk G H1 C M (Itl K a) ds := by
  refine ⟨fun i H hi l => ⟨xs, xs[i]'(by rw [← q.len]; exact hi), q.at' H l, by simp [show i < xs.length by rw [← q.len]; exact hi]⟩, fun H l => ⟨xs, q.at' H l, by rw [q.len]; exact Nat.le_refl _⟩, fun i H x H' M' hi l m k y => ?_⟩
  obtain ⟨e, y⟩ := y
  subst e
  obtain ⟨d, h1, h2⟩ := q.item i x (y xs (q.at' _ l))
  exact ⟨fun _ _ h => h, d, h1, h2 _ M' l m⟩
theorem itok_tup {a : Addr} {ds : List D} {xs : List V} (q : SqIs G H1 C M (SqT K) a ds xs) : ItOk G H1 C M (Itt K a) ds := by
  refine ⟨fun i H hi l => ⟨xs, xs[i]'(by rw [← q.len]; exact hi), q.at' H l, by simp [show i < xs.length by rw [← q.len]; exact hi]⟩, fun H l => ⟨xs, q.at' H l, by rw [q.len]; exact Nat.le_refl _⟩, fun i H x H' M' hi l m k y => ?_⟩
  obtain ⟨e, y⟩ := y
  subst e
  obtain ⟨d, h1, h2⟩ := q.item i x (y xs (q.at' _ l))
  exact ⟨fun _ _ h => h, d, h1, h2 _ M' l m⟩
theorem itok_str {z : List Nat} : ItOk G H1 C M (Its ⟨z.toArray⟩) (z.map fun c => .str [c]) := by
  refine ⟨fun i H hi l => by show i < z.toArray.size; simpa using hi, fun H l => by show z.toArray.size ≤ _; simp, fun i H x H' M' hi l m k y => ?_⟩
  obtain ⟨e, cc, h1, h2⟩ := y
  subst e
  refine ⟨fun _ _ h => h, .str [cc], ?_, h2⟩
  have h1 : z[i]? = some cc := by simpa using h1
  rw [List.getElem?_map, h1]; rfl
theorem enumL_length : ∀ (n : Nat) (ds : List D), (enumL n ds).length = ds.length
  | _, [] => rfl
  | n, d :: r => by rw [enumL, List.length_cons, List.length_cons, enumL_length]
theorem enumL_get : ∀ (n : Nat) (ds : List D) (i : Nat) (d : D), ds[i]? = some d → (enumL n ds)[i]? = some (.tup [.int ((n + i : Nat) : Int), d])
  | _, [], _, _, h => by simp at h
  | n, d :: r, 0, x, h => by simp at h; subst h; rfl
  | n, d :: r, i + 1, x, h => by
    rw [enumL, List.getElem?_cons_succ, enumL_get (n + 1) r i x (by simpa using h)]
    have : n + 1 + i = n + (i + 1) := by omega
    rw [this]
theorem itok_enumL {a : Addr} {ds : List D} {xs : List V} (q : SqIs G H1 C M (SqL K) a ds xs) : ItOk G H1 C M (Ite K a) (enumL 0 ds) := by
  refine ⟨fun i H hi l => ?_, fun H l => ⟨xs, q.at' H l, by rw [enumL_length, q.len]; exact Nat.le_refl _⟩, fun i H x H' M' hi l m k y => ?_⟩
  · rw [enumL_length, q.len] at hi
    exact ⟨xs, xs[i], q.at' H l, by simp [hi]⟩
  · obtain ⟨T, x0, rfl, hT, rfl, y⟩ := y
    obtain ⟨d, h1, h2⟩ := q.item i x0 (y xs (q.at' _ l))
    refine ⟨fun b u h => upd_keep hT b u h, _, enumL_get 0 ds i d h1, ?_⟩
    rw [Nat.zero_add]
    exact Rep.newTup k hT (Reps.cons rfl (Reps.one (h2 _ M' l m)))
theorem itok_enumT {a : Addr} {ds : List D} {xs : List V} (q : SqIs G H1 C M (SqT K) a ds xs) : ItOk G H1 C M (IteT K a) (enumL 0 ds) := by
  refine ⟨fun i H hi l => ?_, fun H l => ⟨xs, q.at' H l, by rw [enumL_length, q.len]; exact Nat.le_refl _⟩, fun i H x H' M' hi l m k y => ?_⟩
  · rw [enumL_length, q.len] at hi
    exact ⟨xs, xs[i], q.at' H l, by simp [hi]⟩
  · obtain ⟨T, x0, rfl, hT, rfl, y⟩ := y
    obtain ⟨d, h1, h2⟩ := q.item i x0 (y xs (q.at' _ l))
    refine ⟨fun b u h => upd_keep hT b u h, _, enumL_get 0 ds i d h1, ?_⟩
    rw [Nat.zero_add]
    exact Rep.newTup k hT (Reps.cons rfl (Reps.one (h2 _ M' l m)))
theorem zipL_length : ∀ (as bs : List D), (zipL as bs).length = min as.length bs.length
  | [], _ => by simp [zipL]
  | _ :: _, [] => by simp [zipL]
  | a :: as, b :: bs => by rw [zipL, List.length_cons, List.length_cons, List.length_cons, zipL_length]; omega
theorem zipL_get : ∀ (as bs : List D) (i : Nat) (x y : D), as[i]? = some x → bs[i]? = some y → (zipL as bs)[i]? = some (.tup [x, y])
  | [], _, _, _, _, h, _ => by simp at h
  | _ :: _, [], _, _, _, _, h => by simp at h
  | a :: as, b :: bs, 0, x, y, h, h' => by simp at h h'; subst h h'; rfl
  | a :: as, b :: bs, i + 1, x, y, h, h' => by
    rw [zipL, List.getElem?_cons_succ]
    exact zipL_get as bs i x y (by simpa using h) (by simpa using h')
theorem itok_zipK {k1 k2 : Bool} {a b : Addr} {ds es : List D} {xs ys : List V} (q : SqIs G H1 C M (SqK K k1) a ds xs) (p : SqIs G H1 C M (SqK K k2) b es ys) : ItOk G H1 C M (ItzK K k1 k2 a b) (zipL ds es) := by
  refine ⟨fun i H hi l => ?_, fun H l => ⟨xs, ys, q.at' H l, p.at' H l, by rw [zipL_length, q.len, p.len]⟩, fun i H x H' M' hi l m k y => ?_⟩
  · rw [zipL_length, q.len, p.len] at hi
    have i1 : i < xs.length := by omega
    have i2 : i < ys.length := by omega
    exact ⟨xs, ys, xs[i], ys[i], q.at' H l, p.at' H l, by simp [i1], by simp [i2]⟩
  · obtain ⟨T, x0, y0, rfl, hT, rfl, y1, y2⟩ := y
    obtain ⟨d, h1, h2⟩ := q.item i x0 (y1 xs (q.at' _ l))
    obtain ⟨d', h1', h2'⟩ := p.item i y0 (y2 ys (p.at' _ l))
    exact ⟨fun b u h => upd_keep hT b u h, _, zipL_get ds es i d d' h1 h1', Rep.newTup k hT (Reps.cons (h2 _ M' l m) (Reps.one (h2' _ M' l m)))⟩
theorem itok_rev {a : Addr} {ds : List D} {xs : List V} (q : SqIs G H1 C M (SqL K) a ds xs) : ItOk G H1 C M (Itv K a xs.length) ds.reverse := by
  refine ⟨fun i H hi l => ?_, fun H l => by show xs.length ≤ _; rw [List.length_reverse, q.len]; exact Nat.le_refl _, fun i H x H' M' hi l m k y => ?_⟩
  · rw [List.length_reverse, q.len] at hi
    exact ⟨hi, xs, xs[xs.length - 1 - i]'(by omega), q.at' H l, by simp [show xs.length - 1 - i < xs.length by omega]⟩
  · rw [List.length_reverse, q.len] at hi
    obtain ⟨rfl, y⟩ := y
    obtain ⟨d, h1, h2⟩ := q.item _ x (y xs (q.at' _ l))
    exact ⟨fun _ _ h => h, d, by rw [List.getElem?_reverse (by rw [q.len]; exact hi), q.len]; exact h1, h2 _ M' l m⟩
theorem itok_revT {a : Addr} {ds : List D} {xs : List V} (q : SqIs G H1 C M (SqT K) a ds xs) : ItOk G H1 C M (RT.ItvT K a xs.length) ds.reverse := by
  refine ⟨fun i H hi l => ?_, fun H l => by show xs.length ≤ _; rw [List.length_reverse, q.len]; exact Nat.le_refl _, fun i H x H' M' hi l m k y => ?_⟩
  · rw [List.length_reverse, q.len] at hi
    exact ⟨hi, xs, xs[xs.length - 1 - i]'(by omega), q.at' H l, by simp [show xs.length - 1 - i < xs.length by omega]⟩
  · rw [List.length_reverse, q.len] at hi
    obtain ⟨rfl, y⟩ := y
    obtain ⟨d, h1, h2⟩ := q.item _ x (y xs (q.at' _ l))
    exact ⟨fun _ _ h => h, d, by rw [List.getElem?_reverse (by rw [q.len]; exact hi), q.len]; exact h1, h2 _ M' l m⟩
theorem rangeL_length {lo : Int} {n : Nat} : (rangeL lo n).length = n := by unfold rangeL; rw [List.length_map, List.length_range]
theorem itok_range {lo : Int} {n : Nat} : ItOk G H1 C M (Itr lo n) (rangeL lo n) := by
  refine ⟨fun i H hi l => by rw [rangeL_length] at hi; exact hi, fun H l => by show n ≤ _; rw [rangeL_length]; exact Nat.le_refl _, fun i H x H' M' hi l m k y => ?_⟩
  rw [rangeL_length] at hi
  obtain ⟨rfl, rfl⟩ := y
  refine ⟨fun _ _ h => h, .int (lo + i), ?_, rfl⟩
  unfold rangeL
  rw [List.getElem?_map, List.getElem?_range hi]; rfl
end

/-! ### readings -/
section
variable (Γ : Fm) (W : WX) (c : Cn)
def SemI (r : Res (List D)) (s : Sl) (σ : St) (H : Hp) (R : L2.It → Hp → Prop) : Prop := match r with
  | .ok ds s1 => ∀ J H1, EnvOk Γ H1 σ s1 → Step Γ σ s H σ s1 H1 → ItOk Γ.G H1 (Ch σ s1) (MM Γ σ s1) J ds → R J H1
  | .err x s' => SemX Γ W x s s' σ H
  | .bad => False
def semI (it : It) : TI := fun σ H R => ∃ s, EnvOk Γ H σ s ∧ SemI Γ W (evalIt c it s) s σ H R
def SemC (r : Res (List D)) (s : Sl) (σ : St) (H : Hp) (Q : VK) : Prop := match r with
  | .ok ds s1 => ∀ v H', EnvOk Γ H' σ s1 → Step Γ σ s H σ s1 H' → (∃ d, iterD d = some ds ∧ RepC Γ.G H' (Ch σ s1) (MM Γ σ s1) d v) → Q v H'
  | .err x s' => SemX Γ W x s s' σ H
  | .bad => False
def tItA : It → TE
  | .e a => semE Γ W c a
  | .b i => tVar i
  | _ => fun _ _ _ => False
end
def It.plain : It → Bool
  | .e _ => true
  | .b _ => true
  | _ => false
section
variable {X : Cx} {Γ : Fm} {W : WX} {c : Cn} {k : Ct} {σ : St} {H : Hp} {s : Sl}
theorem itA_run {it : It} {Q : VK} (hp : it.plain = true) (e : EnvOk Γ H σ s) (h : SemC Γ W (evalIt c it s) s σ H Q) : tItA Γ W c it σ H Q := by
  cases it with
  | e a =>
    refine ⟨s, e, ?_⟩
    rw [evalIt] at h
    cases q : evalE c a s with
    | bad => rw [q] at h; exact h
    | err x s1 => rw [q] at h; exact h
    | ok d s1 =>
      rw [q] at h
      have h : SemC Γ W (ofO (iterD d) s1) s σ H Q := h
      intro v H1 e1 t1 r1
      cases hd : iterD d with
      | none => rw [hd] at h; exact h.elim
      | some ds => rw [hd] at h; exact h v H1 e1 t1 ⟨d, hd, .inl r1⟩
  | b i =>
    rw [evalIt] at h
    cases q : PI.lend s i with
    | none => rw [q] at h; exact h.elim
    | some p =>
      obtain ⟨d, s1⟩ := p
      rw [q] at h
      have h : SemC Γ W (ofO (iterD d) s1) s σ H Q := h
      obtain ⟨e1, t1, v, hv, r⟩ := e.lend q
      refine ⟨v, sAt_some hv, ?_⟩
      cases hd : iterD d with
      | none => rw [hd] at h; exact h.elim
      | some ds => rw [hd] at h; exact h v H e1 t1 ⟨d, hd, r⟩
  | _ => simp [It.plain] at hp
theorem chM' (e : EnvOk Γ H σ s) : ∀ a, Ch σ s a → MM Γ σ s a := fun a h => e.chM h
theorem pi_plain {it : It} {tg e : Expr} (hK : Γ.G.K = X.K) (hp : it.plain = true) (he : PE X e (tItA Γ W c it)) : PI X tg e (semI Γ W c it) := by
  refine ⟨fun pins s σ H R I h => (pi_any (tg := tg) he).run pins s σ H R I ?_⟩
  obtain ⟨sl, e, h⟩ := h
  refine itA_run hp e ?_
  cases q : evalIt c it sl with
  | bad => rw [q] at h; exact h
  | err x s1 => rw [q] at h; exact h
  | ok ds s1 =>
    rw [q] at h
    intro v H1 e1 t1 ⟨d, hd, r⟩
    cases d with
    | lst ds' =>
      cases hd
      obtain ⟨a, xs, ev, sq⟩ := sqis_cont (chM' e1) r
      exact .inl ⟨a, xs, ev, by rw [← hK]; exact sq.at' _ (fun _ _ h _ _ => h), by rw [← hK]; exact h _ _ e1 t1 (itok_list sq)⟩
    | tup ds' =>
      cases hd
      obtain ⟨a, xs, ev, sq⟩ := sqis_tup (chM' e1) r
      exact .inr (.inl ⟨a, xs, ev, by rw [← hK]; exact sq.at' _ (fun _ _ h _ _ => h), by rw [← hK]; exact h _ _ e1 t1 (itok_tup sq)⟩)
    | _ => simp [iterD] at hd
theorem pi_s {a : E} {tg e : Expr} (he : PE X e (semE Γ W c a)) : PI X tg e (semI Γ W c (.s a)) := by
  refine ⟨fun pins s σ H R I h => (pi_str (tg := tg) he).run pins s σ H R I ?_⟩
  obtain ⟨sl, e, h⟩ := h
  refine ⟨sl, e, ?_⟩
  rw [evalIt] at h
  cases q : evalE c a sl with
  | bad => rw [q] at h; exact h
  | err x s1 => rw [q] at h; exact h
  | ok d s1 =>
    rw [q] at h
    have h : SemI Γ W (ofO (iterS d) s1) sl σ H R := h
    intro v H1 e1 t1 r
    cases d with
    | str z => exact ⟨_, r, h _ _ e1 t1 itok_str⟩
    | _ => exact h.elim
theorem evalAs_len : ∀ (a : As) (s : Sl) (ds : List D) (s' : Sl), evalAs c a s = .ok ds s' → ds.length = a.mask.length
  | .nil, s, ds, s', h => by rw [evalAs] at h; cases h; rfl
  | .cons (.e a) r, s, ds, s', h => by
    rw [evalAs] at h
    cases q : evalE c a s with
    | bad => rw [q] at h; cases h
    | err x s1 => rw [q] at h; cases h
    | ok d s1 =>
      rw [q] at h
      have h : ((evalAs c r s1).bind fun ds s => .ok (d :: ds) s) = .ok ds s' := h
      cases q2 : evalAs c r s1 with
      | bad => rw [q2] at h; cases h
      | err x s2 => rw [q2] at h; cases h
      | ok es s2 =>
        rw [q2] at h
        cases h
        rw [List.length_cons, evalAs_len r s1 es _ q2]; rfl
  | .cons (.b i) r, s, ds, s', h => by
    rw [evalAs] at h
    split at h
    · cases q2 : evalAs c r s with
      | bad => rw [q2] at h; cases h
      | err x s2 => rw [q2] at h; cases h
      | ok es s2 =>
        rw [q2] at h
        have h : ofO ((getS s2 i).val.map (· :: es)) s2 = .ok ds s' := h
        cases q3 : (getS s2 i).val with
        | none => rw [q3] at h; cases h
        | some d =>
          rw [q3] at h
          cases h
          rw [List.length_cons, evalAs_len r s es _ q2]; rfl
    · cases h
theorem mask_len (q : Ar) (r : As) : (As.cons q r).mask.length = r.mask.length + 1 := by cases q <;> rfl
theorem pi_range' {a : As} {es : List Expr} {tg : Expr} {p pos : Pos} (K : CtOk X Γ W c k) (hg : Gl X "range") (A : AsOk X Γ W c a es) (hl : es.length = 1 ∨ es.length = 2) :
    PI X tg (.Call (.Name "range" p) es [] pos) (semI Γ W c (.range a)) := by
  have hm := K.free "range" (by decide)
  rcases hl with hl | hl
  · match es, hl with
    | [x], _ =>
      obtain ⟨q, rfl, h1, hs⟩ := A.n1
      refine ⟨fun pins s σ H R I h => (pi_range1 hg hm A.pa (by rw [star_of hs]; rfl)).run pins s σ H R I ?_⟩
      obtain ⟨sl, e, h⟩ := h
      rw [evalIt] at h
      refine tAs_run _ sl H _ e ?_
      cases q' : evalAs c (.cons q .nil) sl with
      | bad => rw [q'] at h; exact h
      | err x s1 => rw [q'] at h; exact h
      | ok ds s1 =>
        rw [q'] at h
        have hlen : ds.length = 1 := by rw [evalAs_len _ _ _ _ q', mask_len]; rfl
        have h : SemI Γ W (ofO (rangeD ds) s1) sl σ H R := h
        intro vs H1 e1 t1 r1
        match ds, hlen with
        | [d], _ =>
          obtain ⟨v, rfl, r2⟩ := r1.weak.n1
          cases d with
          | int j =>
            unfold rangeD at h
            simp only at h
            split at h
            · rename_i hj
              unfold inR at hj
              simp only [Bool.and_eq_true, decide_eq_true_eq] at hj
              exact ⟨j, by rw [r2.int], hj.1, hj.2, h _ _ e1 t1 itok_range⟩
            · exact h.elim
          | _ => exact h.elim
  · match es, hl with
    | [x, y], _ =>
      obtain ⟨q, r, rfl, h1, h2, hs, hs2⟩ := A.n2
      refine ⟨fun pins s σ H R I h => (pi_range2 hg hm A.pa (by rw [star_of hs, star_of hs2]; rfl) (by rw [star_of hs2]; rfl)).run pins s σ H R I ?_⟩
      obtain ⟨sl, e, h⟩ := h
      rw [evalIt] at h
      refine tAs_run _ sl H _ e ?_
      cases q' : evalAs c (.cons q (.cons r .nil)) sl with
      | bad => rw [q'] at h; exact h
      | err x s1 => rw [q'] at h; exact h
      | ok ds s1 =>
        rw [q'] at h
        have hlen : ds.length = 2 := by rw [evalAs_len _ _ _ _ q', mask_len, mask_len]; rfl
        have h : SemI Γ W (ofO (rangeD ds) s1) sl σ H R := h
        intro vs H1 e1 t1 r1
        match ds, hlen with
        | [d, d'], _ =>
          obtain ⟨v, v', rfl, r2, r3⟩ := r1.weak.n2
          cases d with
          | int i =>
            cases d' with
            | int j =>
              unfold rangeD at h
              simp only at h
              split at h
              · rename_i hj
                unfold inR at hj
                simp only [Bool.and_eq_true, decide_eq_true_eq] at hj
                exact ⟨i, j, by rw [r2.int, r3.int], ⟨hj.1.1, hj.1.2, hj.2.1, hj.2.2⟩, h _ _ e1 t1 itok_range⟩
              · exact h.elim
            | _ => exact h.elim
          | _ => exact h.elim
theorem pi_enum' {it : It} {e : Expr} {p pos tpos : Pos} {elts : List Expr} {kk : Nat} (hK : Γ.G.K = X.K) (hp : it.plain = true) (hg : Gl X "enumerate") (hm : X.mg "enumerate" = none) (he : PE X e (tItA Γ W c it)) (hs : noStar e = true) :
    PI X (.Tuple elts kk tpos) (.Call (.Name "enumerate" p) [e] [] pos) (semI Γ W c (.enum it)) := by
  refine ⟨fun pins s σ H R I h => (pi_enumA hg hm (pa_cons he pa_nil (star_of hs)) (by rw [star_of hs]; rfl)).run pins s σ H R I ?_⟩
  obtain ⟨sl, e, h⟩ := h
  refine itA_run hp e ?_
  rw [evalIt] at h
  cases q : evalIt c it sl with
  | bad => rw [q] at h; exact h
  | err x s1 => rw [q] at h; exact h
  | ok ds s1 =>
    rw [q] at h
    have h : SemI Γ W (.ok (enumL 0 ds) s1) sl σ H R := h
    intro v H1 e1 t1 ⟨d, hd, r⟩
    cases d with
    | lst ds' =>
      cases hd
      obtain ⟨a, xs, ev, sq⟩ := sqis_cont (chM' e1) r
      subst ev
      exact ⟨a, xs, rfl, .inl ⟨by rw [← hK]; exact sq.at' _ (fun _ _ h _ _ => h), by rw [← hK]; exact h _ _ e1 t1 (itok_enumL sq)⟩⟩
    | tup ds' =>
      cases hd
      obtain ⟨a, xs, ev, sq⟩ := sqis_tup (chM' e1) r
      subst ev
      exact ⟨a, xs, rfl, .inr ⟨by rw [← hK]; exact sq.at' _ (fun _ _ h _ _ => h), by rw [← hK]; exact h _ _ e1 t1 (itok_enumT sq)⟩⟩
    | _ => simp [iterD] at hd
theorem pi_zip' {it it2 : It} {e e2 : Expr} {p pos tpos : Pos} {elts : List Expr} {kk : Nat} (hK : Γ.G.K = X.K) (hp : it.plain = true) (hp2 : it2.plain = true) (hg : Gl X "zip") (hm : X.mg "zip" = none) (he : PE X e (tItA Γ W c it)) (he2 : PE X e2 (tItA Γ W c it2)) (hs : noStar e = true) (hs2 : noStar e2 = true) :
    PI X (.Tuple elts kk tpos) (.Call (.Name "zip" p) [e, e2] [] pos) (semI Γ W c (.zip it it2)) := by
  refine ⟨fun pins s σ H R I h => (pi_zipK hg hm (pa_cons he (pa_cons he2 pa_nil (star_of hs2)) (star_of hs)) (star_of hs) (by rw [star_of hs2]; rfl)).run pins s σ H R I ?_⟩
  obtain ⟨sl, e, h⟩ := h
  refine itA_run hp e ?_
  rw [evalIt] at h
  cases q : evalIt c it sl with
  | bad => rw [q] at h; exact h
  | err x s1 => rw [q] at h; exact h
  | ok ds s1 =>
    rw [q] at h
    have h : SemI Γ W ((evalIt c it2 s1).bind fun ys s => .ok (zipL ds ys) s) sl σ H R := h
    intro v H1 e1 t1 ⟨d, hd, r⟩
    refine itA_run hp2 e1 ?_
    cases q2 : evalIt c it2 s1 with
    | bad => rw [q2] at h; exact h
    | err x s2 => rw [q2] at h; exact SemX.pre t1 h
    | ok es s2 =>
      rw [q2] at h
      intro v2 H2 e2' t2 ⟨d2, hd2, r2⟩
      have r := RepC.step e1 t2 r
      have h := h
      obtain ⟨k1, a, xs, ev, sq⟩ := sqis_any (chM' e2') hd r
      obtain ⟨k2, b, ys, ev2, sq2⟩ := sqis_any (chM' e2') hd2 r2
      subst ev ev2
      exact ⟨k1, k2, a, b, xs, ys, rfl, by rw [← hK]; exact sq.at' _ (fun _ _ h _ _ => h), by rw [← hK]; exact sq2.at' _ (fun _ _ h _ _ => h), by rw [← hK]; exact h _ _ e2' (t1.trans t2) (itok_zipK sq sq2)⟩
theorem pi_rev' {it : It} {tg e : Expr} {p pos : Pos} (hK : Γ.G.K = X.K) (hp : it.plain = true) (hg : Gl X "reversed") (hm : X.mg "reversed" = none) (he : PE X e (tItA Γ W c it)) (hs : noStar e = true) :
    PI X tg (.Call (.Name "reversed" p) [e] [] pos) (semI Γ W c (.rev it)) := by
  refine ⟨fun pins s σ H R I h => (RT.pi_revA hg hm he (star_of hs)).run pins s σ H R I ?_⟩
  obtain ⟨sl, e, h⟩ := h
  refine itA_run hp e ?_
  rw [evalIt] at h
  cases q : evalIt c it sl with
  | bad => rw [q] at h; exact h
  | err x s1 => rw [q] at h; exact h
  | ok ds s1 =>
    rw [q] at h
    have h : SemI Γ W (.ok ds.reverse s1) sl σ H R := h
    intro v H1 e1 t1 ⟨d, hd, r⟩
    cases d with
    | lst ds' =>
      cases hd
      obtain ⟨a, xs, ev, sq⟩ := sqis_cont (chM' e1) r
      subst ev
      exact ⟨a, xs, rfl, .inl ⟨by rw [← hK]; exact sq.at' _ (fun _ _ h _ _ => h), by rw [← hK]; exact h _ _ e1 t1 (itok_rev sq)⟩⟩
    | tup ds' =>
      cases hd
      obtain ⟨a, xs, ev, sq⟩ := sqis_tup (chM' e1) r
      subst ev
      exact ⟨a, xs, rfl, .inr ⟨by rw [← hK]; exact sq.at' _ (fun _ _ h _ _ => h), by rw [← hK]; exact h _ _ e1 t1 (itok_revT sq)⟩⟩
    | _ => simp [iterD] at hd
end
end PI

set_option linter.all false
set_option maxRecDepth 100000
set_option maxHeartbeats 2000000
/-! Q1: walks and unpackings while an exception is handled. -/
namespace PI
open PySem PySem.Spec PyProof.Rows L2
section
variable {prog : Program} {w : World} {A : Around} {E : Value → Shared → Prop} {s : Shared}
theorem stop_hot {α : Type} {x1 : Addr} {Q : α → Shared → Prop} (hot : HotX.HotAt A x1 s.heap) (h : ∀ a h', (∀ b o, s.heap.get? b = some o → h'.get? b = some o) → (∃ o, h'.get? a = some o ∧ o.cls = .type "StopIteration") → E (.ref a) { s with heap := h' }) :
    wpAny (model prog w) A (newExc (.type "StopIteration") [] >>= fun e => (raiseNew e : Sem α)) Q E s := by
  obtain ⟨hh, o1, vs1, h1, d1, c1⟩ := hot
  refine wpAny_bind ?_
  simp only [newExc, newTuple]
  refine wpAny_bind (wpAny_newObj_type ?_ (by size_fits))
  refine wpAny_bind (m := firstArgMember _ _) (wpAny_of_eq (a := Value.none) (by first | rfl | (simp only [firstArgMember]; rfl)) ?_)
  refine wpAny_newObj_type ?_ (by size_fits)
  refine HotX.raiseNew_hot ⟨hh, o1, vs1, Heap.get?_push_of_some _ (Heap.get?_push_of_some _ h1), d1, c1⟩ (Nat.ne_of_lt (Heap.lt_size (Heap.get?_push_of_some _ h1))) (Heap.get?_push_size _ rfl) rfl (by first | (simp; done) | (simp; omega) | (simp only [Array.size_append]; simp; omega)) ?_
  refine h _ _ (fun b o e => ?_) ⟨_, Heap.get?_update_self _ (Heap.get?_push_size _ rfl) rfl, rfl⟩
  rw [Heap.get?_update_other _ _ (Nat.ne_of_gt (Heap.lt_size (Heap.get?_push_of_some _ e)))]
  exact Heap.get?_push_of_some _ (Heap.get?_push_of_some _ e)
theorem hot_update {it x1 : Addr} {f : Obj → Obj} (hne : x1 ≠ it) (hot : HotX.HotAt A x1 s.heap) : HotX.HotAt A x1 (s.heap.update it f) := by
  obtain ⟨hh, o1, vs1, h1, d1, c1⟩ := hot
  exact ⟨hh, o1, vs1, by rw [Heap.get?_update_other _ _ (fun z => hne z.symm)]; exact h1, d1, c1⟩
theorem next_list_end_hot {it l x1 : Addr} {i : Nat} {items} {Q : Option Value → Shared → Prop} (hot : HotX.HotAt A x1 s.heap) (hne : x1 ≠ it)
    (hit : s.heap.IsListIter it l i) (hl : s.heap.IsList l items) (hx : items[i]? = none)
    (hQ : ∀ h', Heap.ExtBut it s.heap h' → Q none { s with heap := h' }) : wpAny (model prog w) A (pyNext (.ref it)) Q E s := by
  obtain ⟨o, ho, hc, hd⟩ := id hit
  obtain ⟨ol, hol, _, nl, hdl⟩ := hl
  unfold pyNext
  refine wpAny_bind (wpAny_attempt (wpAny_callSpecial?_slot (name := Str.ofString "__next__") hit.typeIs slot_listiter_next
    (wpAny_call_entry slot_listiter_next hit.typeIs entry_listiter_next ?_ (args_listiter_next _))))
  show wpAny _ _ (field (.ref it) 0 >>= _) _ _ s
  refine wpAny_bind (wpAny_field ho hd (x := .ref l) rfl ?_)
  show wpAny _ _ (if (Value.ref l == Value.none) = true then _ else _) _ _ s
  rw [if_neg (show ¬ ((Value.ref l == Value.none) = true) from Bool.false_ne_true)]
  show wpAny _ _ (field (.ref it) 1 >>= _) _ _ s
  refine wpAny_bind (wpAny_field ho hd (x := .int i 0) rfl ?_)
  show wpAny _ _ (seqItems? (.ref l) >>= _) _ _ s
  refine wpAny_bind (wpAny_seqItems hol hdl ?_)
  simp only [Int.toNat_natCast, hx]
  refine wpAny_bind (wpAny_rule (wpAny_bind (wpAny_setField ho hd (by simp) ?_)))
  refine stop_hot (hot_update hne hot) fun a h' k ⟨o', ho', hc'⟩ => ?_
  refine wpAny_bind (wpAny_isInstance (T := "StopIteration") (b := true) ⟨_, ho', hc'⟩ isSubtype_stop ?_)
  exact wpAny_pure (hQ _ fun b o hb e => k b o (by rw [Heap.get?_update_other _ _ (fun z => hb z.symm)]; exact e))
theorem next_tuple_end_hot {it t x1 : Addr} {i : Nat} {items : Array Value} {Q : Option Value → Shared → Prop} (hot : HotX.HotAt A x1 s.heap) (hne : x1 ≠ it)
    (hit : IsTupIter s.heap it t i) (ht : IsTup s.heap t items) (hx : items[i]? = none)
    (hQ : ∀ h', Heap.ExtBut it s.heap h' → Q none { s with heap := h' }) : wpAny (model prog w) A (pyNext (.ref it)) Q E s := by
  obtain ⟨o, ho, hc, hd⟩ := id hit
  obtain ⟨ol, hol, _, nl, hdl⟩ := ht
  unfold pyNext
  refine wpAny_bind (wpAny_attempt (wpAny_callSpecial?_slot (name := Str.ofString "__next__") hit.typeIs F.slot_tuple_iterator_next
    (wpAny_call_entry F.slot_tuple_iterator_next hit.typeIs F.entry_tuple_iterator_next ?_ (F.args_tuple_iterator_next_1 _))))
  show wpAny _ _ (field (.ref it) 0 >>= _) _ _ s
  refine wpAny_bind (wpAny_field ho hd (x := .ref t) rfl ?_)
  show wpAny _ _ (if (Value.ref t == Value.none) = true then _ else _) _ _ s
  rw [if_neg (show ¬ ((Value.ref t == Value.none) = true) from Bool.false_ne_true)]
  show wpAny _ _ (field (.ref it) 1 >>= _) _ _ s
  refine wpAny_bind (wpAny_field ho hd (x := .int i 0) rfl ?_)
  show wpAny _ _ (seqItems? (.ref t) >>= _) _ _ s
  refine wpAny_bind (wpAny_seqItems hol hdl ?_)
  simp only [Int.toNat_natCast, hx]
  refine wpAny_bind (wpAny_rule (wpAny_bind (wpAny_setField ho hd (by simp) ?_)))
  refine stop_hot (hot_update hne hot) fun a h' k ⟨o', ho', hc'⟩ => ?_
  refine wpAny_bind (wpAny_isInstance (T := "StopIteration") (b := true) ⟨_, ho', hc'⟩ isSubtype_stop ?_)
  exact wpAny_pure (hQ _ fun b o hb e => k b o (by rw [Heap.get?_update_other _ _ (fun z => hb z.symm)]; exact e))
theorem unpackItems_hot {t x1 : Addr} {items : Array Value} {Q : List Value → Shared → Prop} (hot : HotX.HotAt A x1 s.heap) (ht : IsTup s.heap t items)
    (hQ : ∀ h', Heap.ExtBut s.heap.objs.size s.heap h' → Q items.toList { s with heap := h' }) : wpAny (model prog w) A (unpackItems (.ref t) items.size none) Q E s := by
  have hlt : t ≠ s.heap.objs.size := by obtain ⟨o, ho, _⟩ := ht; exact Nat.ne_of_lt (Heap.lt_size ho)
  have hlx : x1 ≠ s.heap.objs.size := by obtain ⟨_, o, _, ho, _⟩ := hot; exact Nat.ne_of_lt (Heap.lt_size ho)
  unfold unpackItems
  refine wpAny_bind ?_
  · unfold notIterableAtAll
    refine wpAny_bind (wpAny_specialOf ht.typeIs slot_tuple_iter.lookup ?_)
    refine wpAny_pure ?_
    simp only [Bool.false_eq_true, if_false]
    refine wpAny_bind (wpAny_holding (iter_tuple ht ?_))
    refine wpAny_bind (wpAny_holding (draw_tuple hlt items.size 0 _ _ ⟨_, Heap.get?_push_size _ rfl, rfl, rfl⟩ (ht.push _) (by omega) fun h₁ hit₁ hs₁ => ?_))
    have hall : List.take items.size (List.drop 0 items.toList) = items.toList := by
      rw [List.drop_zero]; exact List.take_of_length_le (by simp)
    rw [hall]
    rw [if_neg (by simp)]
    have ht₁ : IsTup h₁ t items := (ht.push _).extBut hs₁.extBut hlt
    have hot₁ : HotX.HotAt A x1 h₁ := by
      obtain ⟨hh, o1, vs1, e1, d1, c1⟩ := hot
      exact ⟨hh, o1, vs1, hs₁.extBut _ _ hlx (Heap.get?_push_of_some _ e1), d1, c1⟩
    refine wpAny_bind (wpAny_holding (next_tuple_end_hot hot₁ hlx hit₁ ht₁ (by simp) fun h₂ he₂ => ?_))
    simp only [Option.isSome_none, Bool.false_eq_true, if_false]
    refine wpAny_pure (hQ h₂ fun b o hb e => he₂ b o hb (hs₁.extBut b o hb (Heap.get?_push_of_some _ e)))
theorem assign_Tuple_hot {env : Env} {elts : List Expr} {x1} {pos : Pos} {t xh : Addr} {items : Array Value} {Q : Unit → Shared → Prop} (hot : HotX.HotAt A xh s.heap) (ht : IsTup s.heap t items)
    (hn : (assignEach elts env).length = items.size) (hstar : (assignEach elts env).findIdx? (·.1) = none)
    (h : ∀ h', Heap.ExtBut s.heap.objs.size s.heap h' → wpAny (model prog w) A (assignInOrder ((assignEach elts env).map (·.2)) items.toList) Q E { s with heap := h' }) :
    wpAny (model prog w) A (assign (.Tuple elts x1 pos) env (.ref t)) Q E s := by
  rw [assign_Tuple]
  refine wpAny_bind (wpAny_standAt ?_)
  unfold unpack
  rw [hn, hstar]
  exact wpAny_bind (wpAny_holding (unpackItems_hot hot ht h))
end
section
variable {X : Cx}
theorem pg_tupH {es : List Expr} {k : Nat} {t : TGs} {n : Nat} {pos : Pos} (hc : L2H.HotC X) (h : PGs X es t)
    (hn : (assignEach es X.env).length = n) (hst : (assignEach es X.env).findIdx? (·.1) = none) : PG X (.Tuple es k pos) (gTup X.K n t) := by
  refine ⟨fun pins s σ H v u Q I r hw => ?_⟩
  obtain ⟨a, xs, e1, hq, hl, hw⟩ := hw
  subst e1
  cases r
  obtain ⟨its, rv, ht, hz⟩ := I.tuple hq
  obtain ⟨x1, hot⟩ := hc.at I
  refine assign_Tuple_hot hot ht (by simp [hn, ← hl, rv.length]) hst fun h' hx => ?_
  have I1 : Inv X pins σ H { s with heap := h' } := I.kept (t' := s.toks) fun b o e => hx b o (Nat.ne_of_lt (Heap.lt_size e)) e
  exact h.run pins _ σ H xs _ Q I1 (by simpa using rv) hw
theorem turn_listH {P : Program} {w : World} {K : PySem.W.Frag} {tg : Expr} (a it : Addr) : L2H.TurnH P w K tg (Itl K a) [it] it (fun i h => h.IsListIter it a i) where
  mem := by simp
  obj := fun i h st b hb => by
    have e : b = it := by simpa using hb
    subst e
    obtain ⟨o, e, c, d⟩ := st
    exact ⟨o, e, fun v z => by rw [d] at z; cases z⟩
  keep := fun i h h' st k => st.at fun o e => k it (by simp) o e
  item := by
    intro X hP hw hK hc i pins s σ H E I hf st hg
    subst hP hw hK
    obtain ⟨xs, x, hq, hx⟩ := hg
    obtain ⟨its, rv, p, hz⟩ := I.list hq
    obtain ⟨u, hu, ru⟩ := rv.get hx
    obtain ⟨f0, f1, f2, f3, f4, f5⟩ := hf it (by simp)
    refine wpAny_pyNext_list_item st p.isList (x := u) (by simpa using hu) fun h' st' sb => ?_
    have I1 : Inv X pins σ H { s with heap := h' } := I.turned (t' := s.toks) (fun b o hb e => (sb.2 b hb).trans e) f0 f1 f3 f4 f5
    obtain ⟨o, e, c, d⟩ := id st'
    exact ⟨u, rfl, go_of (s := { s with heap := h' }) e c d (by decide) ⟨x, H, I1, ru, ⟨rfl, fun ys hy => by rw [I.list_inj hy hq]; exact hx⟩, st', fun b hb => (hf b hb).1⟩⟩
  done := by
    intro X hP hw hK hc i pins s σ H E I hf st hg
    subst hP hw hK
    obtain ⟨xs, hq, hx⟩ := hg
    obtain ⟨its, rv, p, hz⟩ := I.list hq
    obtain ⟨f0, f1, f2, f3, f4, f5⟩ := hf it (by simp)
    have hl := rv.length
    obtain ⟨⟨pa, po⟩, ⟨hh, v1, e1, c1⟩, hp⟩ := hc
    have P1 := I.pin (pa, po) (List.mem_append_left _ hp)
    obtain ⟨oi, ei, ci, di⟩ := id st
    have hne : pa ≠ it := fun z => f5 (pa, po) (List.mem_append_left _ hp) z
    exact next_list_end_hot (x1 := pa) ⟨hh, po, v1, P1.1, e1, c1⟩ hne st p.isList (by simp; omega) fun h' eb => ⟨rfl, I.turned (t' := s.toks) (fun b o hb e => eb b o hb e) f0 f1 f3 f4 f5⟩
  self := fun _ _ _ _ _ st h => wpAny_pyIter_listiter st h
theorem turn_tupleH {P : Program} {w : World} {K : PySem.W.Frag} {tg : Expr} (a it : Addr) : L2H.TurnH P w K tg (Itt K a) [it] it (fun i h => h.IsTupleIter it a i) where
  mem := by simp
  obj := fun i h st b hb => by
    have e : b = it := by simpa using hb
    subst e
    obtain ⟨o, e, c, d⟩ := st
    exact ⟨o, e, fun v z => by rw [d] at z; cases z⟩
  keep := fun i h h' st k => st.at fun o e => k it (by simp) o e
  item := by
    intro X hP hw hK hc i pins s σ H E I hf st hg
    subst hP hw hK
    obtain ⟨xs, x, hq, hx⟩ := hg
    obtain ⟨its, rv, p, hz⟩ := I.tuple hq
    obtain ⟨u, hu, ru⟩ := rv.get hx
    obtain ⟨f0, f1, f2, f3, f4, f5⟩ := hf it (by simp)
    refine wpAny_pyNext_tuple_item st (show s.heap.IsTuple a its.toArray from p) (x := u) (by simpa using hu) fun h' st' sb => ?_
    have I1 : Inv X pins σ H { s with heap := h' } := I.turned (t' := s.toks) (fun b o hb e => (sb.2 b hb).trans e) f0 f1 f3 f4 f5
    obtain ⟨o, e, c, d⟩ := id st'
    exact ⟨u, rfl, go_of (s := { s with heap := h' }) e c d (by decide) ⟨x, H, I1, ru, ⟨rfl, fun ys hy => by rw [I.tuple_inj hy hq]; exact hx⟩, st', fun b hb => (hf b hb).1⟩⟩
  done := by
    intro X hP hw hK hc i pins s σ H E I hf st hg
    subst hP hw hK
    obtain ⟨xs, hq, hx⟩ := hg
    obtain ⟨its, rv, p, hz⟩ := I.tuple hq
    obtain ⟨f0, f1, f2, f3, f4, f5⟩ := hf it (by simp)
    have hl := rv.length
    obtain ⟨⟨pa, po⟩, ⟨hh, v1, e1, c1⟩, hp⟩ := hc
    have P1 := I.pin (pa, po) (List.mem_append_left _ hp)
    have hne : pa ≠ it := fun z => f5 (pa, po) (List.mem_append_left _ hp) z
    exact next_tuple_end_hot (x1 := pa) ⟨hh, po, v1, P1.1, e1, c1⟩ hne st (show s.heap.IsTuple a its.toArray from p) (by simp; omega) fun h' eb => ⟨rfl, I.turned (t' := s.toks) (fun b o hb e => eb b o hb e) f0 f1 f3 f4 f5⟩
  self := fun _ _ _ _ _ st h => wpAny_pyIter_tupleiter st h
/-- any list, tuple -/
def iLT (K : PySem.W.Frag) (te : TE) : TI := fun σ H R => te σ H fun v H1 => (∃ a xs, v = .ref a ∧ SqL K H1 a xs ∧ R (Itl K a) H1) ∨ (∃ a xs, v = .ref a ∧ SqT K H1 a xs ∧ R (Itt K a) H1)
theorem pi_ltH {tg e : Expr} {te : TE} (he : PE X e te) : L2H.PIH X tg e (iLT X.K te) := by
  refine ⟨fun pins s σ H R I h => ?_⟩
  refine thn (he.run pins s σ H _ I h) fun v s1 ⟨y, H1, I1, r1, q⟩ => ?_
  rcases q with ⟨a, xs, e, hq, q⟩ | ⟨a, xs, e, hq, q⟩
  · subst e
    cases r1
    obtain ⟨its, rv, p, hz⟩ := I1.list hq
    refine wpAny_pyIter_list p.isList ⟨s1.heap.objs.size, [s1.heap.objs.size], _, _, H1, rfl, I1.kept (t' := s1.toks) fun b o e => Heap.get?_push_of_some _ e, turn_listH a _, ⟨_, Heap.get?_push_size _ rfl, rfl, rfl⟩, fun b hb => ?_, q⟩
    have e : b = s1.heap.objs.size := by simpa using hb
    subst e
    exact I1.fpOk (Nat.le_refl _) (I1.hok.fresh (Nat.le_refl _))
  · subst e
    cases r1
    obtain ⟨its, rv, p, hz⟩ := I1.tuple hq
    refine wpAny_pyIter_tuple (show s1.heap.IsTuple a its.toArray from p) ⟨s1.heap.objs.size, [s1.heap.objs.size], _, _, H1, rfl, I1.kept (t' := s1.toks) fun b o e => Heap.get?_push_of_some _ e, turn_tupleH a _, ⟨_, Heap.get?_push_size _ rfl, rfl, rfl⟩, fun b hb => ?_, q⟩
    have e : b = s1.heap.objs.size := by simpa using hb
    subst e
    exact I1.fpOk (Nat.le_refl _) (I1.hok.fresh (Nat.le_refl _))
end
end PI

set_option linter.all false
set_option maxRecDepth 100000
set_option maxHeartbeats 1000000
/-! P9: targets, comprehensions, calls. -/
namespace PI
open PySem PySem.Spec PyProof.Rows L2

/-! ### D by values -/
mutual
def D.same : D → D → Bool
  | .non, .non => true
  | .bl a, .bl b => decide (a = b)
  | .int a, .int b => decide (a = b)
  | .str a, .str b => decide (a = b)
  | .tup a, .tup b => D.sames a b
  | _, _ => false
def D.sames : List D → List D → Bool
  | [], [] => true
  | a :: as, b :: bs => D.same a b && D.sames as bs
  | _, _ => false
end
mutual
theorem D.same_eq : ∀ (a b : D), D.same a b = true → a = b
  | .non, b, h => by cases b <;> simp_all [D.same]
  | .bl a, b, h => by cases b <;> simp_all [D.same]
  | .int a, b, h => by cases b <;> simp_all [D.same]
  | .str a, b, h => by cases b <;> simp_all [D.same]
  | .tup a, b, h => by
    cases b with
    | tup b => rw [D.same] at h; rw [D.sames_eq a b h]
    | _ => simp [D.same] at h
  | .lst a, b, h => by simp [D.same] at h
  | .set a, b, h => by simp [D.same] at h
  | .dic a c, b, h => by simp [D.same] at h
  | .fn a, b, h => by simp [D.same] at h
  | .exc a x, b, h => by simp [D.same] at h
  | .scr a, b, h => by simp [D.same] at h
  | .lam, b, h => by simp [D.same] at h
theorem D.sames_eq : ∀ (a b : List D), D.sames a b = true → a = b
  | [], [], h => rfl
  | [], _ :: _, h => by simp [D.sames] at h
  | _ :: _, [], h => by simp [D.sames] at h
  | a :: as, b :: bs, h => by
    rw [D.sames, Bool.and_eq_true] at h
    rw [D.same_eq a b h.1, D.sames_eq as bs h.2]
end

/-! ### targets -/
section
variable (Γ : Fm)
def semG (tg : Tg) : TG := fun v σ H Q => ∃ d s, EnvOk Γ H σ s ∧ Rep Γ.G H (MM Γ σ s) d v ∧ ∃ s', tg.put d s = some s' ∧ ∀ σ', EnvOk Γ H σ' s' → Step Γ σ s H σ' s' H → (∀ j, j ∉ tg.slots → σ'[j]? = σ[j]?) → σ'.length = σ.length → Q σ' H
def semGs (l : List Tg) : TGs := fun vs σ H Q => ∃ ds s, EnvOk Γ H σ s ∧ Reps Γ.G H (MM Γ σ s) ds vs ∧ ∃ s', Tg.puts l ds s = some s' ∧ ∀ σ', EnvOk Γ H σ' s' → Step Γ σ s H σ' s' H → (∀ j, j ∉ Tg.slotss l → σ'[j]? = σ[j]?) → σ'.length = σ.length → Q σ' H
end
def slotB (k : Ct) (i : Nat) (x : Str) : Bool := decide (k.N[i]? = some x) && !(x == ("__debug__" : Str)) && !(x == ("__classdict__" : Str))
def locB (k : Ct) (x : Str) : Bool := match k.sc.names.lookup x with
  | some .local => true
  | some .cell => k.fk x
  | _ => false
mutual
def chkG (k : Ct) : Tg → Expr → Bool
  | .n i, .Name x _ => slotB k i x && locB k x
  | .t l, .Tuple es _ _ => chkGs k l es
  | _, _ => false
def chkGs (k : Ct) : List Tg → List Expr → Bool
  | [], [] => true
  | t :: ts, e :: es => noStar e && chkG k t e && chkGs k ts es
  | _, _ => false
end
section
variable {X : Cx} {Γ : Fm} {W : WX} {c : Cn} {k : Ct} {σ : St} {H : Hp} {s : Sl}
theorem assign_star {e : Expr} {es : List Expr} {env : Env} (h : noStar e = true) : assignEach (e :: es) env = (false, assign e env) :: assignEach es env := by
  cases e <;> first | rfl | (simp [noStar] at h)
theorem CtOk.slot (K : CtOk X Γ W c k) {i : Nat} {x : Str} (h : slotB k i x = true) : X.N[i]? = some x ∧ (x == ("__debug__" : Str)) = false ∧ (x == ("__classdict__" : Str)) = false := by
  unfold slotB at h
  simp only [Bool.and_eq_true, decide_eq_true_eq, Bool.not_eq_true'] at h
  exact ⟨by rw [K.N]; exact h.1.1, h.1.2, h.2⟩
theorem CtOk.loc (K : CtOk X Γ W c k) {x : Str} (h : locB k x = true) : L2.Loc X.env.scope x ∧ (X.fn x = true ∨ X.env.scope.names.lookup x = some .local) := by
  unfold locB at h
  have e : X.env.scope.names.lookup x = k.sc.names.lookup x := by rw [K.sc]
  unfold L2.Loc
  rw [e]
  split at h
  · rename_i q; exact ⟨.inl q, .inr q⟩
  · rename_i q; exact ⟨.inr q, .inl (by rw [K.fk]; exact h)⟩
  · cases h
theorem chkGs_each : ∀ (l : List Tg) (es : List Expr), chkGs k l es = true → (assignEach es X.env).length = l.length ∧ (assignEach es X.env).findIdx? (·.1) = none := by
  intro l
  induction l with
  | nil => intro es h; cases es with
    | nil => exact ⟨rfl, rfl⟩
    | cons _ _ => simp [chkGs] at h
  | cons t ts ih => intro es h; cases es with
    | nil => simp [chkGs] at h
    | cons e es =>
      simp only [chkGs, Bool.and_eq_true] at h
      rw [assign_star h.1.1]
      obtain ⟨q1, q2⟩ := ih es h.2
      exact ⟨by rw [List.length_cons, List.length_cons, q1], by rw [List.findIdx?_cons]; simp [q2]⟩
theorem puts_len : ∀ (l : List Tg) (ds : List D) (s s' : Sl), Tg.puts l ds s = some s' → ds.length = l.length := by
  intro l
  induction l with
  | nil => intro ds s s' h; cases ds with
    | nil => rfl
    | cons _ _ => simp [Tg.puts] at h
  | cons t ts ih => intro ds s s' h; cases ds with
    | nil => simp [Tg.puts] at h
    | cons d ds =>
      rw [Tg.puts] at h
      obtain ⟨s2, _, h2⟩ := Option.bind_eq_some_iff.mp h
      rw [List.length_cons, List.length_cons, ih ds s2 s' h2]
mutual
theorem chkG_ok (K : CtOk X Γ W c k) : ∀ (tg : Tg) (e : Expr), chkG k tg e = true → PG X e (semG Γ tg)
  | .n i, e, h => by
    cases e with
    | Name x p =>
      simp only [chkG, Bool.and_eq_true] at h
      obtain ⟨h1, _, _⟩ := K.slot h.1
      obtain ⟨h2, h3⟩ := K.loc h.2
      refine ⟨fun pins s σ H v u Q I r hq => (pg_name K.nd h1 h2 h3).run pins s σ H v u Q I r ?_⟩
      obtain ⟨d, sl, e, rd, s', hp, q⟩ := hq
      unfold Tg.put at hp
      split at hp
      · rename_i ho
        simp only [Bool.and_eq_true, decide_eq_true_eq] at ho
        cases hp
        obtain ⟨e2, t2⟩ := e.store ho.2 ho.1 rd
        exact q _ e2 t2 (fun j hj => by rw [List.getElem?_set_ne (fun z => hj (by simp [Tg.slots, z]))]) (by rw [List.length_set])
      · cases hp
    | _ => simp [chkG] at h
  | .t l, e, h => by
    cases e with
    | Tuple es kk p =>
      simp only [chkG] at h
      have hG := chkGs_ok K l es h
      obtain ⟨q1, q2⟩ := chkGs_each (X := X) l es h
      have hT : PG X (.Tuple es kk p) (gTup X.K l.length (semGs Γ l)) := by
        cases hh : k.hot with
        | false => exact pg_tup (K.calm hh) hG q1 q2
        | true =>
          obtain ⟨ax, oe, _, _, _, hp, h1, _⟩ := K.hotc hh
          exact pg_tupH ⟨(ax, oe), h1, hp⟩ hG q1 q2
      refine ⟨fun pins s σ H v u Q I r hq => hT.run pins s σ H v u Q I r ?_⟩
      obtain ⟨d, sl, e, rd, s', hp, q⟩ := hq
      cases d with
      | tup ds =>
        rw [Tg.put] at hp
        obtain ⟨a, vs, rfl, tp, rr⟩ := rd
        exact ⟨a, vs, rfl, by rw [← K.hK]; exact tp.sq, by rw [← rr.len]; exact puts_len l ds sl s' hp, ds, sl, e, rr, s', hp, q⟩
      | _ => simp [Tg.put] at hp
    | _ => simp [chkG] at h
theorem chkGs_ok (K : CtOk X Γ W c k) : ∀ (l : List Tg) (es : List Expr), chkGs k l es = true → PGs X es (semGs Γ l)
  | [], [], h => by
    refine ⟨fun pins s σ H vs us Q I r hq => pgs_nil.run pins s σ H vs us Q I r ?_⟩
    obtain ⟨ds, sl, e, rd, s', hp, q⟩ := hq
    cases ds with
    | nil =>
      have rd : vs = [] := rd
      cases hp
      exact ⟨rd, q σ e Step.refl (fun _ _ => rfl) rfl⟩
    | cons _ _ => simp [Tg.puts] at hp
  | t :: ts, e :: es, h => by
    simp only [chkGs, Bool.and_eq_true] at h
    have h1 := chkG_ok K t e h.1.2
    have h2 := chkGs_ok K ts es h.2
    refine ⟨fun pins s σ H vs us Q I r hq => (pgs_cons h1 h2 (by rw [assign_star h.1.1]; rfl)).run pins s σ H vs us Q I r ?_⟩
    obtain ⟨ds, sl, e, rd, s', hp, q⟩ := hq
    cases ds with
    | nil => simp [Tg.puts] at hp
    | cons d ds =>
      rw [Tg.puts] at hp
      obtain ⟨s2, hp1, hp2⟩ := Option.bind_eq_some_iff.mp hp
      obtain ⟨v, rv, rfl, r1, r2⟩ := rd
      refine ⟨v, rv, rfl, d, sl, e, r1, s2, hp1, fun σ2 e2 t2 n2 l2 => ?_⟩
      refine ⟨ds, s2, e2, Reps.step e t2 r2, s', hp2, fun σ3 e3 t3 n3 l3 => q σ3 e3 (t2.trans t3) (fun j hj => ?_) (l3.trans l2)⟩
      simp only [Tg.slotss, List.mem_append, not_or] at hj
      rw [n3 j hj.2, n2 j hj.1]
  | [], _ :: _, h => by simp [chkGs] at h
  | _ :: _, [], h => by simp [chkGs] at h
end
end
end PI

set_option linter.all false
set_option maxRecDepth 100000
set_option maxHeartbeats 1000000
/-! P9b: comprehensions. -/
namespace PI
open PySem PySem.Spec PyProof.Rows L2
section
variable {Γ : Fm} {W : WX} {c : Cn} {σ σ' σ2 : St} {H H' H1 H2 : Hp} {s s1 s2 s' : Sl}
theorem drop_ok (e : EnvOk Γ H σ s) {i : Nat} (hl : (getS s i).loose = true) : EnvOk Γ H (σ.set i none) (s.set i .no) ∧ Step Γ σ s H (σ.set i none) (s.set i .no) H := by
  by_cases hi : i < s.length
  · have hi' : i < σ.length := by rw [e.len]; exact hi
    have nm : (getS s i).mine = false := by cases q : getS s i <;> simp_all [Slot.loose, Slot.mine]
    have nh : (getS s i).held = false := by cases q : getS s i <;> simp_all [Slot.loose, Slot.held]
    have mm : ∀ a, MM Γ (σ.set i none) (s.set i .no) a → MM Γ σ s a := fun a h => by
      rcases h with h | ⟨j, h1, h2⟩
      · exact .inl h
      · rw [getS_set hi] at h2
        rw [sAt_set hi'] at h1
        by_cases z : j = i
        · rw [if_pos z] at h1; cases h1
        · rw [if_neg z] at h1 h2; exact .inr ⟨j, h1, h2⟩
    refine ⟨⟨by rw [List.length_set, List.length_set]; exact e.len, fun j => ?_, fun j k a h1 h2 h3 h4 => ?_, e.trk, e.dm, e.tab⟩, ⟨fun _ _ h _ _ => h, fun _ h => h, fun a h => .inl ?_, fun a h => .inl (mm a h), fun j => ⟨fun d' hd => ?_, fun b d' hd => ?_⟩⟩⟩
    · rw [getS_set hi, sAt_set hi']
      by_cases z : j = i
      · rw [if_pos z]; trivial
      · rw [if_neg z, if_neg z]
        exact (e.slot j).mono (fun _ _ h _ _ => h) (fun a h => .inl (mm a h)) (fun _ _ _ _ h _ => h)
    · rw [getS_set hi] at h1 h2
      rw [sAt_set hi'] at h3 h4
      by_cases zj : j = i
      · rw [if_pos zj] at h1; simp [Slot.held] at h1
      · by_cases zk : k = i
        · rw [if_pos zk] at h2; simp [Slot.held] at h2
        · rw [if_neg zj] at h1 h3
          rw [if_neg zk] at h2 h4
          exact e.dis j k a h1 h2 h3 h4
    · obtain ⟨j, h1, h2⟩ := h
      rw [getS_set hi] at h2
      rw [sAt_set hi'] at h1
      by_cases z : j = i
      · rw [if_pos z] at h1; cases h1
      · rw [if_neg z] at h1 h2; exact ⟨j, h1, h2⟩
    · have nj : j ≠ i := fun z => by subst z; rw [hd] at hl; simp [Slot.loose] at hl
      rw [getS_set hi, sAt_set hi', if_neg nj, if_neg nj]
      exact ⟨rfl, d', .inl hd⟩
    · have nj : j ≠ i := fun z => by subst z; rw [hd] at hl; simp [Slot.loose] at hl
      rw [getS_set hi, sAt_set hi', if_neg nj, if_neg nj]
      exact ⟨rfl, hd⟩
  · have hi' : ¬ i < σ.length := by rw [e.len]; exact hi
    rw [getS_oob hi, List.set_eq_of_length_le (by omega)]
    exact ⟨e, Step.refl⟩
theorem getS_no_oob {i : Nat} (h : ¬ i < s.length) : getS s i = .no := by
  unfold getS
  rw [List.getD_eq_getElem?_getD, List.getElem?_eq_none (by omega)]; rfl
theorem wipeS_length (s : Sl) : ∀ is : List Nat, (wipeS s is).length = s.length
  | [] => rfl
  | i :: r => by rw [wipeS, List.length_set, wipeS_length s r]
theorem wipeS_get (s : Sl) (j : Nat) : ∀ is : List Nat, getS (wipeS s is) j = if j ∈ is then .no else getS s j
  | [] => by simp [wipeS]
  | i :: r => by
    rw [wipeS]
    by_cases hi : i < (wipeS s r).length
    · rw [getS_set hi, wipeS_get s j r]
      by_cases z : j = i
      · subst z; simp
      · rw [if_neg z]
        simp [z]
    · rw [getS_oob hi, wipeS_get s j r]
      by_cases z : j = i
      · subst z
        rw [wipeS_length] at hi
        rw [getS_no_oob hi]
        simp
      · simp [z]
theorem backS_length (s0 s : Sl) : ∀ is : List Nat, (backS s0 s is).length = s.length
  | [] => rfl
  | i :: r => by rw [backS, List.length_set, backS_length s0 s r]
theorem backS_get (s0 s : Sl) (hl : s0.length = s.length) (j : Nat) : ∀ is : List Nat, getS (backS s0 s is) j = if j ∈ is then getS s0 j else getS s j
  | [] => by simp [backS]
  | i :: r => by
    rw [backS]
    by_cases hi : i < (backS s0 s r).length
    · rw [getS_set hi, backS_get s0 s hl j r]
      by_cases z : j = i
      · subst z; simp
      · rw [if_neg z]
        simp [z]
    · rw [getS_oob hi, backS_get s0 s hl j r]
      by_cases z : j = i
      · subst z
        rw [backS_length] at hi
        rw [getS_no_oob hi, getS_no_oob (by rw [hl]; exact hi)]
        simp
      · simp [z]
theorem wipe_get (σ : St) (j : Nat) : ∀ is : List Nat, sAt (wipe σ is) j = if j ∈ is then none else sAt σ j
  | [] => by simp [wipe]
  | i :: r => by
    rw [wipe]
    by_cases hi : i < (wipe σ r).length
    · rw [sAt_set hi, wipe_get σ j r]
      by_cases z : j = i
      · subst z; simp
      · rw [if_neg z]
        simp [z]
    · rw [List.set_eq_of_length_le (by omega), wipe_get σ j r]
      by_cases z : j = i
      · subst z
        rw [wipe_length] at hi
        have : sAt σ j = none := by unfold sAt; rw [List.getD_eq_getElem?_getD, List.getElem?_eq_none (by omega)]; rfl
        simp [this]
      · simp [z]
theorem wipe_get? (σ : St) (j : Nat) : ∀ is : List Nat, (wipe σ is)[j]? = if j ∈ is then (σ[j]?).map (fun _ => none) else σ[j]?
  | [] => by simp [wipe]
  | i :: r => by
    rw [wipe]
    by_cases z : j = i
    · subst z
      rw [if_pos List.mem_cons_self]
      by_cases hi : j < (wipe σ r).length
      · rw [List.getElem?_set_self hi]
        rw [wipe_length] at hi
        rw [List.getElem?_eq_getElem hi]; rfl
      · rw [List.getElem?_eq_none (by rw [List.length_set]; omega)]
        rw [wipe_length] at hi
        rw [List.getElem?_eq_none (by omega)]; rfl
    · rw [List.getElem?_set_ne (fun q => z q.symm), wipe_get? σ j r]
      simp [z]
theorem wipe_eq {is : List Nat} (h : ∀ j, j ∉ is → σ'[j]? = (wipe σ is)[j]?) (hl : σ'.length = σ.length) : wipe σ' is = wipe σ is := by
  apply List.ext_getElem?
  intro j
  rw [wipe_get?, wipe_get?]
  by_cases z : j ∈ is
  · rw [if_pos z, if_pos z]
    by_cases q : j < σ.length
    · rw [List.getElem?_eq_getElem (by omega), List.getElem?_eq_getElem q]; rfl
    · rw [List.getElem?_eq_none (by omega), List.getElem?_eq_none (by omega)]
  · rw [if_neg z, if_neg z, h j z, wipe_get?, if_neg z]
theorem wipe_ok (e : EnvOk Γ H σ s) : ∀ (is : List Nat), (∀ i ∈ is, (getS s i).loose = true) → EnvOk Γ H (wipe σ is) (wipeS s is) ∧ Step Γ σ s H (wipe σ is) (wipeS s is) H
  | [], _ => ⟨e, Step.refl⟩
  | i :: r, h => by
    obtain ⟨e1, t1⟩ := wipe_ok e r fun i hi => h i (List.mem_cons_of_mem _ hi)
    have hl : (getS (wipeS s r) i).loose = true := by
      rw [wipeS_get]
      split
      · rfl
      · exact h i List.mem_cons_self
    obtain ⟨e2, t2⟩ := drop_ok e1 hl
    exact ⟨e2, t1.trans t2⟩
end
end PI

set_option linter.all false
set_option maxRecDepth 100000
set_option maxHeartbeats 1000000
/-! P9c: comprehensions. -/
namespace PI
open PySem PySem.Spec PyProof.Rows L2
section
variable {Γ : Fm} {W : WX} {c : Cn} {σ σ' σ2 : St} {H H' H1 H2 : Hp} {s s1 s2 s' : Sl} {a : Addr}
theorem MM.add (h : MM Γ σ s a) {b : Addr} : MM (Γ.add b) σ s a := h.imp (fun z => z.imp id fun w => .inr w) id
theorem MM.unadd {b : Addr} (h : MM (Γ.add b) σ s a) : a = b ∨ MM Γ σ s a := by
  rcases h with (h | h | h) | h
  · exact .inr (.inl (.inl h))
  · exact .inl h
  · exact .inr (.inl (.inr h))
  · exact .inr (.inr h)
theorem Step.add (t : Step Γ σ s H σ' s' H') : Step (Γ.add a) σ s H σ' s' H' :=
  ⟨t.keep, t.dom, t.ch, fun b h => by
    rcases h.unadd with z | z
    · subst z; exact .inl (.inl (.inr (.inl rfl)))
    · exact (t.mm b z).imp (fun q => q.add) id, t.fix⟩
theorem Step.unadd (n : H a = none) (t : Step (Γ.add a) σ s H σ' s' H') : Step Γ σ s H σ' s' H' :=
  ⟨t.keep, t.dom, t.ch, fun b h => by
    rcases t.mm b h.add with z | z
    · rcases z.unadd with z | z
      · subst z; exact .inr n
      · exact .inl z
    · exact .inr z, t.fix⟩
theorem pend_nh (e : EnvOk (Γ.add a) H σ s) {i : Nat} (h : (getS s i).held = true) : sAt σ i ≠ some (.ref a) ∨ (∃ d, getS s i = .ino d ∨ getS s i = .lent false d) := by
  have q := e.slot i
  cases hx : getS s i with
  | no => rw [hx] at h; simp [Slot.held] at h
  | fz d => rw [hx] at h; simp [Slot.held] at h
  | own d => rw [hx] at q; obtain ⟨b, h1, h2, _⟩ := q; exact .inl fun z => by rw [z] at h1; cases h1; exact h2 (.inr (.inl rfl))
  | ino d => exact .inr ⟨d, .inl rfl⟩
  | lent b d =>
    cases b with
    | true => rw [hx] at q; obtain ⟨b, h1, h2, _⟩ := q; exact .inl fun z => by rw [z] at h1; cases h1; exact h2 (.inr (.inl rfl))
    | false => exact .inr ⟨d, .inr rfl⟩
theorem pend_nc (e : EnvOk (Γ.add a) H σ s) : ¬ Ch σ s a := fun ⟨i, h1, h2⟩ => by
  have q := e.slot i
  cases hx : getS s i with
  | own d => rw [hx] at q; obtain ⟨b, g1, g2, _⟩ := q; rw [h1] at g1; cases g1; exact g2 (.inr (.inl rfl))
  | ino d => rw [hx] at q; obtain ⟨b, g1, g2, _⟩ := q; rw [h1] at g1; cases g1; exact g2.2 (.inl rfl)
  | _ => rw [hx] at h2; simp [Slot.mut] at h2
theorem tabs_write0 {T : List (Addr × Str)} {av : List V} {o : HO} (h : H a = some (.lst av)) (t : LamX.Tabs T H) : LamX.Tabs T (upd H a o) := fun p hp => by
  obtain ⟨ps, h1, h2, h3⟩ := t p hp
  have n1 : p.1 ≠ a := fun z => by rw [z, h] at h1; cases h1
  refine ⟨ps, by rw [upd_ne n1]; exact h1, h2, fun pos cv hc => ?_⟩
  obtain ⟨c, e1, e2⟩ := h3 pos cv hc
  have n2 : c ≠ a := fun z => by rw [z, h] at e2; cases e2
  exact ⟨c, e1, by rw [upd_ne n2]; exact e2⟩
theorem tabs_write {G : Gm} {av : List V} {o : HO} (h : H a = some (.lst av)) (t : Tabz G H) : Tabz G (upd H a o) := ⟨tabs_write0 h t.1, fun p hp => by
  have e := t.2 p hp
  rw [upd_ne (fun z => by rw [z, h] at e; cases e)]
  exact e⟩
/-- the pending list is written -/
theorem pend_write {av av' : List V} (h0 : Γ.H0 a = none) (e : EnvOk (Γ.add a) H σ s) (ha : H a = some (.lst av)) : EnvOk (Γ.add a) (upd H a (.lst av')) σ s := by
  have kk : ∀ b o, H b = some o → ¬ MM (Γ.add a) σ s b → NT o → upd H a (.lst av') b = some o := fun b o h n _ => by
    rw [upd_ne (fun z => n (by rw [z]; exact .inl (.inr (.inl rfl))))]; exact h
  have dd : ∀ b, H b ≠ none → upd H a (.lst av') b ≠ none := fun b h => by
    by_cases z : b = a
    · subst z; rw [upd_same]; simp
    · rw [upd_ne z]; exact h
  refine ⟨e.len, fun j => ?_, e.dis, fun b h => dd b (e.trk b h), ⟨fun b h => dd b (e.dm.1 b h), fun b o h nt nm => by rw [upd_ne (ne_of_none h h0)]; exact e.dm.2 b o h nt nm⟩, tabs_write ha e.tab⟩
  refine (e.slot j).mono kk (fun b h => .inl h) (fun b hb hh u hu nt => ?_)
  rw [upd_ne (fun z => ?_)]; exact hu
  subst z
  have q := e.slot j
  cases hx : getS s j with
  | no => rw [hx] at hh; simp [Slot.held] at hh
  | fz d => rw [hx] at hh; simp [Slot.held] at hh
  | own d => rw [hx] at q; obtain ⟨b', g1, g2, _⟩ := q; rw [hb] at g1; cases g1; exact g2 (.inr (.inl rfl))
  | ino d => rw [hx] at q; obtain ⟨b', g1, g2, _⟩ := q; rw [hb] at g1; cases g1; exact g2.2 (.inl rfl)
  | lent bb d =>
    rw [hx] at q
    cases bb with
    | true => obtain ⟨b', g1, g2, _⟩ := q; rw [hb] at g1; cases g1; exact g2 (.inr (.inl rfl))
    | false => obtain ⟨b', g1, g2, _⟩ := q; rw [hb] at g1; cases g1; exact g2.2 (.inl rfl)
theorem pend_step {o : HO} (n : H1 a = none) (t : Step Γ σ s H1 σ' s' H) : Step Γ σ s H1 σ' s' (upd H a o) :=
  ⟨fun b u h nc nt => by rw [upd_ne (ne_of_none h n)]; exact t.keep b u h nc nt, fun b h => by
    by_cases z : b = a
    · subst z; rw [upd_same]; simp
    · rw [upd_ne z]; exact t.dom b h, t.ch, t.mm, t.fix⟩
/-- a pending list as a value -/
theorem pend_rep {ds : List D} {vs : List V} (e : EnvOk (Γ.add a) H σ s) (hM : ¬ (Γ.M0 a ∨ Γ.P a)) (ha : H a = some (.lst vs)) (r : Reps Γ.G H (MM (Γ.add a) σ s) ds vs) : Rep Γ.G H (MM Γ σ s) (.lst ds) (.ref a) := by
  refine ⟨a, vs, rfl, ⟨ha, fun m => ?_⟩, Reps.mono (fun _ _ h _ _ => h) (fun b h => .inl h.add) ds vs r⟩
  rcases m with m | ⟨i, h1, h2⟩
  · exact hM m
  · have q := e.slot i
    cases hx : getS s i with
    | own d => rw [hx] at q; obtain ⟨b, g1, g2, _⟩ := q; rw [h1] at g1; cases g1; exact g2 (.inr (.inl rfl))
    | lent b d =>
      cases b with
      | true => rw [hx] at q; obtain ⟨b, g1, g2, _⟩ := q; rw [h1] at g1; cases g1; exact g2 (.inr (.inl rfl))
      | false => rw [hx] at h2; simp [Slot.mine] at h2
    | _ => rw [hx] at h2; simp [Slot.mine] at h2
theorem back_ok {is : List Nat} (e1 : EnvOk Γ H1 σ s1) (nD : H1 a = none) (hl : ∀ i ∈ is, (getS s1 i).loose = true) (t : Step (Γ.add a) σ s1 H1 (wipe σ is) s2 H) (e2 : EnvOk (Γ.add a) H (wipe σ is) s2) : EnvOk (Γ.add a) H σ (backS s1 s2 is) ∧ Step (Γ.add a) σ s1 H1 σ (backS s1 s2 is) H ∧ ∀ b, MM (Γ.add a) σ (backS s1 s2 is) b → MM (Γ.add a) (wipe σ is) s2 b := by
  have hlen : s1.length = s2.length := by rw [← e1.len, ← e2.len, wipe_length]
  have gb := backS_get s1 s2 hlen
  have nm : ∀ j ∈ is, (getS s1 j).mine = false ∧ (getS s1 j).held = false ∧ (getS s1 j).mut = false := fun j hj => by
    have := hl j hj
    cases q : getS s1 j <;> simp_all [Slot.loose, Slot.mine, Slot.held, Slot.mut]
  have mm : ∀ b, MM (Γ.add a) σ (backS s1 s2 is) b → MM (Γ.add a) (wipe σ is) s2 b := fun a h => by
    rcases h with h | ⟨j, h1, h2⟩
    · exact .inl h
    · rw [gb] at h2
      by_cases z : j ∈ is
      · rw [if_pos z, (nm j z).1] at h2; cases h2
      · rw [if_neg z] at h2
        exact .inr ⟨j, by rw [wipe_get, if_neg z]; exact h1, h2⟩
  refine ⟨⟨by rw [backS_length, ← hlen]; exact e1.len, fun j => ?_, fun j k a h1 h2 h3 h4 => ?_, e2.trk, e2.dm, e2.tab⟩, ⟨t.keep, t.dom, fun a h => t.ch a ?_, fun a h => t.mm a (mm a h), fun j => ⟨fun d' hd => ⟨rfl, ?_⟩, fun b d' hd => ⟨rfl, ?_⟩⟩⟩, mm⟩
  · rw [gb]
    by_cases z : j ∈ is
    · rw [if_pos z]
      have q := (e1.slot j).mono (H' := H) (M' := MM (Γ.add a) σ (backS s1 s2 is)) (fun a o e nm' nt => t.keep a o e (fun z => nm' (e1.chM z)) nt) (fun b h => (t.mm b (mm b h)).elim (fun q => q.unadd.elim (fun z => .inr (by rw [z]; exact nD)) .inl) .inr) (fun a _ hh => by rw [(nm j z).2.1] at hh; cases hh)
      have hlj := hl j z
      cases hx : getS s1 j with
      | no => trivial
      | fz d => rw [hx] at q; exact q
      | _ => rw [hx] at hlj; simp [Slot.loose] at hlj
    · rw [if_neg z]
      have q := e2.slot j
      rw [wipe_get, if_neg z] at q
      exact q.mono (fun _ _ h _ _ => h) (fun a h => .inl (mm a h)) (fun _ _ _ _ h _ => h)
  · rw [gb] at h1 h2
    by_cases zj : j ∈ is
    · rw [if_pos zj, (nm j zj).2.1] at h1; cases h1
    · by_cases zk : k ∈ is
      · rw [if_pos zk, (nm k zk).2.1] at h2; cases h2
      · rw [if_neg zj] at h1
        rw [if_neg zk] at h2
        exact e2.dis j k a h1 h2 (by rw [wipe_get, if_neg zj]; exact h3) (by rw [wipe_get, if_neg zk]; exact h4)
  · obtain ⟨j, h1, h2⟩ := h
    rw [gb] at h2
    by_cases z : j ∈ is
    · rw [if_pos z, (nm j z).2.2] at h2; cases h2
    · rw [if_neg z] at h2
      exact ⟨j, by rw [wipe_get, if_neg z]; exact h1, h2⟩
  · rw [gb]
    by_cases z : j ∈ is
    · have := (nm j z).2.1; rw [hd] at this; cases this
    · rw [if_neg z]
      obtain ⟨_, q⟩ := (t.fix j).1 d' hd
      exact q
  · rw [gb]
    by_cases z : j ∈ is
    · have := (nm j z).2.1; rw [hd] at this; cases this
    · rw [if_neg z]
      exact ((t.fix j).2 b d' hd).2
end
section
variable (Γ : Fm) (W : WX) (c : Cn)
/-- a new list, that nobody holds yet -/
def SemP (r : Res D) (s : Sl) (σ : St) (H : Hp) (Q : VK) : Prop := match r with
  | .ok d s' => ∀ a ds vs H', d = .lst ds → H a = none → H' a = some (.lst vs) → EnvOk (Γ.add a) H' σ s' → Step Γ σ s H σ s' H' → Reps Γ.G H' (MM (Γ.add a) σ s') ds vs → Q (.ref a) H'
  | .err x s' => SemX Γ W x s s' σ H
  | .bad => False
def semP (e : E) : TE := fun σ H Q => ∃ s, EnvOk Γ H σ s ∧ SemP Γ W (evalE c e s) s σ H Q
def SemCs (r : Res Bool) (s : Sl) (σ : St) (H : Hp) (Q : Bool → Hp → Prop) : Prop := match r with
  | .ok b s' => ∀ H', EnvOk Γ H' σ s' → Step Γ σ s H σ s' H' → Q b H'
  | .err x s' => SemX Γ W x s s' σ H
  | .bad => False
def semCs (e : Es) : TT := fun σ H Q => ∃ s, EnvOk Γ H σ s ∧ SemCs Γ W (evalCs c e s) s σ H Q
end
def WF : WX := fun _ _ _ _ => False
section
variable {X : Cx} {Γ : Fm} {W : WX} {c : Cn} {k : Ct} {σ : St} {H : Hp} {s : Sl}
theorem semP_of {e : E} {Q : VK} (h : semE Γ W c e σ H Q) : semP Γ W c e σ H Q := by
  obtain ⟨s, e1, h⟩ := h
  refine ⟨s, e1, ?_⟩
  cases q : evalE c e s with
  | bad => rw [q] at h; exact h
  | err x s1 => rw [q] at h; exact h
  | ok d s1 =>
    rw [q] at h
    intro a ds vs H' hd hn ha e2 t2 r2
    subst hd
    exact h (.ref a) H' e2.unadd t2 (pend_rep e2 (fun m => e1.trk a m hn) ha r2)
theorem semX_false {x : Exn} {s s' : Sl} {σ : St} {H : Hp} (h : SemX Γ WF x s s' σ H) (cls : Value) (dd : Option Addr) (H' : Hp) (e : EnvOk Γ H' σ s') (t : Step Γ σ s H σ s' H') (r : RepX Γ.G H' (MM Γ σ s') x cls dd) : False := h cls dd H' e t r
/-- one turn of a comprehension -/
def compF (c : Cn) (tg : Tg) (cs : Es) (el : E) : D → Sl → Res (Option D) := fun d s => match tg.put d s with
  | some s => (evalCs c cs s).bind fun b s => if b then (evalE c el s).bind fun y s => wipeR tg.slots s (some y) else wipeR tg.slots s none
  | none => .bad
theorem evalE_comp (tg : Tg) (it : It) (cs : Es) (el : E) (s : Sl) : evalE c (.comp tg it cs el) s = (evalIt c it s).bind fun ds s1 =>
    if tg.slots.all fun i => (getS s1 i).loose then (loopC (compF c tg cs el) ds (wipeS s1 tg.slots) []).bind fun d s2 => .ok d (unlend s s1 (backS s1 s2 tg.slots) it.lends) else .bad := by
  rw [evalE]; rfl
theorem comp_read {tg : Tg} {it : It} {cs : Es} {el : E} {Q : VK} (h : semP Γ W c (.comp tg it cs el) σ H Q) :
    tLc (semI Γ W c it) (fun v σ H Q => ∃ D, semG (Γ.add D) tg v σ H Q) (fun σ H Q => ∃ D, semCs (Γ.add D) WF c cs σ H Q) (fun σ H Q => ∃ D, semE (Γ.add D) WF c el σ H Q) tg.slots σ H Q := by
  obtain ⟨s, e0, h⟩ := h
  refine ⟨s, e0, ?_⟩
  rw [evalE_comp] at h
  cases qi : evalIt c it s with
  | bad => rw [qi] at h; exact h
  | err x s1 => rw [qi] at h; exact h
  | ok ds s1 =>
    rw [qi] at h
    have h : SemP Γ W (if tg.slots.all fun i => (getS s1 i).loose then (loopC (compF c tg cs el) ds (wipeS s1 tg.slots) []).bind fun d s2 => .ok d (unlend s s1 (backS s1 s2 tg.slots) it.lends) else .bad) s σ H Q := h
    intro J H1 e1 t1 io D nD
    by_cases hl : (tg.slots.all fun i => (getS s1 i).loose) = true
    · rw [if_pos hl] at h
      have hl : ∀ i ∈ tg.slots, (getS s1 i).loose = true := fun i hi => List.all_eq_true.mp hl i hi
      have h0D : Γ.H0 D = none := by
        cases q : Γ.H0 D with
        | none => rfl
        | some o => exact absurd nD (e1.dm.1 D (by rw [q]; simp))
      -- the loop's worth
      have e1' := e1.addNew (a := D) (o := .lst []) nD
      have kD : ∀ b u, H1 b = some u → upd H1 D (.lst []) b = some u := fun b u h => upd_keep nD b u h
      obtain ⟨ew, tw⟩ := wipe_ok e1' tg.slots hl
      have T0 : Step (Γ.add D) σ s1 H1 (wipe σ tg.slots) (wipeS s1 tg.slots) (upd H1 D (.lst [])) := (Step.grow kD).trans tw
      obtain ⟨dd, s2, hloop, hfin⟩ : ∃ dd s2, loopC (compF c tg cs el) ds (wipeS s1 tg.slots) [] = .ok dd s2 ∧ SemP Γ W (.ok dd (unlend s s1 (backS s1 s2 tg.slots) it.lends)) s σ H Q := by
        cases ql : loopC (compF c tg cs el) ds (wipeS s1 tg.slots) [] with
        | ok dd s2 => rw [ql] at h; exact ⟨dd, s2, rfl, h⟩
        | bad => rw [ql] at h; exact h.elim
        | err x s2 =>
          exfalso
          have ne : ∀ (ds : List PI.D) (s : Sl) (acc : List PI.D) (x : Exn) (s2 : Sl), loopC (compF c tg cs el) ds s acc ≠ .err x s2 := by
            intro ds
            induction ds with
            | nil => intro s acc x s2 z; simp [loopC] at z
            | cons d r ih =>
              intro s acc x s2 z
              rw [loopC] at z
              split at z
              · exact ih _ _ _ _ z
              · split at z
                · exact ih _ _ _ _ z
                · cases z
              · cases z
          exact ne _ _ _ _ _ ql
      have w : Walk J ds.length (fun H => Lat H1 (Ch σ s1) H) (fun i H x H' => ∀ M', (∀ a, M' a → MM Γ σ s1 a ∨ H1 a = none) → (∀ a, M' a → H a ≠ none) → (∀ a o, H a = some o → H' a = some o) ∧ ∃ d, ds[i]? = some d ∧ Rep Γ.G H' M' d x) :=
        ⟨fun i H hi l => io.goes i H hi l, fun H l => io.stops H l, fun i H x H' hi l y M' m k => io.yields i H x H' M' hi l m k y⟩
      refine lc_it (g := fun v σ H Q => ∃ D, semG (Γ.add D) tg v σ H Q) (tt := fun σ H Q => ∃ D, semCs (Γ.add D) WF c cs σ H Q) (te := fun σ H Q => ∃ D, semE (Γ.add D) WF c el σ H Q) (vs := tg.slots) (σ := σ) (Qd := fun H => Q (.ref D) H) w (fun i H => ∃ si acc av, loopC (compF c tg cs el) (ds.drop i) si acc = .ok dd s2 ∧ EnvOk (Γ.add D) H (wipe σ tg.slots) si ∧ Step (Γ.add D) σ s1 H1 (wipe σ tg.slots) si H ∧ H D = some (.lst av) ∧ Reps Γ.G H (MM (Γ.add D) (wipe σ tg.slots) si) acc.reverse av)
        ⟨_, [], [], hloop, ew, T0, upd_same, rfl⟩ (fun i H _ ⟨si, acc, av, _, _, T, _⟩ => T.keep) ?_ ?_
      · -- a turn
        rintro i x H H' hi ⟨si, acc, av, hlp, ei, T, hD, rD⟩ y
        obtain ⟨kk, d, hd, rd⟩ := y (MM (Γ.add D) (wipe σ tg.slots) si) (fun a m => by
          rcases T.mm a m with z | z
          · rcases z.unadd with z | z
            · subst z; exact .inr nD
            · exact .inl z
          · exact .inr z) ei.mmTrk
        have hdrop : ds.drop i = d :: ds.drop (i + 1) := by
          have hd' := List.getElem?_eq_some_iff.mp hd
          obtain ⟨hlt, hge⟩ := hd'
          rw [← hge]
          exact List.drop_eq_getElem_cons hlt
        rw [hdrop, loopC] at hlp
        have ei' := ei.grow kk
        have T' : Step (Γ.add D) σ s1 H1 (wipe σ tg.slots) si H' := T.trans (Step.grow kk)
        have hD' : H' D = some (.lst av) := kk _ _ hD
        have rD' : Reps Γ.G H' (MM (Γ.add D) (wipe σ tg.slots) si) acc.reverse av := Reps.mono (fun a o h _ _ => kk a o h) (fun a m => .inl m) _ _ rD
        cases hput : tg.put d si with
        | none => simp only [compF, hput] at hlp; cases hlp
        | some s3 =>
          refine ⟨D, d, si, ei', rd, s3, hput, fun σ2 e3 t3 n3 l3 => ?_⟩
          have hw : wipe σ2 tg.slots = wipe σ tg.slots := wipe_eq n3 (by rw [l3, wipe_length])
          refine ⟨hw, D, s3, e3, ?_⟩
          have T3 := T'.trans t3
          have nc3 : ¬ Ch σ2 s3 D := pend_nc e3
          have hD3 : H' D = some (.lst av) := hD'
          have rD3 := Reps.step ei' t3 rD'
          cases qc : evalCs c cs s3 with
          | bad => simp only [compF, hput, qc, Res.bind] at hlp; cases hlp
          | err x s4 => simp only [compF, hput, qc, Res.bind] at hlp; cases hlp
          | ok b s4 =>
            intro H3 e4 t4
            have hD4 : H3 D = some (.lst av) := t4.keep D _ hD3 nc3 (fun ps z => by cases z)
            have rD4 := Reps.step e3 t4 rD3
            have T4 := T3.trans t4
            simp only [compF, hput, qc, Res.bind] at hlp
            cases b with
            | false =>
              simp only [Bool.false_eq_true, if_false] at hlp ⊢
              unfold wipeR at hlp
              by_cases hz : (tg.slots.all fun i => (getS s4 i).loose) = true
              · rw [if_pos hz] at hlp
                obtain ⟨e5, t5⟩ := wipe_ok e4 tg.slots (fun i hi => List.all_eq_true.mp hz i hi)
                rw [hw] at e5 t5
                exact ⟨_, acc, av, hlp, e5, T4.trans t5, hD4, Reps.step e4 t5 rD4⟩
              · rw [if_neg hz] at hlp; cases hlp
            | true =>
              simp only [if_true] at hlp ⊢
              refine ⟨D, s4, e4, ?_⟩
              cases qe : evalE c el s4 with
              | bad => simp only [qe] at hlp; cases hlp
              | err x s5 => simp only [qe] at hlp; cases hlp
              | ok y s5 =>
                intro v H4 e5 t5 r5
                have hD5 : H4 D = some (.lst av) := t5.keep D _ hD4 (pend_nc e4) (fun ps z => by cases z)
                have rD5 := Reps.step e4 t5 rD4
                have T5 := T4.trans t5
                simp only [qe] at hlp
                unfold wipeR at hlp
                by_cases hz : (tg.slots.all fun i => (getS s5 i).loose) = true
                · rw [if_pos hz] at hlp
                  simp only at hlp
                  by_cases hlen : acc.length < lim
                  · rw [if_pos hlen] at hlp
                    refine ⟨av, hD5, ?_, ?_⟩
                    · rw [← rD5.len, List.length_reverse]
                      exact Nat.lt_of_lt_of_eq hlen (by rw [sizeLine_eq]; rfl)
                    · obtain ⟨e6, t6⟩ := wipe_ok e5 tg.slots (fun i hi => List.all_eq_true.mp hz i hi)
                      rw [hw] at e6 t6
                      have r6 := Rep.step e5 t6 r5
                      have rD6 := Reps.step e5 t6 rD5
                      refine ⟨_, y :: acc, av ++ [v], hlp, pend_write h0D e6 hD5, pend_step nD (T5.trans t6), upd_same, ?_⟩
                      rw [List.reverse_cons]
                      refine Reps.app (Reps.mono (fun b o h n _ => ?_) (fun a m => .inl m) _ _ rD6) (Reps.one (Rep.mono (fun b o h n _ => ?_) (fun a m => .inl m) _ _ r6))
                      · rw [upd_ne (fun z => n (by rw [z]; exact .inl (.inr (.inl rfl))))]; exact h
                      · rw [upd_ne (fun z => n (by rw [z]; exact .inl (.inr (.inl rfl))))]; exact h
                  · rw [if_neg hlen] at hlp; cases hlp
                · rw [if_neg hz] at hlp; cases hlp
      · -- the end
        rintro H2 ⟨si, acc, av, hlp, ei, T, hD, rD⟩
        rw [List.drop_length, loopC] at hlp
        cases hlp
        obtain ⟨e6, t6, m6⟩ := back_ok e1 nD hl T ei
        have ta : Step (Γ.add D) σ s H σ s1 H1 := t1.add
        obtain ⟨e7, t7, m7⟩ := unlend_ok ta t6 it.lends e6 (ta.trans t6)
        have nH : H D = none := by
          cases q : H D with
          | none => rfl
          | some o => exact absurd nD (t1.dom D (by rw [q]; simp))
        exact hfin D _ av H2 rfl nH hD e7 (t7.unadd nH) (Reps.mono (fun _ _ h _ _ => h) (fun b h => .inl (m6 b (m7 b h))) _ _ rD)
    · rw [if_neg hl] at h; exact h.elim
theorem pe_comp {tg : Tg} {it : It} {cs : Es} {el : E} {elt tge iter : Expr} {ifs : List Expr} {scope : Scope} {own : List (Str × Nat)} {pos : Pos} (hc : X.calm = true) (hN : X.N.Nodup) (hi : PI X tge iter (semI Γ W c it)) (ok : BlkOk X.N X.env.scope scope own) (ho : own.map (·.2) = tg.slots)
    (hg : ∀ (D : Addr) (s : Shared) (H : Hp) (C : Addr) (cl : List (Str × Addr)) (fp : List Addr), PG (X.blk s H scope (compEnvC scope cl C X.env) fp) tge (semG (Γ.add D) tg))
    (ht : ∀ (D : Addr) (s : Shared) (H : Hp) (C : Addr) (cl : List (Str × Addr)) (fp : List Addr), PTs (X.blk s H scope (compEnvC scope cl C X.env) fp) ifs (semCs (Γ.add D) WF c cs))
    (he : ∀ (D : Addr) (s : Shared) (H : Hp) (C : Addr) (cl : List (Str × Addr)) (fp : List Addr), PE (X.blk s H scope (compEnvC scope cl C X.env) fp) elt (semE (Γ.add D) WF c el))
    (hs : ∀ x, foldedSetIterable iter X.env x = pure x) :
    PE X (.ListComp elt [⟨tge, iter, ifs, 0⟩] scope pos) (semP Γ W c (.comp tg it cs el)) :=
  (pe_lc (g := fun v σ H Q => ∃ D, semG (Γ.add D) tg v σ H Q) (tt := fun σ H Q => ∃ D, semCs (Γ.add D) WF c cs σ H Q) (te := fun σ H Q => ∃ D, semE (Γ.add D) WF c el σ H Q) hc hN hi ok
    (fun s H C cl fp => ⟨fun pins s' σ H v u Q I r ⟨D, q⟩ => (hg D s _ C cl fp).run pins s' σ H v u Q I r q⟩)
    (fun s H C cl fp => ⟨fun pins s' σ H Q I ⟨D, q⟩ => (ht D s _ C cl fp).run pins s' σ H Q I q⟩)
    (fun s H C cl fp => ⟨fun pins s' σ H Q I ⟨D, q⟩ => (he D s _ C cl fp).run pins s' σ H Q I q⟩) hs).weak fun σ H Q h => by rw [ho]; exact comp_read h
/-- name = [..] on one line -/
theorem ps_comp {tg : Tg} {it : It} {cs : Es} {el : E} {elt tge iter : Expr} {ifs : List Expr} {scope : Scope} {own : List (Str × Nat)} {pos spos py : Pos} {i : Nat} {y : Str} (hc : X.calm = true) (hN : X.N.Nodup) (hi : PI X tge iter (semI Γ W c it)) (ok : BlkOk X.N X.env.scope scope own) (ho : own.map (·.2) = tg.slots)
    (hy : X.N[i]? = some y) (hyl : X.env.scope.names.lookup y = some .local) (hsw : swapsWith (.ListComp elt [⟨tge, iter, ifs, 0⟩] scope pos) (some (.Name y py)) spos.line X.env = pure true)
    (hg : ∀ (D : Addr) (s : Shared) (H : Hp) (C : Addr) (cl : List (Str × Addr)) (fp : List Addr), PG (X.blk s H scope (compEnvC scope cl C X.env) fp) tge (semG (Γ.add D) tg))
    (ht : ∀ (D : Addr) (s : Shared) (H : Hp) (C : Addr) (cl : List (Str × Addr)) (fp : List Addr), PTs (X.blk s H scope (compEnvC scope cl C X.env) fp) ifs (semCs (Γ.add D) WF c cs))
    (he : ∀ (D : Addr) (s : Shared) (H : Hp) (C : Addr) (cl : List (Str × Addr)) (fp : List Addr), PE (X.blk s H scope (compEnvC scope cl C X.env) fp) elt (semE (Γ.add D) WF c el))
    (hs : ∀ x, foldedSetIterable iter X.env x = pure x) :
    PS X (.Assign [.Name y py] (.ListComp elt [⟨tge, iter, ifs, 0⟩] scope pos) spos) (tAsg (semP Γ W c (.comp tg it cs el)) (gName i)) :=
  (ps_setLc (g := fun v σ H Q => ∃ D, semG (Γ.add D) tg v σ H Q) (tt := fun σ H Q => ∃ D, semCs (Γ.add D) WF c cs σ H Q) (te := fun σ H Q => ∃ D, semE (Γ.add D) WF c el σ H Q) hc hN hy hyl hsw hi ok
    (fun s H C cl fp => ⟨fun pins s' σ H v u Q I r ⟨D, q⟩ => (hg D s _ C cl fp).run pins s' σ H v u Q I r q⟩)
    (fun s H C cl fp => ⟨fun pins s' σ H Q I ⟨D, q⟩ => (ht D s _ C cl fp).run pins s' σ H Q I q⟩)
    (fun s H C cl fp => ⟨fun pins s' σ H Q I ⟨D, q⟩ => (he D s _ C cl fp).run pins s' σ H Q I q⟩) hs).weak fun D σ H h => by rw [ho]; exact comp_read h
end
end PI

set_option linter.all false
set_option maxRecDepth 100000
set_option maxHeartbeats 1000000
/-! P10: calls. -/
namespace PI
open PySem PySem.Spec PyProof.Rows L2
section
variable {G : Gm} {X : Cx} {Γ : Fm} {W : WX} {c : Cn} {k : Ct} {σ : St} {H H1 H' : Hp} {s s1 s3 : Sl} {M : Addr → Prop}
theorem withD_mut {x : Slot} {d : D} : (x.withD d).mut = x.mut := by cases x <;> rfl
theorem withD_mine {x : Slot} {d : D} : (x.withD d).mine = x.mine := by cases x <;> rfl
theorem withD_held {x : Slot} {d : D} : (x.withD d).held = x.held := by cases x <;> rfl
theorem putOuts_length : ∀ (is : List Nat) (ds : List D) (s : Sl), (putOuts is ds s).length = s.length
  | [], _, s => by simp [putOuts]
  | i :: is, [], s => by simp [putOuts]
  | i :: is, d :: ds, s => by rw [putOuts, putOuts_length, List.length_set]
theorem nodupB_cons {i : Nat} {is : List Nat} (h : nodupB (i :: is) = true) : i ∉ is ∧ nodupB is = true := by
  simp only [nodupB, Bool.and_eq_true, Bool.not_eq_true'] at h
  refine ⟨fun z => ?_, h.2⟩
  have := h.1
  rw [List.elem_eq_true_of_mem z] at this
  cases this
theorem OutsOk.mono {M M' : Addr → Prop} (hm : ∀ b, M' b → M b) : ∀ {io : List Bool} {ds : List D} {vs : List V}, OutsOk G H' M io ds vs → OutsOk G H' M' io ds vs
  | [], _, _, h => h
  | false :: r, _, _, ⟨v, u, e, h⟩ => ⟨v, u, e, OutsOk.mono hm h⟩
  | true :: r, _, _, ⟨d, t, a, u, e1, e2, hc, h⟩ => ⟨d, t, a, u, e1, e2, hc.mono (fun _ _ h _ _ => h) (fun b hb => .inl (hm b hb)) (fun _ h _ => h), OutsOk.mono hm h⟩
theorem putOuts_spec {M' : Addr → Prop} : ∀ (a : As) (ds : List D) (vs : List V) (outs : List D) (s : Sl), RepsA G H1 M σ s1 a ds vs → OutsOk G H' M' a.mask outs vs → nodupB a.bs = true → (∀ i ∈ a.bs, i < s.length ∧ getS s i = getS s1 i) →
    ∀ j, (j ∉ a.bs → getS (putOuts a.bs outs s) j = getS s j) ∧ (j ∈ a.bs → ∃ d' ad, getS (putOuts a.bs outs s) j = (getS s1 j).withD d' ∧ sAt σ j = some (.ref ad) ∧ Cont G H' M' d' ad)
  | .nil, ds, vs, outs, s, _, _, _, _, j => by simp [As.bs, putOuts]
  | .cons (.e _) r, ds, vs, outs, s, h, ho, hn, hs, j => by
    obtain ⟨d, t, v, u, rfl, rfl, _, h2⟩ := h
    obtain ⟨v', u', e, ho⟩ := ho
    cases e
    exact putOuts_spec r t _ outs s h2 ho hn hs j
  | .cons (.b i) r, ds, vs, outs, s, h, ho, hn, hs, j => by
    obtain ⟨d, t, v, u, rfl, rfl, _, hv, _, h2⟩ := h
    obtain ⟨d', t', a, u', rfl, e, hc, ho⟩ := ho
    cases e
    obtain ⟨n1, n2⟩ := nodupB_cons hn
    obtain ⟨l1, g1⟩ := hs i (by simp [As.bs])
    have ih := putOuts_spec r t _ t' (s.set i ((getS s i).withD d')) h2 ho n2 (fun i' hi' => by
      have ne : i' ≠ i := fun z => n1 (z ▸ hi')
      obtain ⟨l2, g2⟩ := hs i' (by simp [As.bs, hi'])
      exact ⟨by rw [List.length_set]; exact l2, by rw [getS_set l1, if_neg ne]; exact g2⟩) j
    show (j ∉ i :: r.bs → getS (putOuts r.bs t' (s.set i ((getS s i).withD d'))) j = getS s j) ∧ _
    refine ⟨fun hj => ?_, fun hj => ?_⟩
    · have hj : ¬ (j = i ∨ j ∈ r.bs) := by simpa using hj
      rw [ih.1 (fun z => hj (.inr z)), getS_set l1, if_neg (fun z => hj (.inl z))]
    · have hj : j = i ∨ j ∈ r.bs := by simpa [As.bs] using hj
      by_cases hjr : j ∈ r.bs
      · exact ih.2 hjr
      · have e : j = i := hj.resolve_right hjr
        subst e
        refine ⟨d', a, ?_, hv, hc⟩
        show getS (putOuts r.bs t' (s.set j ((getS s j).withD d'))) j = _
        rw [ih.1 hjr, getS_set l1, if_pos rfl, g1]
theorem owns_slot : ∀ (a : As) (ds : List D) (vs : List V), RepsA G H1 M σ s1 a ds vs → ∀ (p : Nat) (ad : Addr), a.mask[p]? = some true → vs[p]? = some (V.ref ad) → ∃ i, i ∈ a.bs ∧ sAt σ i = some (.ref ad)
  | .nil, ds, vs, h, p, ad, hp, hv => by simp [As.mask] at hp
  | .cons (.e _) r, ds, vs, h, p, ad, hp, hv => by
    obtain ⟨d, t, v, u, rfl, rfl, _, h2⟩ := h
    cases p with
    | zero => simp [As.mask] at hp
    | succ p => exact owns_slot r t u h2 p ad (by simpa [As.mask] using hp) (by simpa using hv)
  | .cons (.b i) r, ds, vs, h, p, ad, hp, hv => by
    obtain ⟨d, t, v, u, rfl, rfl, _, hs, _, h2⟩ := h
    cases p with
    | zero =>
      have : v = .ref ad := by simpa using hv
      exact ⟨i, by simp [As.bs], by rw [hs, this]⟩
    | succ p =>
      obtain ⟨j, h1, h2⟩ := owns_slot r t u h2 p ad (by simpa [As.mask] using hp) (by simpa using hv)
      exact ⟨j, by simp [As.bs, h1], h2⟩
theorem cont_some {d : D} {a : Addr} (h : Cont G H1 M d a) : H1 a ≠ none := by
  cases d with
  | lst ds => obtain ⟨vs, z, _⟩ := h; rw [z]; simp
  | _ => exact h.elim
theorem slot_at : ∀ (a : As) (ds : List D) (vs : List V), RepsA G H1 M σ s1 a ds vs → nodupB a.bs = true → ∀ (p q : Nat) (i : Nat), (∀ ad, a.mask[p]? = some true → a.mask[q]? = some true → vs[p]? = some (V.ref ad) → vs[q]? = some (V.ref ad) → (∀ i j, i ∈ a.bs → j ∈ a.bs → sAt σ i = some (.ref ad) → sAt σ j = some (.ref ad) → i = j) → p = q)
  | .nil, ds, vs, h, hn, p, q, i => fun ad hp => by simp [As.mask] at hp
  | .cons (.e _) r, ds, vs, h, hn, p, q, i => fun ad hp hq hvp hvq hj => by
    obtain ⟨d, t, v, u, rfl, rfl, _, h2⟩ := h
    cases p with
    | zero => simp [As.mask] at hp
    | succ p =>
      cases q with
      | zero => simp [As.mask] at hq
      | succ q => rw [slot_at r t u h2 hn p q i ad (by simpa [As.mask] using hp) (by simpa [As.mask] using hq) (by simpa using hvp) (by simpa using hvq) hj]
  | .cons (.b i') r, ds, vs, h, hn, p, q, i => fun ad hp hq hvp hvq hj => by
    obtain ⟨d, t, v, u, rfl, rfl, _, hs, _, h2⟩ := h
    obtain ⟨n1, n2⟩ := nodupB_cons hn
    cases p with
    | zero =>
      cases q with
      | zero => rfl
      | succ q =>
        have e : v = .ref ad := by simpa using hvp
        obtain ⟨j, j1, j2⟩ := owns_slot r t u h2 q ad (by simpa [As.mask] using hq) (by simpa using hvq)
        have := hj i' j (by simp [As.bs]) (by simp [As.bs, j1]) (by rw [hs, e]) j2
        exact absurd (this ▸ j1) n1
    | succ p =>
      cases q with
      | zero =>
        have e : v = .ref ad := by simpa using hvq
        obtain ⟨j, j1, j2⟩ := owns_slot r t u h2 p ad (by simpa [As.mask] using hp) (by simpa using hvp)
        have := hj i' j (by simp [As.bs]) (by simp [As.bs, j1]) (by rw [hs, e]) j2
        exact absurd (this ▸ j1) n1
      | succ q => rw [slot_at r t u h2 n2 p q i ad (by simpa [As.mask] using hp) (by simpa [As.mask] using hq) (by simpa using hvp) (by simpa using hvq) (fun i j hi hj' => hj i j (by simp [As.bs, hi]) (by simp [As.bs, hj']))]
theorem argsOk_of (e1 : EnvOk Γ H1 σ s1) : ∀ (a : As) (ds : List D) (vs : List V), RepsA Γ.G H1 (MM Γ σ s1) σ s1 a ds vs → (∀ i ∈ a.bs, (getS s1 i).mut = true) → ArgsOk Γ.G H1 (MM Γ σ s1) a.mask ds vs
  | .nil, _, _, h, _ => h
  | .cons (.e _) r, ds, vs, h, hm => by
    obtain ⟨d, t, v, u, rfl, rfl, h1, h2⟩ := h
    exact ⟨d, t, v, u, rfl, rfl, h1, argsOk_of e1 r t u h2 hm⟩
  | .cons (.b i) r, ds, vs, h, hm => by
    obtain ⟨d, t, v, u, rfl, rfl, h1, hs, hv, h2⟩ := h
    have hmi := hm i (by simp [As.bs])
    have q := e1.slot i
    cases hx : getS s1 i with
    | own d0 =>
      rw [hx] at q hv
      cases hv
      obtain ⟨a, g1, _, _, g4⟩ := q
      rw [hs] at g1; cases g1
      exact ⟨d, t, a, u, rfl, rfl, .inr ⟨i, hs, by rw [hx]; rfl⟩, g4, argsOk_of e1 r t u h2 (fun j hj => hm j (by simp [As.bs, hj]))⟩
    | ino d0 =>
      rw [hx] at q hv
      cases hv
      obtain ⟨a, g1, g2, g4⟩ := q
      rw [hs] at g1; cases g1
      exact ⟨d, t, a, u, rfl, rfl, .inl (.inl g2.1), g4, argsOk_of e1 r t u h2 (fun j hj => hm j (by simp [As.bs, hj]))⟩
    | _ => rw [hx] at hmi; simp [Slot.mut] at hmi
/-- behind a call -/
theorem outs_env {a : As} {ds outs : List D} {vs : List V} (P' : Addr → Prop) (hP1 : ∀ b, Γ.P b → P' b) (hP2 : ∀ b, P' b → Γ.P b ∨ (H1 b = none ∧ H' b ≠ none)) (e1 : EnvOk Γ H1 σ s1) (r : RepsA Γ.G H1 (MM Γ σ s1) σ s1 a ds vs) (hm : ∀ i ∈ a.bs, (getS s1 i).mut = true) (hn : nodupB a.bs = true)
    (p : Post Γ.G H1 (MM Γ σ s1) a.mask vs outs H') (o : OutsOk Γ.G H' (fun b => P' b ∨ MM Γ σ s1 b) a.mask outs vs) :
    EnvOk { Γ with P := P' } H' σ (putOuts a.bs outs s1) ∧ Step Γ σ s1 H1 σ (putOuts a.bs outs s1) H' ∧ ∀ b, MM { Γ with P := P' } σ (putOuts a.bs outs s1) b ↔ P' b ∨ MM Γ σ s1 b := by
  have sp := putOuts_spec (G := Γ.G) (H1 := H1) (H' := H') (M := MM Γ σ s1) (M' := fun b => P' b ∨ MM Γ σ s1 b) (σ := σ) (s1 := s1) a ds vs outs s1 r o hn (fun i hi => ⟨getS_lt (fun z => by have := hm i hi; rw [z] at this; cases this), rfl⟩)
  have gm : ∀ j, (getS (putOuts a.bs outs s1) j).mut = (getS s1 j).mut := fun j => by
    by_cases z : j ∈ a.bs
    · obtain ⟨d', ad, h1, _⟩ := (sp j).2 z; rw [h1, withD_mut]
    · rw [(sp j).1 z]
  have gi : ∀ j, (getS (putOuts a.bs outs s1) j).mine = (getS s1 j).mine := fun j => by
    by_cases z : j ∈ a.bs
    · obtain ⟨d', ad, h1, _⟩ := (sp j).2 z; rw [h1, withD_mine]
    · rw [(sp j).1 z]
  have gh : ∀ j, (getS (putOuts a.bs outs s1) j).held = (getS s1 j).held := fun j => by
    by_cases z : j ∈ a.bs
    · obtain ⟨d', ad, h1, _⟩ := (sp j).2 z; rw [h1, withD_held]
    · rw [(sp j).1 z]
  have m1 : ∀ b, MM Γ σ (putOuts a.bs outs s1) b → MM Γ σ s1 b := fun b h => by
    rcases h with h | ⟨j, h1, h2⟩
    · exact .inl h
    · exact .inr ⟨j, h1, by rw [← gi]; exact h2⟩
  have mm : ∀ b, MM { Γ with P := P' } σ (putOuts a.bs outs s1) b ↔ P' b ∨ MM Γ σ s1 b := fun b => by
    constructor
    · rintro ((h | h) | ⟨j, h1, h2⟩)
      · exact .inr (.inl (.inl h))
      · exact .inl h
      · exact .inr (.inr ⟨j, h1, by rw [← gi]; exact h2⟩)
    · rintro (h | (h | h) | ⟨j, h1, h2⟩)
      · exact .inl (.inr h)
      · exact .inl (.inl h)
      · exact .inl (.inr (hP1 b h))
      · exact .inr ⟨j, h1, by rw [gi]; exact h2⟩
  have ow : ∀ ad, Owns a.mask vs ad → ∃ i, i ∈ a.bs ∧ sAt σ i = some (.ref ad) := fun ad ⟨q, h1, h2⟩ => owns_slot a ds vs r q ad h1 h2
  have owC : ∀ ad, Owns a.mask vs ad → Ch σ s1 ad := fun ad h => by
    obtain ⟨i, h1, h2⟩ := ow ad h
    exact ⟨i, h2, hm i h1⟩
  have nP : ∀ ad d, Cont Γ.G H1 (MM Γ σ s1) d ad → ¬ Γ.P ad → ¬ P' ad := fun ad d hc hn hp => by
    rcases hP2 ad hp with z | z
    · exact hn z
    · exact cont_some hc z.1
  refine ⟨⟨by rw [putOuts_length]; exact e1.len, fun j => ?_, fun i j ad h1 h2 h3 h4 => e1.dis i j ad (by rw [← gh]; exact h1) (by rw [← gh]; exact h2) h3 h4, fun b h => ?_, ⟨fun b h => p.dom b (e1.dm.1 b h), fun b o' h nt nm => p.keep b o' (e1.dm.2 b o' h nt nm) (fun w => by
      obtain ⟨i, i1, i2⟩ := ow b w
      have q := e1.slot i
      have hmi := hm i i1
      cases hx : getS s1 i with
      | own d0 => rw [hx] at q; obtain ⟨b', g1, _, g3, _⟩ := q; rw [i2] at g1; cases g1; rw [h] at g3; cases g3
      | ino d0 => rw [hx] at q; obtain ⟨b', g1, g2, _⟩ := q; rw [i2] at g1; cases g1; exact nm g2.1
      | _ => rw [hx] at hmi; simp [Slot.mut] at hmi) nt⟩, p.tab⟩,
    ⟨fun b o' h nc nt => p.keep b o' h (fun z => nc (owC b z)) nt, p.dom, fun b ⟨j, h1, h2⟩ => .inl ⟨j, h1, by rw [← gm]; exact h2⟩, fun b h => .inl (m1 b h), fun j => ⟨fun d hd => ⟨rfl, ?_⟩, fun bb d hd => ⟨rfl, ?_⟩⟩⟩, mm⟩
  · by_cases z : j ∈ a.bs
    · obtain ⟨d', ad, h1, h2, h3⟩ := (sp j).2 z
      have h3 : Cont Γ.G H' (MM { Γ with P := P' } σ (putOuts a.bs outs s1)) d' ad := h3.mono (fun _ _ h _ _ => h) (fun b hb => .inl ((mm b).mp hb)) (fun _ h _ => h)
      have q := e1.slot j
      have hmj := hm j z
      cases hx : getS s1 j with
      | own d0 =>
        rw [hx] at q h1
        rw [h1]
        obtain ⟨b, g1, g2, g3, g4⟩ := q
        rw [h2] at g1; cases g1
        exact ⟨ad, h2, fun w => w.elim (fun z => g2 (.inl z)) (nP ad d0 g4 (fun z => g2 (.inr z))), g3, h3⟩
      | ino d0 =>
        rw [hx] at q h1
        rw [h1]
        obtain ⟨b, g1, g2, g4⟩ := q
        rw [h2] at g1; cases g1
        exact ⟨ad, h2, ⟨g2.1, nP ad d0 g4 g2.2⟩, h3⟩
      | _ => rw [hx] at hmj; simp [Slot.mut] at hmj
    · rw [(sp j).1 z]
      have q0 := e1.slot j
      have q := (e1.slot j).mono (H' := H') (M' := MM { Γ with P := P' } σ (putOuts a.bs outs s1)) (fun b o' h nm nt => p.keep b o' h (fun w => nm (e1.chM (owC b w))) nt) (fun b h => ((mm b).mp h).elim (fun z => (hP2 b z).elim (fun w => .inl (.inl (.inr w))) (fun w => .inr w.1)) .inl) (fun b hb hh u hu nt => p.keep b u hu (fun w => by
        obtain ⟨i, i1, i2⟩ := ow b w
        exact z (e1.dis i j b (mut_held (hm i i1)) hh i2 hb ▸ i1)) nt)
      cases hx : getS s1 j with
      | no => trivial
      | fz d => rw [hx] at q; exact q
      | own d => rw [hx] at q q0; obtain ⟨b, h1, h2, h3, h4⟩ := q; obtain ⟨b', h1', _, _, h4'⟩ := q0; rw [h1] at h1'; cases h1'; exact ⟨b, h1, fun w => w.elim (fun z => h2 (.inl z)) (nP b d h4' (fun z => h2 (.inr z))), h3, h4⟩
      | ino d => rw [hx] at q q0; obtain ⟨b, h1, h2, h4⟩ := q; obtain ⟨b', h1', _, h4'⟩ := q0; rw [h1] at h1'; cases h1'; exact ⟨b, h1, ⟨h2.1, nP b d h4' h2.2⟩, h4⟩
      | lent bb d =>
        rw [hx] at q q0
        cases bb with
        | true => obtain ⟨b, h1, h2, h3, h4⟩ := q; obtain ⟨b', h1', _, _, h4'⟩ := q0; rw [h1] at h1'; cases h1'; exact ⟨b, h1, fun w => w.elim (fun z => h2 (.inl z)) (nP b d h4' (fun z => h2 (.inr z))), h3, h4⟩
        | false => obtain ⟨b, h1, h2, h4⟩ := q; obtain ⟨b', h1', _, h4'⟩ := q0; rw [h1] at h1'; cases h1'; exact ⟨b, h1, ⟨h2.1, nP b d h4' h2.2⟩, h4⟩
  · rcases h with h | h
    · exact p.dom b (e1.trk b (.inl h))
    · rcases hP2 b h with z | z
      · exact p.dom b (e1.trk b (.inr z))
      · exact z.2
  · by_cases z : j ∈ a.bs
    · obtain ⟨d', ad, h1, _⟩ := (sp j).2 z
      rw [h1, hd]
      exact ⟨d', .inl rfl⟩
    · rw [(sp j).1 z]; exact ⟨d, .inl hd⟩
  · by_cases z : j ∈ a.bs
    · have := hm j z; rw [hd] at this; simp [Slot.mut] at this
    · rw [(sp j).1 z]; exact hd
/-- .. nothing new set aside -/
theorem outs_env0 {a : As} {ds outs : List D} {vs : List V} (e1 : EnvOk Γ H1 σ s1) (r : RepsA Γ.G H1 (MM Γ σ s1) σ s1 a ds vs) (hm : ∀ i ∈ a.bs, (getS s1 i).mut = true) (hn : nodupB a.bs = true)
    (p : Post Γ.G H1 (MM Γ σ s1) a.mask vs outs H') (o : OutsOk Γ.G H' (MM Γ σ s1) a.mask outs vs) :
    EnvOk Γ H' σ (putOuts a.bs outs s1) ∧ Step Γ σ s1 H1 σ (putOuts a.bs outs s1) H' ∧ ∀ b, MM Γ σ (putOuts a.bs outs s1) b ↔ MM Γ σ s1 b := by
  obtain ⟨h1, h2, h3⟩ := outs_env Γ.P (fun _ h => h) (fun _ h => .inl h) e1 r hm hn p (OutsOk.mono (fun b hb => hb.elim (fun z => .inl (.inr z)) id) o)
  exact ⟨h1, h2, fun b => (h3 b).trans ⟨fun h => h.elim (fun z => .inl (.inr z)) id, .inr⟩⟩
end
/-! ### the two readings of a result -/
def SemR (Γ : Fm) (W : WX) (b : Bool) (r : Res D) (s : Sl) (σ : St) (H : Hp) (Q : VK) : Prop := match b with
  | true => SemP Γ W r s σ H Q
  | false => SemE Γ W r s σ H Q
def semR (Γ : Fm) (W : WX) (c : Cn) (b : Bool) (e : E) : TE := fun σ H Q => ∃ s, EnvOk Γ H σ s ∧ SemR Γ W b (evalE c e s) s σ H Q
section
variable {G : Gm} {X : Cx} {Γ : Fm} {W : WX} {c : Cn} {k : Ct} {σ : St} {H H1 H' : Hp} {s s1 s3 : Sl} {M : Addr → Prop}
theorem SemR.err {b : Bool} {x : Exn} {s' : Sl} {Q : VK} : SemR Γ W b (.err x s') s σ H Q = SemX Γ W x s s' σ H := by cases b <;> rfl
theorem SemR.bad {b : Bool} {Q : VK} : SemR Γ W b .bad s σ H Q = False := by cases b <;> rfl
theorem call_core {g : Nat} {a : As} {b : Bool} {Q : VK} (hf : b = true → k.fr g = true) (hm : a.mask = k.io g) (e : EnvOk Γ H σ s) (h : SemR Γ W b (evalE c (.call g a) s) s σ H Q) :
    tAs Γ W c a σ H fun vs H1 => spF Γ.G (k.io g) (k.fr g) (c.call g) vs H1 Q (WE W σ) := by
  rw [evalE] at h
  refine tAs_run a s H _ e ?_
  cases q : evalAs c a s with
  | bad => rw [q] at h; rw [show (Res.bad.bind fun ds s => if ((a.bs.all fun i => (getS s i).mut) && nodupB a.bs) = true then finC a.bs (c.call g ds) s else .bad) = .bad from rfl, SemR.bad] at h; exact h
  | err x s1 =>
    rw [q] at h
    have h : SemR Γ W b (.err x s1) s σ H Q := h
    rw [SemR.err] at h; exact h
  | ok ds s1 =>
    rw [q] at h
    have h : SemR Γ W b (if ((a.bs.all fun i => (getS s1 i).mut) && nodupB a.bs) = true then finC a.bs (c.call g ds) s1 else .bad) s σ H Q := h
    intro vs H1 e1 t1 r1
    by_cases hc : ((a.bs.all fun i => (getS s1 i).mut) && nodupB a.bs) = true
    · rw [if_pos hc] at h
      simp only [Bool.and_eq_true, List.all_eq_true] at hc
      obtain ⟨hmut, hnd⟩ := hc
      rw [← hm]
      refine ⟨MM Γ σ s1, ds, e1.mmTrk, e1.tab, argsOk_of e1 a ds vs r1 hmut, fun p q' ad hp hq hvp hvq => slot_at a ds vs r1 hnd p q' 0 ad hp hq hvp hvq (fun i j hi hj h1 h2 => e1.dis i j ad (mut_held (hmut i hi)) (mut_held (hmut j hj)) h1 h2), ?_⟩
      cases qr : c.call g ds with
      | bad => rw [qr] at h; rw [show finC a.bs .bad s1 = .bad from rfl, SemR.bad] at h; exact h
      | err x outs =>
        rw [qr] at h
        have h : SemR Γ W b (.err x (putOuts a.bs outs s1)) s σ H Q := h
        rw [SemR.err] at h
        intro cls dd H' p o rx
        obtain ⟨e3, t3, mm⟩ := outs_env0 e1 r1 hmut hnd p o
        refine h cls dd H' e3 (t1.trans t3) ⟨rx.1, rx.2.1, fun i hi => ?_⟩
        obtain ⟨q, fs, h1, h2, h3, h4⟩ := rx.2.2 i hi
        exact ⟨q, fs, h1, h2, fun z => h3 ((mm q).mp z), h4⟩
      | ok d outs =>
        rw [qr] at h
        have h : SemR Γ W b (.ok d (putOuts a.bs outs s1)) s σ H Q := h
        show Ret Γ.G H1 (MM Γ σ s1) a.mask vs outs d Q (k.fr g)
        have nH : ∀ ad, H1 ad = none → H ad = none := fun ad n => by
          cases q : H ad with
          | none => rfl
          | some o => exact absurd n (t1.dom ad (by rw [q]; simp))
        cases hfr : k.fr g with
        | false =>
          have hb : b = false := by
            cases b with
            | false => rfl
            | true => rw [hf rfl] at hfr; cases hfr
          subst hb
          intro v H' p o rv
          obtain ⟨e3, t3, mm⟩ := outs_env0 e1 r1 hmut hnd p o
          exact h v H' e3 (t1.trans t3) (Rep.mono (fun _ _ h _ _ => h) (fun b hb => .inl ((mm b).mp hb)) d v rv)
        | true =>
          intro ad ds' vs' H' p o hd hn ha rr
          subst hd
          cases b with
          | false =>
            obtain ⟨e3, t3, mm⟩ := outs_env0 e1 r1 hmut hnd p (OutsOk.mono (fun b hb => .inr hb) o)
            exact h (.ref ad) H' e3 (t1.trans t3) ⟨ad, vs', rfl, ⟨ha, fun z => e1.mmTrk ad ((mm ad).mp z) hn⟩, Reps.mono (fun _ _ h _ _ => h) (fun b hb => .inl (.inr ((mm b).mp hb))) _ _ rr⟩
          | true =>
            obtain ⟨e3, t3, mm⟩ := outs_env (fun b => b = ad ∨ Γ.P b) (fun _ h => .inr h) (fun b hb => hb.elim (fun z => .inr (by subst z; exact ⟨hn, by rw [ha]; simp⟩)) .inl) e1 r1 hmut hnd p (OutsOk.mono (fun b hb => hb.elim (fun z => z.elim .inl (fun w => .inr (.inl (.inr w)))) .inr) o)
            exact h ad ds' vs' H' rfl (nH ad hn) ha e3 (t1.trans t3) (Reps.mono (fun _ _ h _ _ => h) (fun b hb => .inl (((mm b).mp hb).elim (fun z => z.elim .inl (fun w => .inr (.inl (.inr w)))) .inr)) _ _ rr)
    · rw [if_neg hc, SemR.bad] at h; exact h.elim
end
end PI

set_option linter.all false
set_option maxRecDepth 100000
set_option maxHeartbeats 1000000
/-! P11: a lambda handed to a def; what the body lets out keeps no context. -/
namespace PI
open PySem PySem.Spec PyProof.Rows L2 LamX
section
variable {X : Cx} {pins : List (Addr × Obj)} {σ : L2.St} {H HZ : Hp} {s s1 : Shared}
/-- the lambda is made; nothing that was there is gone -/
theorem lam_make3 {T : List (Addr × Str)} {c P : Addr} {params : Arguments} {body : Expr} {scope : Scope} {pos : Pos} {E : Value → Shared → Prop} {Q : Value → Shared → Prop} (I : Inv X pins σ H s) (TB : TabB X.base X.mg c P) (hcode : X.env.code = .ref c)
    (hm : (P, X.env.qual ++ "<lambda>") ∈ T) (hu : ∀ p ∈ T, p.1 = P → p.2 = X.env.qual ++ "<lambda>") (hT : Tabs T H) (hdef : defaultsOf params X.env = ([], [])) (hfree : ∀ y ∈ scope.names, y.2 = .free → ∃ c, X.env.cells.lookup y.1 = some c)
    (h : ∀ (f c' : Addr) (pm ctv : Value) (H1 : Hp) (s' : Shared), Inv X pins σ H1 s' → ExtN H H1 → (∀ b, H b ≠ none → H1 b ≠ none) → Tabs T H1 →
      s'.heap.get? f = some (PySem.W.kla_obj "<lambda>" (X.env.qual ++ "<lambda>") params body scope (cloFrom X.env.cells scope.names []) pm c' ctv) → H1 f = none → f ∉ frs X.stack → H1 c' = some (CodeO c' (X.env.qual ++ "<lambda>")) → Q (.ref f) s') :
    wpAny (model X.prog X.w) X.A (eval (.Lambda params body scope pos) X.env) Q E s := by
  obtain ⟨ps, hP, ht, ha⟩ := hT _ hm
  refine PySem.W.kla_eval hdef ?_
  have bP : s.heap.BuiltinsAt X.mg P := TB.bm.keeps I.bk
  have hP' : s.heap.get? P = some { cls := .none, data := .fields ps } := I.hok P _ hP
  have nofr : ∀ f, s.heap.objs.size ≤ f → f ∉ frs X.stack := fun f hf z => by
    rcases List.mem_cons.mp (I.stkSub _ z) with e | e
    · have h1 := I.lt
      rw [← e] at h1
      exact Nat.lt_irrefl _ (Nat.lt_of_lt_of_le h1 hf)
    · exact I.nofs hf e
  cases hc : codeAmong pos ps.toList with
  | none =>
    refine PySem.W.kla_makeFunction (mg := X.mg) (c := c) (P := P) (ps := ps) (closure_ok hfree) I.ok.glob (I.mod.glob.keeps I.bk) hcode (TB.code.keeps I.bk) hP' ht hc TB.gP bP fun c' ctv h' tk hx hge hlt hrec htb => ?_
    obtain ⟨c2, oc, vs, t, e2, hoc, hd, hv⟩ := hrec
    cases e2
    have hsz : s.heap.objs.size ≤ h'.objs.size := Nat.le_trans hge (Nat.le_of_lt hlt)
    have nC : H c' = none := I.hok.fresh hge
    have I1 := inv_table (t' := tk) (more := #[rawInt pos.line, rawInt pos.col, .ref c']) (h' := h'.push (PySem.W.kla_obj "<lambda>" (X.env.qual ++ "<lambda>") params body scope (cloFrom X.env.cells scope.names []) ((X.mg "__name__").getD .none) c' ctv)) I hP
      (fun b o hb e => Heap.get?_push_of_some _ (hx b o hb e)) (Heap.get?_push_of_some _ htb) hge ⟨oc, vs, t, Heap.get?_push_of_some _ hoc, hd, hv⟩
    have hE : ExtN H (upd (upd H P (.tbl (ps ++ #[rawInt pos.line, rawInt pos.col, .ref c']))) c' (CodeO c' (X.env.qual ++ "<lambda>"))) := fun b o e n => by
      rw [upd_ne (ne_of_none e nC), upd_ne (fun z => n ps (Option.some.inj (e.symm.trans (by rw [z]; exact hP))))]
      exact e
    have hD : ∀ b, H b ≠ none → upd (upd H P (.tbl (ps ++ #[rawInt pos.line, rawInt pos.col, .ref c']))) c' (CodeO c' (X.env.qual ++ "<lambda>")) b ≠ none := fun b hb => by
      rw [upd_ne (fun z => hb (by rw [z]; exact nC))]
      by_cases q : b = P
      · rw [q, upd_same]; simp
      · rw [upd_ne q]; exact hb
    have eL : (ps ++ #[rawInt pos.line, rawInt pos.col, .ref c']).toList = ps.toList ++ [rawInt pos.line, rawInt pos.col, .ref c'] := by simp
    refine h h'.objs.size c' ((X.mg "__name__").getD .none) ctv _ _ I1 hE hD (fun p hp => ?_) (Heap.get?_push_size _ rfl) ?_ (nofr _ hsz) upd_same
    · by_cases hb : p.1 = P
      · rw [hu p hp hb, hb]
        refine ⟨_, by rw [upd_ne (ne_of_none hP nC), upd_same], by rw [eL]; exact PySem.TriplesOk_snoc _ _ _ _ ht, fun p' cv hcv => ?_⟩
        rw [eL] at hcv
        rcases among_app _ ht hcv with z | z
        · obtain ⟨c0, e1, e2⟩ := ha p' cv z
          exact ⟨c0, e1, hE _ _ e2 codeO_ne⟩
        · exact ⟨c', z, upd_same⟩
      · obtain ⟨ps', a1, a2, a3⟩ := hT p hp
        refine ⟨ps', by rw [upd_ne (ne_of_none a1 nC), upd_ne hb]; exact a1, a2, fun p' cv hcv => ?_⟩
        obtain ⟨c0, e1, e2⟩ := a3 p' cv hcv
        exact ⟨c0, e1, hE _ _ e2 codeO_ne⟩
    · have n1 : h'.objs.size ≠ c' := Nat.ne_of_gt hlt
      have n2 : h'.objs.size ≠ P := Nat.ne_of_gt (Nat.lt_of_lt_of_le (Heap.lt_size hP') hsz)
      rw [upd_ne n1, upd_ne n2]
      exact I.hok.fresh hsz
  | some cv =>
    obtain ⟨c', e, hco⟩ := ha pos cv hc
    subst e
    refine PySem.W.kla_makeFunctionHit (mg := X.mg) (c := c) (P := P) (ps := ps) (closure_ok hfree) I.ok.glob (I.mod.glob.keeps I.bk) hcode (TB.code.keeps I.bk) hP' ht hc bP fun ctv h' tk hx hsz => ?_
    have I1 : Inv X pins σ H { s with heap := h'.push (PySem.W.kla_obj "<lambda>" (X.env.qual ++ "<lambda>") params body scope (cloFrom X.env.cells scope.names []) ((X.mg "__name__").getD .none) c' ctv), toks := tk } := I.kept fun b o e => Heap.get?_push_of_some _ (hx b o e)
    exact h h'.objs.size c' ((X.mg "__name__").getD .none) ctv H _ I1 (ExtN.refl H) (fun _ h => h) hT (Heap.get?_push_size _ rfl) (I.hok.fresh hsz) (nofr _ hsz) hco
/-- the lambda's context, its wish as L2N has it -/
abbrev lamN (X : Cx) (A : Around) (outer : List Env) (s : Shared) (H : Hp) (E : XK) (scope : Scope) (f c' : Addr) : Cx :=
  (lamCx X A outer s H E scope f c').wish fun e s' => wpAny (model X.prog X.w) (A.deeper (lamEnv X scope s.heap.objs.size f c')) (leaving (lamEnv X scope s.heap.objs.size f c') e) (fun _ s'' => L2N.CX X.prog X.w outer H s E e s'') (fun e' s'' => L2N.CX X.prog X.w outer H s E e' s'') s'
theorem lamN_takes {A : Around} {outer : List Env} {E : XK} {scope : Scope} {f c' : Addr} : L2N.Takes (lamN X A outer s H E scope f c') (fun cls d _ H => E cls d H) :=
  L2N.takes_of (E := E) rfl rfl rfl rfl
/-- x(), in the def that got the lambda: Z is that def's context, entered at s -/
theorem pe_actN {Eg : XK} {Ng : List Str} {qg : Str} {sg : Scope} {g f c' : Addr} {cdg pm ctv : Value} {params : Arguments} {body : Expr} {scope : Scope} {k i : Nat} {a : Str} {pn : List (Addr × Obj)} {xe : Value → Shared → Prop} {W : WX} {tb : XK → TE} {p1 p2 : Pos}
    (I : Inv X pins σ H s) (L : LamS X.env.scope scope) (hf : s.heap.get? f = some (PySem.W.kla_obj "<lambda>" (X.env.qual ++ "<lambda>") params body scope (cloFrom X.env.cells scope.names []) pm c' ctv)) (hfn : H f = none) (hfr : f ∉ frs X.stack)
    (hbind : bindArgs (PySem.W.kla_fn "<lambda>" (X.env.qual ++ "<lambda>") params body scope (cloFrom X.env.cells scope.names []) pm (.ref c') ctv) ⟨[], []⟩ = pure [])
    (tk : L2N.Takes ((cxOf C8.CX0 X.prog X.w X.K X.mg X.base Ng qg sg g cdg X.A X.stack s H Eg).tr pn xe) W) (hr : Room (k + 1) (X.A.deeper (envOfC qg sg s.heap.objs.size g cdg)))
    (hbody : ∀ (A : Around) (outer : List Env) (s : Shared) (H : Hp) (E : XK), Room k (A.deeper (lamEnv X scope s.heap.objs.size f c')) → PE (lamN X A outer s H E scope f c') body (tb E))
    (hN : Ng[i]? = some a) (hv : Vis sg a) (hd : (a == ("__debug__" : Str)) = false) (hcd : (a == ("__classdict__" : Str)) = false) :
    PE ((cxOf C8.CX0 X.prog X.w X.K X.mg X.base Ng qg sg g cdg X.A X.stack s H Eg).tr pn xe) (.Call (.Name a p1) [] [] p2)
      (fun σZ HZ Q => σZ[i]? = some (some (.ref f)) ∧ HZ c' = some (CodeO c' (X.env.qual ++ "<lambda>")) ∧ tb (WE W σZ) σ HZ Q) := by
  refine ⟨fun pinsZ sZ σZ HZ Q IZ h => ?_⟩
  obtain ⟨hs, hc, ht⟩ := h
  refine wpAny_Call_Name_kw (thn ((pe_var (pos := p1) (i := i) hN hv hd hcd).run pinsZ sZ σZ HZ (fun v H1 => v = .ref f ∧ H1 = HZ) IZ ⟨.ref f, hs, rfl, rfl⟩) fun u s1 ⟨v, H1, I1, r1, q1⟩ => ?_)
  obtain ⟨ev, eH⟩ := q1
  subst ev
  rw [eH] at I1
  obtain rfl : u = Value.ref f := r1
  have of1 : s1.heap.get? f = some (PySem.W.kla_obj "<lambda>" (X.env.qual ++ "<lambda>") params body scope (cloFrom X.env.cells scope.names []) pm c' ctv) := I1.base.keep f _ hf hfn hfr (fun z => nomatch (show f ∈ ([] : List Addr) from z))
  refine PySem.W.callWith_F0 ⟨_, _, _, _, of1⟩ ?_
  have un : Un (frs X.stack) [] H HZ s.heap s1.heap := I1.base
  obtain ⟨⟨oc, vs, t, hoc, hdc, hvc⟩, _, _⟩ := I1.hok c' _ hc
  have rc : codeAny (model X.prog X.w) (X.A.deeper (envOfC qg sg s.heap.objs.size g cdg)) (.call (.ref f) ⟨[], []⟩) (CR (L2N.CX X.prog X.w) (envOfC qg sg s.heap.objs.size g cdg :: X.stack) X.prog X.w HZ s1 Q (WE W σZ)) s1 := by
    refine PySem.W.kla_callFunE hr.depth of1 rfl L.co L.gen rfl ⟨c', oc, vs, t, rfl, hoc, hdc, hvc⟩ ?_
    rw [hbind]
    refine wpAny_pure (wpAny_newFunctionEnv (fun y hy => (L.own y hy).2) (fun y hy => absurd hy (by simp)) (fun h₁ hns hsb => ⟨I1.nolimit.fresh _ hsb, ?_⟩) L.kind)
    show codeAny _ _ (.expr body (lamEnv X scope s1.heap.objs.size f c')) _ _
    have kp : ∀ b o, s1.heap.get? b = some o → h₁.get? b = some o := fun b o e => hsb.extBut b o (Nat.ne_of_lt (Heap.lt_size e)) (Heap.get?_push_of_some _ e)
    have J : Inv (lamN X (X.A.deeper (envOfC qg sg s.heap.objs.size g cdg)) (envOfC qg sg s.heap.objs.size g cdg :: X.stack) s1 HZ (WE W σZ) scope f c') [] σ HZ { s1 with heap := h₁, toks := s1.toks + ([] : List (Str × Value)).length } :=
      (lam_start2 I L I1.env0 hr.hd un hns kp).wish _
    refine PySem.W.kla_codeExpr (wpAny_mono ((hbody _ _ s1 HZ _ (hr.deeper _)).run [] _ _ HZ Q J ht) (fun v s' hq => ?_) fun e s' hq => hq)
    obtain ⟨w', H', J', rv, q⟩ := hq
    exact ⟨w', H', J'.os, J'.bare, J'.base, J'.hok, rv, q⟩
  have hx : PassesAt (L2N.CX X.prog X.w) ((cxOf C8.CX0 X.prog X.w X.K X.mg X.base Ng qg sg g cdg X.A X.stack s H Eg).tr pn xe) σZ (WE W σZ) := L2N.passAt tk σZ
  refine wpAny_call (codeAny_mono rc fun r s' hq => ?_)
  cases r with
  | error e => exact hx pinsZ HZ s1 e s' I1 hq
  | ok fl =>
    cases fl with
    | ret u => exact I1.after hq
    | next => exact False.elim hq
    | brk => exact False.elim hq
    | cont => exact False.elim hq
end
end PI

set_option linter.all false
set_option maxRecDepth 100000
set_option maxHeartbeats 1000000
/-! P11b: x(lambda: body). -/
namespace PI
open PySem PySem.Spec PyProof.Rows L2 LamX
section
variable {X : Cx} {Γ : Fm} {W : WX} {c : Cn} {k : Ct} {σ : L2.St} {H H' H1 : Hp} {s s1 : Sl}
theorem EnvOk.keepNT (e : EnvOk Γ H σ s) (kk : KeepNT H H') (d : DomLe H H') (t : Tabz Γ.G H') : EnvOk Γ H' σ s :=
  ⟨e.len, fun i => (e.slot i).mono (fun a o h _ nt => kk a o h nt) (fun a h => .inl h) (fun a _ _ u h nt => kk a u h nt), e.dis, fun a h => d a (e.trk a h), ⟨fun a h => d a (e.dm.1 a h), fun a o h nt nm => kk a o (e.dm.2 a o h nt nm) nt⟩, t⟩
theorem Step.keepNT (kk : KeepNT H H') (d : DomLe H H') : Step Γ σ s H σ s H' :=
  ⟨fun a o h _ nt => kk a o h nt, d, fun _ h => .inl h, fun _ h => .inl h, fun i => ⟨fun d e => ⟨rfl, d, .inl e⟩, fun b d e => ⟨rfl, e⟩⟩⟩
def Slot.lock : Slot → Slot
  | .own d => .lent true d
  | .ino d => .lent false d
  | x => x
theorem lock_get (s : Sl) (i : Nat) : getS (lockS s) i = (getS s i).lock := by
  unfold getS lockS
  rw [List.getD_eq_getElem?_getD, List.getD_eq_getElem?_getD, List.getElem?_map]
  cases q : s[i]? with
  | none => rfl
  | some x => cases x <;> rfl
theorem lock_mine (x : Slot) : x.lock.mine = x.mine := by cases x <;> rfl
theorem lock_held (x : Slot) : x.lock.held = x.held := by cases x <;> rfl
theorem lock_mut (x : Slot) : x.lock.mut = false := by cases x <;> rfl
theorem lock_mm (a : Addr) : MM Γ σ (lockS s) a ↔ MM Γ σ s a := by
  unfold MM
  constructor
  · rintro (h | ⟨i, h1, h2⟩)
    · exact .inl h
    · exact .inr ⟨i, h1, by rw [lock_get, lock_mine] at h2; exact h2⟩
  · rintro (h | ⟨i, h1, h2⟩)
    · exact .inl h
    · exact .inr ⟨i, h1, by rw [lock_get, lock_mine]; exact h2⟩
theorem lock_ch (a : Addr) : ¬ Ch σ (lockS s) a := fun ⟨i, h1, h2⟩ => by
  rw [lock_get, lock_mut] at h2; cases h2
theorem EnvOk.lock (e : EnvOk Γ H σ s) : EnvOk Γ H σ (lockS s) := by
  refine ⟨by unfold lockS; rw [List.length_map]; exact e.len, fun i => ?_, fun i j a h1 h2 h3 h4 => e.dis i j a (by rw [lock_get, lock_held] at h1; exact h1) (by rw [lock_get, lock_held] at h2; exact h2) h3 h4, e.trk, e.dm, e.tab⟩
  rw [lock_get]
  have q := (e.slot i).mono (H' := H) (M' := MM Γ σ (lockS s)) (fun _ _ h _ _ => h) (fun b h => .inl ((lock_mm b).mp h)) (fun _ _ _ _ h _ => h)
  cases hx : getS s i with
  | no => trivial
  | fz d => rw [hx] at q; exact q
  | own d => rw [hx] at q; exact q
  | ino d => rw [hx] at q; exact q
  | lent b d => rw [hx] at q; exact q
def noParams : Arguments → Bool
  | ⟨[], [], none, [], [], none, []⟩ => true
  | _ => false
/-- the wish of a call's exceptions, whatever the slots -/
abbrev WofE (E : XK) : WX := fun cls d _ H => E cls d H
theorem lamc_ok {g : Nat} {a : E} {y : Str} {params : Arguments} {body : Expr} {scope : Scope} {p lpos pos : Pos} (K : CtOk X Γ W c k) (hh : k.hot = false) (hi : k.inl = false) (hg : k.isl g = true) (hl : k.hasl = true) (hgl : Gl X y) (hdb : (y == ("__debug__" : Str)) = false)
    (hm : X.mg y = some (.ref (Γ.G.ad g))) (hk : PySem.W.keepIn X.K (.ref (Γ.G.ad g)) = true) (L : LamS X.env.scope scope) (hp : noParams params = true)
    (hbody : ∀ (A : Around) (outer : List Env) (s : Shared) (H : Hp) (E : XK) (f c' : Addr), Room c.lv (A.deeper (lamEnv X scope s.heap.objs.size f c')) → PE (lamN X A outer s H E scope f c') body (semE Γ (WofE E) c a)) :
    PE X (.Call (.Name y p) [.Lambda params body scope lpos] [] pos) (semE Γ W c (.lamc g a)) := by
  obtain ⟨x, av, Ng, pg, bg, sg, dV, kV, doc, pm, cdv, ct, oc, an, od, osl, lk, hcg, hb, Sg, hNg, hva, hd, hcd, LB⟩ := K.lam hh g hg
  obtain ⟨cA, P, hcode, TB, hmT, hu⟩ := K.lt hl
  have hr := K.room2 hh hi
  have hdef : defaultsOf params X.env = ([], []) := by
    unfold noParams at hp
    split at hp
    · rfl
    · cases hp
  have hbind : ∀ (q : Str) (cl : List (Str × Addr)) (pm cv ctv : Value), bindArgs (PySem.W.kla_fn "<lambda>" q params body scope cl pm cv ctv) ⟨[], []⟩ = pure [] := by
    unfold noParams at hp
    split at hp
    · intro _ _ _ _ _; rfl
    · cases hp
  refine ⟨fun pins s σ H Q I h => ?_⟩
  obtain ⟨sl, e, h⟩ := h
  rw [evalE] at h
  refine wpAny_Call_Name_kw (ld_glob I hgl hm ?_ hdb)
  refine PySem.W.callWith_K (h₀ := X.base) I.ok.mod.kin hk ?_ (by rfl) (by rfl)
  show wpAny _ _ (spliced ((false, eval (.Lambda params body scope lpos) X.env) :: backTo pos (starEach [] X.env))) _ _ s
  refine Calls.spliced_cons (lam_make3 I TB hcode hmT hu e.tab.1 hdef (L.has I.ok) fun f c' pm' ctv H1 s' I1 eN dm T0 hf hfn hfr hco => ?_)
  refine Calls.spliced_nil ⟨I1.kIn, ?_⟩
  have kN : KeepNT H H1 := fun b o h nt => eN b o h nt
  have T1 : Tabz Γ.G H1 := ⟨T0, fun p hp => kN _ _ (e.tab.2 p hp) codeO_ne⟩
  have e1 : EnvOk Γ H1 σ sl := e.keepNT kN dm T1
  have t1 : Step Γ σ sl H σ sl H1 := Step.keepNT kN dm
  have rc : codeAny (model X.prog X.w) X.A (.call (.ref (Γ.G.ad g)) ⟨[.ref f], []⟩) (CR C8.CX0 X.stack X.prog X.w H1 s' Q C8.E0) s' := by
    refine run_ofS (N := Ng) (ps := [av]) (us := [.ref f]) (vs := [.ref f]) lk hcg Sg hr I1.env0 (hb s' [.ref f] I1.kIn rfl) (.cons rfl .nil) rfl fun hr' => ?_
    refine Exists.elim (LB X.A X.stack s' H1 Q (MM Γ σ sl) f c' (X.env.qual ++ "<lambda>") (match evalE c a (lockS sl) with
        | .ok d _ => .ok d
        | .err x _ => .err x
        | .bad => .bad) (fun E HZ Q => semE Γ (WofE E) c a σ HZ Q) hr'
      (fun W pn xe p1 p2 tk => pe_actN (i := 0) (tb := fun E => semE Γ (WofE E) c a) I1 L hf hfn hfr (hbind _ _ _ _ _) tk hr' (fun A outer s H E hr2 => hbody A outer s H E f c' hr2) hNg hva hd hcd)
      (fun b hb => e1.mmTrk b hb) T1 hco ?_ ?_) fun t' ht => ⟨t', ht.1.nox, ht.2⟩
    · intro HZ Q' E kz dz tz hz
      refine ⟨lockS sl, (e1.keepNT kz dz tz).lock, ?_⟩
      have step : ∀ (s'' : Sl) (H' : Hp), EnvOk Γ H' σ s'' → Step Γ σ (lockS sl) HZ σ s'' H' → KeepNT HZ H' ∧ DomLe HZ H' ∧ Tabz Γ.G H' ∧ ∀ b, MM Γ σ sl b → MM Γ σ s'' b := fun s'' H' e2 t2 =>
        ⟨fun b o h nt => t2.keep b o h (lock_ch b) nt, t2.dom, e2.tab, fun b hb => by
          rcases hb with hb | ⟨i, h1, h2⟩
          · exact .inl hb
          · refine .inr ⟨i, h1, ?_⟩
            have q : ∃ d, (getS sl i).lock = .lent true d := by
              cases hx : getS sl i with
              | own d => exact ⟨d, rfl⟩
              | lent b d =>
                cases b with
                | true => exact ⟨d, rfl⟩
                | false => rw [hx] at h2; cases h2
              | _ => rw [hx] at h2; cases h2
            obtain ⟨d, hd⟩ := q
            obtain ⟨_, q2⟩ := (t2.fix i).2 true d (by rw [lock_get]; exact hd)
            rw [q2]; rfl⟩
      cases qe : evalE c a (lockS sl) with
      | bad => rw [qe] at hz; exact hz
      | err x s'' =>
        rw [qe] at hz
        intro cls dd H' e2 t2 rx
        obtain ⟨k1, k2, k3, k4⟩ := step s'' H' e2 t2
        refine hz cls dd H' k1 k2 k3 ⟨rx.1, rx.2.1, fun i hi => ?_⟩
        obtain ⟨q, fs, h1, h2, h3, h4⟩ := rx.2.2 i hi
        exact ⟨q, fs, h1, h2, fun z => h3 (k4 q z), h4⟩
      | ok d s'' =>
        rw [qe] at hz
        intro v H' e2 t2 rv
        obtain ⟨k1, k2, k3, k4⟩ := step s'' H' e2 t2
        exact hz v H' k1 k2 k3 (Rep.mono (fun _ _ h _ _ => h) (fun b hb => .inl (k4 b hb)) d v rv)
    · generalize c.lam g (match evalE c a (lockS sl) with
        | .ok d _ => .ok d
        | .err x _ => .err x
        | .bad => .bad) = fr at h
      cases fr with
      | bad => exact h
      | err x o => exact h
      | ok d o => exact fun v H' k1 k2 k3 rv => h v H' (e1.keepNT k1 k2 k3) (t1.trans (Step.keepNT k1 k2)) rv
  refine wpAny_call (codeAny_mono rc fun r s2 hq => ?_)
  cases r with
  | error e => exact (show False from hq).elim
  | ok fl =>
    cases fl with
    | ret u => exact I1.after hq
    | next => exact False.elim hq
    | brk => exact False.elim hq
    | cont => exact False.elim hq
end
end PI

set_option linter.all false
set_option maxRecDepth 100000
set_option maxHeartbeats 1000000
/-! P12: the look at expressions. -/
namespace PI
open PySem PySem.Spec PyProof.Rows L2

/-! ### the look -/
def ownOf (N : List Str) (is : List Nat) : List (Str × Nat) := is.map fun i => (N.getD i "", i)
def blkB (N : List Str) (sc scope : Scope) (is : List Nat) : Bool :=
  decide (scope.kind = .function) && scope.names.all (fun y => decide (scope.names.lookup y.1 = some y.2)) && is.all (fun i => decide (i < N.length)) &&
  scope.names.all (fun y => !decide (y.2 = .free) || decide (sc.names.lookup y.1 = some .cell) || decide (sc.names.lookup y.1 = some .free)) &&
  scope.names.all (fun y => !(decide (y.2 = .local) || decide (y.2 = .cell)) || decide (y.1 ∈ (ownOf N is).map (·.1)) || decide (y.1 ∉ N))
theorem blk_of {N : List Str} {sc scope : Scope} {is : List Nat} (h : blkB N sc scope is = true) : BlkOk N sc scope (ownOf N is) ∧ (ownOf N is).map (·.2) = is := by
  unfold blkB at h
  simp only [Bool.and_eq_true, Bool.or_eq_true, Bool.not_eq_true', decide_eq_true_eq, decide_eq_false_iff_not, List.all_eq_true, Bool.or_eq_false_iff] at h
  obtain ⟨⟨⟨⟨h1, h2⟩, h3⟩, h4⟩, h5⟩ := h
  refine ⟨⟨h1, h2, fun p hp => ?_, fun y hy e => ?_, fun y hy e => ?_⟩, ?_⟩
  · unfold ownOf at hp
    obtain ⟨i, hi, rfl⟩ := List.mem_map.mp hp
    have := h3 i hi
    simp [List.getD_eq_getElem?_getD, this]
  · rcases h4 y hy with (z | z) | z
    · exact absurd e z
    · exact .inl z
    · exact .inr z
  · rcases h5 y hy with (z | z) | z
    · rcases e with e | e
      · exact absurd e z.1
      · exact absurd e z.2
    · exact .inl z
    · exact .inr z
  · unfold ownOf
    rw [List.map_map]
    exact List.map_id' is
def boB (isAnd : Bool) : BoolOp → Bool
  | .And => isAnd
  | .Or => !isAnd
def fnB (k : Ct) (g : Nat) (f : Str) : Bool := decide (k.fns.lookup f = some g) && glB k.sc f
def nameB (k : Ct) (i : Nat) : Expr → Bool
  | .Name x _ => slotB k i x && visB k.sc x
  | _ => false
def chkK (k : Ct) (d : D) : Expr → Bool
  | .Constant .none _ _ => (match d with | .non => true | _ => false)
  | .Constant (.bool b) _ _ => (match d with | .bl b' => decide (b = b') | _ => false)
  | .Constant (.int i) _ _ => (match d with | .int j => decide (i = j) | _ => false)
  | .Constant (.str z) _ _ => (match d with | .str s => decide (z = ⟨s.toArray⟩) | _ => false)
  | .Name x _ => glB k.sc x && (match k.cns.lookup x with | some d' => D.same d' d | none => false)
  | _ => false
def lamK (k : Ct) (scope : Scope) : Ct := { k with sc := scope, inl := true, th := none, fk := fun _ => false, hasl := false }
def blkK (k : Ct) (scope : Scope) : Ct := { k with sc := relS scope k.sc, fk := fun x => scope.names.lookup x == some .cell, th := none }
mutual
def chkE (k : Ct) : E → Expr → Bool
  | .k d, e => chkK k d e
  | .v i, e => nameB k i e
  | .op o a, e => (match opArgs k o e with | some es => formOk o a e && chkAs k a es | none => false)
  | .bop b l, e => (match e with | .BoolOp op vs _ => boB b op && chkB k l vs | _ => false)
  | .nt a, e => (match e with | .UnaryOp .Not x _ => chkE k a x | _ => false)
  | .ite q a b, e => (match e with | .IfExp t x y _ => chkT k q t && chkE k a x && chkE k b y | _ => false)
  | .chain o p x y z, e => (match e with | .Compare l [o1, o2] [m, r] _ => decide (cmpOf o = some o1) && decide (cmpOf p = some o2) && (!lastMarks [o1, o2] [m, r]) && chkE k x l && chkE k y m && chkE k z r | _ => false)
  | .call g a, e => (match e with | .Call (.Name f _) es [] _ => !k.hot && k.isfn g && fnB k g f && decide (a.mask = k.io g) && chkAs k a es | _ => false)
  | .callv i a, e => (match e with | .Call (.Name x _) es [] _ => !k.hot && slotB k i x && visB k.sc x && a.bs.isEmpty && chkAs k a es | _ => false)
  | .lamc g a, e => (match e with | .Call (.Name f _) [.Lambda params body scope _] [] _ => !k.hot && !k.inl && k.isl g && k.hasl && fnB k g f && LamX.lamSB k.sc scope && noParams params && chkE (lamK k scope) a body | _ => false)
  | .thunk, e => (match e with | .Call (.Name x _) [] [] _ => decide (k.th = some x) | _ => false)
  | .comp tg it cs el, e => (match e with
    | .ListComp elt [⟨tge, iter, ifs, 0⟩] scope _ => (!k.hot || it.plain) && noSet iter && blkB k.N k.sc scope tg.slots && (if k.hot then chkIA k it iter else chkI k it tge iter) && chkG (blkK k scope) tg tge && chkCs (blkK k scope) cs ifs && chkE (blkK k scope) el elt
    | _ => false)
  | .fn g, e => (match e with | .Name f _ => fnB k g f | _ => false)
  | .conv t it, e => (match it, e with
    | .range a, .Call (.Name f _) [.Call (.Name g _) es [] _] [] _ => !k.hot && decide (f = if t then "tuple" else "list") && glB k.sc f && decide (g = "range") && glB k.sc g && (decide (es.length = 1) || decide (es.length = 2)) && chkAs k a es
    | _, _ => false)
def chkT (k : Ct) : E → Expr → Bool
  | .bop b l, e => (match e with | .BoolOp op vs _ => boB b op && chkTs k l vs | _ => false)
  | .nt a, e => (match e with | .UnaryOp .Not x _ => chkT k a x | _ => false)
  | .op o a, e => if o = .tru then plainT e && chkAs k a [e] else (match e with | .Compare l [op] [r] _ => (match cmpArgs o l op r with | some es => chkAs k a es | none => false) | _ => false)
  | .chain o p x y z, e => (match e with | .Compare l [o1, o2] [m, r] _ => decide (cmpOf o = some o1) && decide (cmpOf p = some o2) && (!lastMarks [o1, o2] [m, r]) && chkE k x l && chkE k y m && chkE k z r | _ => false)
  | _, _ => false
def chkB (k : Ct) : Es → List Expr → Bool
  | .cons a .nil, [x] => chkE k a x
  | .cons a (.cons b r), x :: y :: rest => chkE k a x && chkB k (.cons b r) (y :: rest)
  | _, _ => false
def chkTs (k : Ct) : Es → List Expr → Bool
  | .cons a .nil, [x] => chkT k a x
  | .cons a (.cons b r), x :: y :: rest => chkT k a x && chkTs k (.cons b r) (y :: rest)
  | _, _ => false
def chkCs (k : Ct) : Es → List Expr → Bool
  | .nil, [] => true
  | .cons a .nil, [x] => chkT k a x
  | _, _ => false
def chkAs (k : Ct) : As → List Expr → Bool
  | .nil, [] => true
  | .cons (.e a) r, x :: rest => noStar x && chkE k a x && chkAs k r rest
  | .cons (.b i) r, x :: rest => noStar x && nameB k i x && chkAs k r rest
  | _, _ => false
def chkI (k : Ct) : It → Expr → Expr → Bool
  | .e a, _, e => chkE k a e
  | .b i, _, e => nameB k i e
  | .s a, _, e => chkE k a e
  | .range a, _, e => (match e with | .Call (.Name f _) es [] _ => decide (f = "range") && glB k.sc f && (decide (es.length = 1) || decide (es.length = 2)) && chkAs k a es | _ => false)
  | .enum it, tge, e => (match tge, e with | .Tuple .., .Call (.Name f _) [x] [] _ => decide (f = "enumerate") && glB k.sc f && it.plain && noStar x && chkIA k it x | _, _ => false)
  | .zip it it2, tge, e => (match tge, e with | .Tuple .., .Call (.Name f _) [x, y] [] _ => decide (f = "zip") && glB k.sc f && it.plain && it2.plain && noStar x && noStar y && chkIA k it x && chkIA k it2 y | _, _ => false)
  | .rev it, _, e => (match e with | .Call (.Name f _) [x] [] _ => decide (f = "reversed") && glB k.sc f && it.plain && noStar x && chkIA k it x | _ => false)
def chkIA (k : Ct) : It → Expr → Bool
  | .e a, x => chkE k a x
  | .b i, x => nameB k i x
  | _, _ => false
end
end PI

set_option linter.all false
set_option maxRecDepth 100000
set_option maxHeartbeats 1000000
/-! P12b: the look at expressions is right. -/
namespace PI
open PySem PySem.Spec PyProof.Rows L2
section
variable {X : Cx} {Γ : Fm} {W : WX} {c : Cn} {k : Ct} {σ : L2.St} {H H' H1 : Hp} {s s1 : Sl}
theorem sem_ok {d : D} {v : V} {Q : VK} (e : EnvOk Γ H σ s) (r : Rep Γ.G H (MM Γ σ s) d v) (h : SemE Γ W (.ok d s) s σ H Q) : Q v H := h v H e Step.refl r
theorem pe_val {d : D} {v : V} {x : Expr} (h : PE X x (tC v)) (r : ∀ H M, Rep Γ.G H M d v) : PE X x (semE Γ W c (.k d)) := h.weak fun σ H Q hq => by
  obtain ⟨s, e, hq⟩ := hq
  rw [evalE] at hq
  exact sem_ok e (r _ _) hq
theorem k_ok {d : D} {x : Expr} (K : CtOk X Γ W c k) (h : chkK k d x = true) : PE X x (semE Γ W c (.k d)) := by
  unfold chkK at h
  split at h
  · cases d <;> first | (exact pe_val pe_non fun _ _ => rfl) | (simp at h)
  · cases d with
    | bl b' =>
      have h := of_decide_eq_true h
      subst h
      exact pe_val pe_bl fun _ _ => rfl
    | _ => simp at h
  · cases d with
    | int j =>
      have h := of_decide_eq_true h
      subst h
      exact pe_val pe_int fun _ _ => rfl
    | _ => simp at h
  · cases d with
    | str s =>
      have h := of_decide_eq_true h
      subst h
      exact pe_val pe_str fun _ _ => rfl
    | _ => simp at h
  · simp only [Bool.and_eq_true] at h
    obtain ⟨h1, h2⟩ := h
    split at h2
    · rename_i d' hc
      have := D.same_eq _ _ h2
      subst this
      obtain ⟨g1, g2⟩ := K.gl h1
      obtain ⟨u, v, m1, m2, m3⟩ := K.cns _ _ hc
      exact pe_val (pe_glob g1 m1 m2 g2) m3
    · cases h2
  · cases h
theorem name_ok {i : Nat} {x : Expr} (K : CtOk X Γ W c k) (h : nameB k i x = true) : PE X x (tVar i) := by
  unfold nameB at h
  split at h
  · simp only [Bool.and_eq_true] at h
    obtain ⟨h1, h2, h3⟩ := K.slot h.1
    exact pe_var h1 (vis_of (by rw [K.sc]; exact h.2)) h2 h3
  · cases h
theorem v_ok {i : Nat} {x : Expr} (h : PE X x (tVar i)) : PE X x (semE Γ W c (.v i)) := h.weak fun σ H Q hq => by
  obtain ⟨s, e, hq⟩ := hq
  rw [evalE, vS] at hq
  split at hq
  · rename_i d hs
    have q := e.slot i
    rw [hs] at q
    obtain ⟨v, h1, h2⟩ := q
    exact ⟨v, sAt_some h1, sem_ok e h2 hq⟩
  · rename_i d hs
    obtain ⟨a, h1, h2, h3, h4⟩ := e.freeze hs
    exact ⟨_, sAt_some h1, hq _ _ h2 h3 h4⟩
  · exact hq.elim
/-- a result that must be a bool -/
theorem ite_ok {q a b : E} {t x y : Expr} {pos : Pos} (ht : PT X t (tTest (semE Γ W c q))) (ha : PE X x (semE Γ W c a)) (hb : PE X y (semE Γ W c b)) : PE X (.IfExp t x y pos) (semE Γ W c (.ite q a b)) :=
  (pe_ifExp ht ha hb).weak fun σ H Q hq => by
    obtain ⟨s, e, hq⟩ := hq
    rw [evalE] at hq
    refine ⟨s, e, ?_⟩
    cases z : evalE c q s with
    | bad => rw [z] at hq; exact hq
    | err x s1 => rw [z] at hq; exact hq
    | ok d s1 =>
      rw [z] at hq
      intro v H1 e1 t1 r1
      simp only [Res.bind] at hq
      split at hq
      · have r1 : v = .bl true := r1
        refine ⟨true, r1, ?_⟩
        show semE Γ W c a σ H1 Q
        refine ⟨s1, e1, ?_⟩
        cases z2 : evalE c a s1 with
        | bad => rw [z2] at hq; exact hq
        | err x s2 => rw [z2] at hq; exact SemX.pre t1 hq
        | ok d2 s2 => rw [z2] at hq; exact fun v H2 e2 t2 r2 => hq v H2 e2 (t1.trans t2) r2
      · have r1 : v = .bl false := r1
        refine ⟨false, r1, ?_⟩
        show semE Γ W c b σ H1 Q
        refine ⟨s1, e1, ?_⟩
        cases z2 : evalE c b s1 with
        | bad => rw [z2] at hq; exact hq
        | err x s2 => rw [z2] at hq; exact SemX.pre t1 hq
        | ok d2 s2 => rw [z2] at hq; exact fun v H2 e2 t2 r2 => hq v H2 e2 (t1.trans t2) r2
      · exact hq.elim
theorem nt_ok {a : E} {x : Expr} {pos : Pos} (ha : PE X x (semE Γ W c a)) : PE X (.UnaryOp .Not x pos) (semE Γ W c (.nt a)) :=
  (pe_not ha).weak fun σ H Q hq => by
    obtain ⟨s, e, hq⟩ := hq
    rw [evalE] at hq
    refine ⟨s, e, ?_⟩
    cases z : evalE c a s with
    | bad => rw [z] at hq; exact hq
    | err x s1 => rw [z] at hq; exact hq
    | ok d s1 =>
      rw [z] at hq
      intro v H1 e1 t1 r1
      simp only [Res.bind] at hq
      split at hq
      · rename_i b
        have r1 : v = .bl b := r1
        exact ⟨b, r1, hq _ H1 e1 t1 rfl⟩
      · exact hq.elim
theorem ntT_ok {a : E} {x : Expr} {pos : Pos} (ha : PT X x (tTest (semE Γ W c a))) : PT X (.UnaryOp .Not x pos) (tTest (semE Γ W c (.nt a))) :=
  (pt_not ha).weak fun σ H Q hq => by
    obtain ⟨s, e, hq⟩ := hq
    rw [evalE] at hq
    refine ⟨s, e, ?_⟩
    cases z : evalE c a s with
    | bad => rw [z] at hq; exact hq
    | err x s1 => rw [z] at hq; exact hq
    | ok d s1 =>
      rw [z] at hq
      intro v H1 e1 t1 r1
      simp only [Res.bind] at hq
      split at hq
      · rename_i b
        have r1 : v = .bl b := r1
        obtain ⟨k', h1, h2⟩ := hq _ H1 e1 t1 rfl
        cases h1
        exact ⟨b, r1, h2⟩
      · exact hq.elim
def semB (Γ : Fm) (W : WX) (c : Cn) (b : Bool) (l : Es) : TE := fun σ H Q => ∃ s, EnvOk Γ H σ s ∧ SemE Γ W (evalB c b l s) s σ H Q
/-- two ways on from a bool -/
theorem bop_step {b : Bool} {a a2 : E} {r : Es} {Q : VK} (h : SemE Γ W (evalB c b (.cons a (.cons a2 r)) s) s σ H Q) (e : EnvOk Γ H σ s) :
    semE Γ W c a σ H fun x H1 => ∃ cc, x = .bl cc ∧ if cc = b then semB Γ W c b (.cons a2 r) σ H1 Q else Q (.bl cc) H1 := by
  refine ⟨s, e, ?_⟩
  have h : SemE Γ W ((evalE c a s).bind fun d s => match d with
    | .bl b' => if b' == b then evalB c b (.cons a2 r) s else .ok (.bl b') s
    | _ => .bad) s σ H Q := by
    rw [evalB] at h
    · exact h
    · simp
  cases z : evalE c a s with
  | bad => rw [z] at h; exact h
  | err x s1 => rw [z] at h; exact h
  | ok d s1 =>
    rw [z] at h
    intro v H1 e1 t1 r1
    simp only [Res.bind] at h
    split at h
    · rename_i bb
      have r1 : v = .bl bb := r1
      refine ⟨bb, r1, ?_⟩
      by_cases hb : bb = b
      · subst hb
        rw [if_pos rfl]
        simp only [beq_self_eq_true, if_true] at h
        refine ⟨s1, e1, ?_⟩
        cases z2 : evalB c bb (.cons a2 r) s1 with
        | bad => rw [z2] at h; exact h
        | err x s2 => rw [z2] at h; exact SemX.pre t1 h
        | ok d2 s2 => rw [z2] at h; exact fun v H2 e2 t2 r2 => h v H2 e2 (t1.trans t2) r2
      · rw [if_neg hb]
        have hbb : (bb == b) = false := by cases bb <;> cases b <;> simp_all
        rw [hbb] at h
        exact h _ H1 e1 t1 rfl
    · exact h.elim
theorem b1_ok {b : Bool} {a : E} {x : Expr} {op : BoolOp} {pos : Pos} (ha : PE X x (semE Γ W c a)) : PE X (.BoolOp op [x] pos) (semB Γ W c b (.cons a .nil)) := (pe_one ha).weak fun σ H Q hq => by
  obtain ⟨s, e, hq⟩ := hq
  rw [evalB] at hq
  exact ⟨s, e, hq⟩
theorem b2_ok {b : Bool} {a a2 : E} {r : Es} {x y : Expr} {rest : List Expr} {op : BoolOp} {pos : Pos} (hb : boB b op = true) (ha : PE X x (semE Γ W c a)) (hr : PE X (.BoolOp op (y :: rest) pos) (semB Γ W c b (.cons a2 r))) :
    PE X (.BoolOp op (x :: y :: rest) pos) (semB Γ W c b (.cons a (.cons a2 r))) := by
  cases op with
  | And =>
    have hb : b = true := hb
    subst hb
    exact (pe_and ha hr).weak fun σ H Q ⟨s, e, hq⟩ => semE_mono (fun v H' ⟨cc, h1, h2⟩ => ⟨cc, h1, by
      cases cc with
      | true => exact h2
      | false => exact h2⟩) (bop_step hq e)
  | Or =>
    have hb : b = false := by cases b <;> simp_all [boB]
    subst hb
    exact (pe_or ha hr).weak fun σ H Q ⟨s, e, hq⟩ => semE_mono (fun v H' ⟨cc, h1, h2⟩ => ⟨cc, h1, by
      cases cc with
      | true => exact h2
      | false => exact h2⟩) (bop_step hq e)
theorem t1_ok {b : Bool} {a : E} {x : Expr} {op : BoolOp} {pos : Pos} (ha : PT X x (tTest (semE Γ W c a))) : PW X (.BoolOp op [x] pos) (tTest (semB Γ W c b (.cons a .nil))) := by
  have ha' : PT X x (tTest (semB Γ W c b (.cons a .nil))) := ha.weak fun σ H Q hq => by
    obtain ⟨s, e, hq⟩ := hq
    rw [evalB] at hq
    exact ⟨s, e, hq⟩
  cases op with
  | And => exact pw_and1 ha'
  | Or => exact pw_or1 ha'
theorem _root_.L2.PW.weak {X : Cx} {e : Expr} {t t' : TT} (h : PW X e t) (w : ∀ σ H Q, t' σ H Q → t σ H Q) : PW X e t' := ⟨fun wh pins s σ H Q I q => h.run wh pins s σ H Q I (w σ H Q q)⟩
theorem t2_ok {b : Bool} {a a2 : E} {r : Es} {x y : Expr} {rest : List Expr} {op : BoolOp} {pos : Pos} (hb : boB b op = true) (ha : PT X x (tTest (semE Γ W c a))) (hr : PW X (.BoolOp op (y :: rest) pos) (tTest (semB Γ W c b (.cons a2 r)))) :
    PW X (.BoolOp op (x :: y :: rest) pos) (tTest (semB Γ W c b (.cons a (.cons a2 r)))) := by
  cases op with
  | And =>
    have hb : b = true := hb
    subst hb
    exact (pw_and ha hr).weak fun σ H Q ⟨s, e, hq⟩ => semE_mono (fun v H' ⟨cc, h1, h2⟩ => ⟨cc, h1, by
      cases cc with
      | true => exact h2
      | false => obtain ⟨k', e1, e2⟩ := h2; cases e1; exact e2⟩) (bop_step hq e)
  | Or =>
    have hb : b = false := by cases b <;> simp_all [boB]
    subst hb
    exact (pw_or ha hr).weak fun σ H Q ⟨s, e, hq⟩ => semE_mono (fun v H' ⟨cc, h1, h2⟩ => ⟨cc, h1, by
      cases cc with
      | true => obtain ⟨k', e1, e2⟩ := h2; cases e1; exact e2
      | false => exact h2⟩) (bop_step hq e)
/-- a op b op c -/
theorem chain_step {o p : Op} {x y z : E} {r r' : R2} {Q : VK} (hK : Γ.G.K = X.K) (hS : OpS X.K (opD o) (rr2 r)) (hS' : OpS X.K (opD p) (rr2 r')) (e : EnvOk Γ H σ s) (h : SemE Γ W (evalE c (.chain o p x y z) s) s σ H Q) :
    tChain r r' (semE Γ W c x) (semE Γ W c y) (semE Γ W c z) σ H Q := by
  rw [evalE] at h
  refine ⟨s, e, ?_⟩
  cases z1 : evalE c x s with
  | bad => rw [z1] at h; exact h
  | err x s1 => rw [z1] at h; exact h
  | ok dx s1 =>
    rw [z1] at h
    intro vx H1 e1 t1 rx
    refine ⟨s1, e1, ?_⟩
    simp only [Res.bind] at h
    cases z2 : evalE c y s1 with
    | bad => rw [z2] at h; exact h
    | err x s2 => rw [z2] at h; exact SemX.pre t1 h
    | ok dy s2 =>
      rw [z2] at h
      intro vy H2 e2 t2 ry
      simp only at h
      have rx2 := Rep.step e1 t2 rx
      have pair : RepWs Γ.G H2 (MM Γ σ s2) [dx, dy] [vx, vy] := ⟨vx, _, rfl, .inl rx2, vy, _, rfl, .inl ry, rfl⟩
      split at h
      · rename_i ho
        refine hS Γ.G H2 (MM Γ σ s2) _ [vx, vy] _ _ hK e2.mmTrk pair ho fun v H3 kk rv => ?_
        have rv : v = .bl true := rv
        refine ⟨true, rv, ?_⟩
        show semE Γ W c z σ H3 _
        have e3 := e2.grow kk
        have t3 : Step Γ σ s2 H2 σ s2 H3 := Step.grow kk
        refine ⟨s2, e3, ?_⟩
        cases z3 : evalE c z s2 with
        | bad => rw [z3] at h; exact h
        | err x s4 => rw [z3] at h; exact SemX.pre (t1.trans (t2.trans t3)) h
        | ok dz s4 =>
          rw [z3] at h
          intro vz H4 e4 t4 rz
          have h : SemE Γ W (ofO (opD p [dy, dz]) s4) s σ H Q := h
          have ry4 := Rep.step e2 (t3.trans t4) ry
          cases ho2 : opD p [dy, dz] with
          | none => rw [ho2] at h; exact h.elim
          | some d5 =>
            rw [ho2] at h
            have pair2 : RepWs Γ.G H4 (MM Γ σ s4) [dy, dz] [vy, vz] := ⟨vy, _, rfl, .inl ry4, vz, _, rfl, .inl rz, rfl⟩
            exact hS' Γ.G H4 (MM Γ σ s4) _ [vy, vz] _ _ hK e4.mmTrk pair2 ho2 fun v H5 kk5 rv5 => h v H5 (e4.grow kk5) ((t1.trans (t2.trans (t3.trans t4))).trans (Step.grow kk5)) rv5
      · rename_i ho
        refine hS Γ.G H2 (MM Γ σ s2) _ [vx, vy] _ _ hK e2.mmTrk pair ho fun v H3 kk rv => ?_
        have rv : v = .bl false := rv
        exact ⟨false, rv, h _ H3 (e2.grow kk) ((t1.trans t2).trans (Step.grow kk)) rfl⟩
      · exact h.elim
theorem tst_ok {a : As} {x : Expr} (K : CtOk X Γ W c k) (hp : plainT x = true) (A : AsOk X Γ W c a [x]) : PT X x (tTest (semE Γ W c (.op .tru a))) := by
  obtain ⟨q, rfl, h1, _⟩ := A.n1
  exact (pt_truth h1 (true_of hp)).weak fun σ H Q hq => by
    have := un_sem (o := .tru) (r := fun x H Q => ∃ k, TruV X.K x H k ∧ Q (.bl k) H) K.hK os_tru hq
    exact tAr_mono (fun v H' ⟨k', h1, k2, h2, h3⟩ => by cases h2; exact ⟨k', h1, h3⟩) this
end
end PI

set_option linter.all false
set_option maxRecDepth 100000
set_option maxHeartbeats 4000000
/-! Q2: comprehensions while an exception is handled (lc_coreH follows HandS.Comp's lc_core, over TurnH). -/
namespace PI
open PySem PySem.Spec PyProof.Rows L2
/-- a block's context; the handled exception stays in sight -/
abbrev blkH (X : Cx) (p0 : Addr × Obj) (s : Shared) (H : Hp) (scope : Scope) (cenv : Env) (fp : List Addr) : Cx := { X.blk s H scope cenv fp with pn := [p0] }
section
variable {X : Cx} {pins : List (Addr × Obj)} {σ : L2.St} {H : Hp} {s : Shared}
theorem block_startH {p0 : Addr × Obj} (hp0 : p0 ∈ X.pn) {scope : Scope} {own : List (Str × Nat)} {fp : List Addr} (I : Inv X pins σ H s) (ok : BlkOk X.N X.env.scope scope own) (hN : X.N.Nodup) (hfp : ∀ b ∈ fp, FpOk X pins H b ∧ b < s.heap.objs.size) :
    Inv (blkH X p0 s H scope (compEnvC scope (cellsFrom (s.heap.objs.size + 1) scope.names (cloFrom X.env.cells scope.names [])) s.heap.objs.size X.env) fp) [] (wipe σ (own.map (·.2))) H { s with heap := pushCells (s.heap.push { cls := .type "dict", data := .dict #[] }) scope.names } := by
  have B := block_start I ok hN hfp
  have P := I.pin p0 (List.mem_append_left _ hp0)
  obtain ⟨b1, b2, b3, b4, b5, b6, b7, b8, b9, b10, b11⟩ := B
  refine ⟨⟨b1.mod, b1.kind, b1.glob, b1.blt, b1.above, b1.inj, b1.has, b1.cab, b1.hd, b1.frames, b1.stk, b1.exf, b1.bs, b1.bsz, b1.noex, b1.exfs, b1.funs, b1.frf⟩, b2, b3, b4, b5, b6, b7, b8, fun p hp => ?_, b10, b11⟩
  have e : p = p0 := by simpa using (show p ∈ [p0] ++ ([] : List (Addr × Obj)) from hp)
  rw [e]
  have hlt := Heap.lt_size P.1
  refine ⟨pushCells_keeps _ _ _ _ (Heap.get?_push_of_some _ P.1), P.2.1, Nat.ne_of_lt hlt, fun hm => ?_, P.2.2.2.2⟩
  rcases List.mem_cons.mp (I.stkSub _ hm) with z | z
  · exact P.2.2.1 z
  · exact P.2.2.2.1 z
theorem lc_coreH {pins : List (Addr × Obj)} {s : Shared} {σ : St} {H : Hp} {Q : VK} {elt tg iter : Expr} {ifs : List Expr} {scope : Scope} {own : List (Str × Nat)} {pos pos' : Pos} {wi : TI} {g : TG} {tt : TT} {te : TE} {use : Option (Value → Sem Unit)} {Qf : Value → Shared → Prop}
    {p0 : Addr × Obj} (hh0 : L2H.Hot1 X.A p0) (hp0 : p0 ∈ X.pn) (hN : X.N.Nodup) (I : Inv X pins σ H s) (hi : L2H.PIH X tg iter wi) (ok : BlkOk X.N X.env.scope scope own)
    (hg : ∀ (s : Shared) (H : Hp) (C : Addr) (cl : List (Str × Addr)) (fp : List Addr), PG (blkH X p0 s H scope (compEnvC scope cl C X.env) fp) tg g) (ht : ∀ (s : Shared) (H : Hp) (C : Addr) (cl : List (Str × Addr)) (fp : List Addr), PTs (blkH X p0 s H scope (compEnvC scope cl C X.env) fp) ifs tt)
    (he : ∀ (s : Shared) (H : Hp) (C : Addr) (cl : List (Str × Addr)) (fp : List Addr), PE (blkH X p0 s H scope (compEnvC scope cl C X.env) fp) elt te) (hs : ∀ x, foldedSetIterable iter X.env x = pure x)
    (h : tLc wi g tt te (own.map (·.2)) σ H Q)
    (hRR : ∀ D C s' m H', Inv X pins σ H' s' → Q (.ref D) H' → s'.heap.Ns C m → FpOk X pins H' C → compPost (model X.prog X.w) X.A X.xe use Qf (.ref D) C (.ok .next) s') :
    wpAny (model X.prog X.w) X.A (comprehension (.ListComp elt [⟨tg, iter, ifs, 0⟩] scope pos) scope X.env pos' (newList []) false (eval iter X.env) use) Qf X.xe s := by
  have hfree : ∀ y ∈ scope.names, y.2 = .free → ∃ c, X.env.cells.lookup y.1 = some c := fun y hy e => by
    rcases ok.free y hy e with k | k
    · exact I.ok.has _ (.inl k)
    · exact I.ok.has _ (.inr k)
  refine wpAny_comprehension_free (use := use) rfl hs (closure_ok hfree) ok.kind (fun y hy e => by rw [ok.uniq y hy, e])
    (thn (hi.run pins s σ H _ I h) fun xv s1 hx => thn hx fun itv s2 h2 => ?_)
  obtain ⟨it, fp, tn, J, H2, e, I2, T, st2, f2, q⟩ := h2
  subst e
  refine wpAny_newObj_type (newEnv_comp ?_) (by show 0 ≤ sizeLine; decide)
  generalize hD : s2.heap.objs.size = D
  have hDn : H2 D = none := I2.hok.fresh (Nat.le_of_eq hD)
  obtain ⟨W, ⟨m0, w0⟩, turn⟩ := q D hDn
  -- the new list
  generalize hs3 : ({ s2 with heap := s2.heap.push { cls := .type "list", data := .seq ([] : List Value).toArray } } : Shared) = s3
  have I3 : Inv X pins σ (upd H2 D (.lst [])) s3 := by
    rw [← hs3]
    refine I2.laid (t' := s2.toks) (fun b o e => Heap.get?_push_of_some _ e) (Nat.le_of_eq hD) ⟨Nat.zero_le _, [], 0, .nil, ?_⟩
    rw [← hD]
    exact Heap.get?_push_size _ rfl
  have h3 : s3.heap = s2.heap.push { cls := .type "list", data := .seq ([] : List Value).toArray } := by rw [← hs3]
  have sz : ∀ b ∈ fp, b < s2.heap.objs.size := fun b hb => by
    obtain ⟨o, e, _⟩ := T.obj _ _ st2 b hb
    exact Heap.lt_size e
  have f3 : ∀ b ∈ fp, FpOk X pins (upd H2 D (.lst [])) b ∧ b < s3.heap.objs.size := fun b hb => by
    have hlt := sz b hb
    refine ⟨⟨?_, (f2 b hb).2⟩, by rw [h3, Heap.size_push]; exact Nat.lt_succ_of_lt hlt⟩
    rw [upd_ne (by rw [← hD]; exact Nat.ne_of_lt hlt)]
    exact (f2 b hb).1
  have st3 : tn 0 s3.heap := T.keep _ _ _ st2 fun b _ o e => by rw [h3]; exact Heap.get?_push_of_some _ e
  have I4 := block_startH (p0 := p0) hp0 I3 ok hN f3
  have pg := hg s3 (upd H2 D (.lst [])) s3.heap.objs.size (cellsFrom (s3.heap.objs.size + 1) scope.names (cloFrom X.env.cells scope.names [])) fp
  have pt := ht s3 (upd H2 D (.lst [])) s3.heap.objs.size (cellsFrom (s3.heap.objs.size + 1) scope.names (cloFrom X.env.cells scope.names [])) fp
  have pe := he s3 (upd H2 D (.lst [])) s3.heap.objs.size (cellsFrom (s3.heap.objs.size + 1) scope.names (cloFrom X.env.cells scope.names [])) fp
  show codeAny _ _ (.compStart (.ListComp elt [⟨tg, iter, ifs, 0⟩] scope pos) 0 (.ref it) (.ref D) (compEnvC scope (cellsFrom (s3.heap.objs.size + 1) scope.names (cloFrom X.env.cells scope.names [])) s3.heap.objs.size X.env)) (compPost (model X.prog X.w) X.A X.xe use Qf (.ref D) s3.heap.objs.size) { s3 with heap := pushCells (s3.heap.push { cls := .type "dict", data := .dict #[] }) scope.names }
  have nfp : ∀ b ∈ fp, (upd H2 D (.lst [])) b = none := fun b hb => (f3 b hb).1.1
  generalize hce : compEnvC scope (cellsFrom (s3.heap.objs.size + 1) scope.names (cloFrom X.env.cells scope.names [])) s3.heap.objs.size X.env = ce at I4 pg pt pe ⊢
  have cL : ce.locals = s3.heap.objs.size := by subst hce; rfl
  generalize hH3 : upd H2 D (.lst []) = H3 at I3 I4 pg pt pe w0 nfp f3
  generalize hs4 : ({ s3 with heap := pushCells (s3.heap.push { cls := .type "dict", data := .dict #[] }) scope.names } : Shared) = s4 at I4 ⊢
  have st4 : tn 0 s4.heap := T.keep _ _ _ st3 fun b _ o e => by rw [← hs4]; exact pushCells_keeps _ _ _ _ (Heap.get?_push_of_some _ e)
  have pinNe : ∀ p ∈ [p0] ++ ([] : List (Addr × Obj)), ∀ b ∈ fp, p.1 ≠ b := fun p hp b hb => by
    have e : p = p0 := by simpa using hp
    rw [e]
    exact (f3 b hb).1.2.2.2.2.2 p0 (List.mem_append_left _ hp0)
  have stat : ∀ {σ' : St} {H' : Hp} {s' : Shared}, Inv (blkH X p0 s3 H3 scope ce fp) [] σ' H' s' → (∀ b ∈ fp, H' b = none) → ∀ b ∈ fp, FpOk (blkH X p0 s3 H3 scope ce fp) [] H' b := fun {σ' H' s'} I' hn b hb =>
    ⟨hn b hb, (I'.ok.exf b hb).1, I'.ok.exfs b hb, .inl hb, fun x c e => (I'.ok.exf b hb).2 x c e, fun p hp => pinNe p hp b hb⟩
  have hcB : L2H.HotC (blkH X p0 s3 H3 scope ce fp) := ⟨p0, hh0, List.mem_singleton.mpr rfl⟩
  have loop : codeAny (model X.prog X.w) X.A (.compLoop (.ListComp elt [⟨tg, iter, ifs, 0⟩] scope pos) 0 (.ref it) (.ref D) ce) (compPost (model X.prog X.w) X.A X.xe use Qf (.ref D) s3.heap.objs.size) s4 := by
    refine compLoop_any (fun n s' => ∃ i H', Inv (blkH X p0 s3 H3 scope ce fp) [] (wipe σ (own.map (·.2))) H' s' ∧ tn i s'.heap ∧ (∀ b ∈ fp, H' b = none) ∧ W i n H') ?_ m0 ⟨0, H3, I4, st4, nfp, w0⟩
    rintro n s5 ⟨i, H5, I5, st5, n5, w5⟩
    rcases turn i n H5 w5 with ⟨stop, qq⟩ | ⟨go, Nx, hNx, step⟩
    · have td := T.done (blkH X p0 s3 H3 scope ce fp) rfl rfl rfl hcB i [] s5 _ H5 (fun _ _ => False) I5 (stat I5 n5) st5 stop
      refine thnF td fun r s6 ⟨hr, I6⟩ => ?_
      subst hr
      -- back in the def's context
      have I7 : Inv X pins σ H5 s6 := I3.call' (ch := fp) I6.os I6.base I6.hok I6.bare fun b hb => ⟨(f3 b hb).1.2.2.2.1, (f3 b hb).1.2.1, (f3 b hb).1.2.2.2.2.1, (f3 b hb).1.2.2.2.2.2⟩
      have nC : H5 s3.heap.objs.size = none := by
        have z : H5 ce.locals = none := I6.free
        rw [cL] at z
        exact z
      obtain ⟨m, hn, _⟩ := I6.loc
      have hn : s6.heap.Ns ce.locals m := hn
      rw [cL] at hn
      exact hRR D s3.heap.objs.size s6 m H5 I7 qq hn (I3.fpOk (Nat.le_refl _) nC)
    · have ti := T.item (blkH X p0 s3 H3 scope ce fp) rfl rfl rfl hcB i [] s5 _ H5 (fun _ _ => False) I5 (stat I5 n5) st5 go
      refine thnF ti fun r s6 ⟨u, hr, h6⟩ => ?_
      subst hr
      refine thnF h6 fun _ s7 ⟨x, H7, I7, r7, y7, st7, n7⟩ => ?_
      have I7' := I7.pinned (stat I7 n7) (T.obj _ _ st7)
      refine thnF (pg.run _ s7 _ H7 x u _ I7' r7 (step x H7 y7)) fun _ s8 ⟨σ8, H8, I8, hw8, q8⟩ => ?_
      refine thnF (pt.run _ s8 σ8 H8 _ I8 q8) fun b s9 ⟨H9, I9, q9⟩ => ?_
      -- the turn's end
      have fin : ∀ {s' : Shared} {H' : Hp}, Inv (blkH X p0 s3 H3 scope ce fp) ([] ++ pinsAt fp s7.heap) σ8 H' s' → Nx H' → ∃ m, m < n ∧ ∃ i H', Inv (blkH X p0 s3 H3 scope ce fp) [] (wipe σ (own.map (·.2))) H' s' ∧ tn i s'.heap ∧ (∀ b ∈ fp, H' b = none) ∧ W i m H' := fun {s' H'} I' nx => by
        obtain ⟨m', hm, w'⟩ := hNx H' nx
        have pin' : ∀ b ∈ fp, ∀ o, s7.heap.get? b = some o → s'.heap.get? b = some o ∧ H' b = none := fun b hb o e =>
          let z := I'.pin (b, o) (List.mem_append_right _ (List.mem_append_right _ (mem_pinsAt hb e)))
          ⟨z.1, z.2.1⟩
        have hl : (wipe σ (own.map (·.2))).length = σ8.length := by rw [← hw8, wipe_length]
        refine ⟨m', hm, i + 1, H', (I'.unpinned (pins := [])).weak hl (fun j v e => ?_), T.keep _ _ _ st7 fun b hb o e => (pin' b hb o e).1, fun b hb => ?_, w'⟩
        · rw [← hw8] at e
          exact (wipe_some e).1
        · obtain ⟨o, e, _⟩ := T.obj _ _ st7 b hb
          exact (pin' b hb o e).2
      cases b with
      | false =>
        simp only [Bool.false_eq_true, if_false] at q9 ⊢
        exact fin I9 q9
      | true =>
        simp only [if_true] at q9 ⊢
        refine thnF (pe.run _ s9 σ8 H9 _ I9 q9) fun z s10 ⟨yv, H10, I10, r10, acc, hD10, hz10, nx⟩ => ?_
        exact app_ok (X := blkH X p0 s3 H3 scope ce fp) I10 hD10 hz10 r10 fun s11 I11 => fin I11 nx
  exact codeAny_compStart_list loop (T.self X.A 0 _ _ _ st4 loop)
/-- as a value -/
theorem pe_lcH {elt tg iter : Expr} {ifs : List Expr} {scope : Scope} {own : List (Str × Nat)} {pos : Pos} {wi : TI} {g : TG} {tt : TT} {te : TE} {p0 : Addr × Obj} (hh0 : L2H.Hot1 X.A p0) (hp0 : p0 ∈ X.pn) (hN : X.N.Nodup) (hi : L2H.PIH X tg iter wi) (ok : BlkOk X.N X.env.scope scope own)
    (hg : ∀ (s : Shared) (H : Hp) (C : Addr) (cl : List (Str × Addr)) (fp : List Addr), PG (blkH X p0 s H scope (compEnvC scope cl C X.env) fp) tg g) (ht : ∀ (s : Shared) (H : Hp) (C : Addr) (cl : List (Str × Addr)) (fp : List Addr), PTs (blkH X p0 s H scope (compEnvC scope cl C X.env) fp) ifs tt)
    (he : ∀ (s : Shared) (H : Hp) (C : Addr) (cl : List (Str × Addr)) (fp : List Addr), PE (blkH X p0 s H scope (compEnvC scope cl C X.env) fp) elt te) (hs : ∀ x, foldedSetIterable iter X.env x = pure x := by intro _; rfl) :
    PE X (.ListComp elt [⟨tg, iter, ifs, 0⟩] scope pos) (tLc wi g tt te (own.map (·.2))) := by
  refine ⟨fun pins s σ H Q I h => ?_⟩
  rw [eval_ListComp]
  refine lc_coreH hh0 hp0 hN I hi ok hg ht he hs h fun D C s' m H' I' q hn f => ⟨m, hn, fun h'' sb => ?_⟩
  obtain ⟨f0, f1, f2, f3, f4, f5⟩ := f
  exact ⟨.ref D, H', I'.turned (t' := s'.toks) (fun b o hb e => (sb.2 b hb).trans e) f0 f1 f3 f4 f5, rfl, q⟩
/-- name = [..] on one line, the name a local -/
theorem ps_setLcH {i : Nat} {y : Str} {py : Pos} {elt tg iter : Expr} {ifs : List Expr} {scope : Scope} {own : List (Str × Nat)} {pos spos : Pos} {wi : TI} {g : TG} {tt : TT} {te : TE} {p0 : Addr × Obj} (hh0 : L2H.Hot1 X.A p0) (hp0 : p0 ∈ X.pn) (hN : X.N.Nodup) (hy : X.N[i]? = some y) (hyl : X.env.scope.names.lookup y = some .local)
    (hsw : swapsWith (.ListComp elt [⟨tg, iter, ifs, 0⟩] scope pos) (some (.Name y py)) spos.line X.env = pure true) (hi : L2H.PIH X tg iter wi) (ok : BlkOk X.N X.env.scope scope own)
    (hg : ∀ (s : Shared) (H : Hp) (C : Addr) (cl : List (Str × Addr)) (fp : List Addr), PG (blkH X p0 s H scope (compEnvC scope cl C X.env) fp) tg g) (ht : ∀ (s : Shared) (H : Hp) (C : Addr) (cl : List (Str × Addr)) (fp : List Addr), PTs (blkH X p0 s H scope (compEnvC scope cl C X.env) fp) ifs tt)
    (he : ∀ (s : Shared) (H : Hp) (C : Addr) (cl : List (Str × Addr)) (fp : List Addr), PE (blkH X p0 s H scope (compEnvC scope cl C X.env) fp) elt te) (hs : ∀ x, foldedSetIterable iter X.env x = pure x := by intro _; rfl) :
    PS X (.Assign [.Name y py] (.ListComp elt [⟨tg, iter, ifs, 0⟩] scope pos) spos) (tAsg (tLc wi g tt te (own.map (·.2))) (gName i)) := by
  refine ⟨fun pins s σ H D I h => ?_⟩
  rw [exec_Assign_Name_used _ _ _ _ hsw]
  refine wpAny_bind (wpAny_standAt (wpAny_bind ?_))
  show wpAny _ X.A (do let _ ← comprehension (.ListComp elt [⟨tg, iter, ifs, 0⟩] scope pos) scope X.env (firstIterPos [⟨tg, iter, ifs, 0⟩] pos) (newList []) false (eval iter X.env) (some (assign (.Name y py) X.env))) _ _ s
  have h : tLc wi g tt te (own.map (·.2)) σ H (fun x H1 => gName i x σ H1 D.nx) := h
  refine wpAny_bind (thn (lc_coreH (Qf := fun _ s' => SP X pins D .next s') hh0 hp0 hN I hi ok hg ht he hs h fun L C s' m H' I' q hn f => ?_) fun _ s' hq => wpAny_pure (wpAny_pure hq))
  show wpAny _ _ (assign (.Name y py) X.env (.ref L)) _ _ _
  refine wpAny_assign_Name (store_ok2 (v := V.ref L) I' hN hy (.inl hyl) rfl (fun s2 I2 ⟨a, sb, ha⟩ => ?_) (.inr hyl))
  obtain ⟨f0, f1, f2, f3, f4, f5⟩ := f
  have haC : C ≠ a := by
    rcases ha with z | z
    · rw [z]; exact f1
    · exact fun e => f4 y a z e.symm
  refine ⟨m, hn.sameBut sb haC, fun h3 sb3 => ?_⟩
  exact ⟨_, H', I2.turned (t' := s2.toks) (fun b o hb e => (sb3.2 b hb).trans e) f0 f1 f3 f4 f5, q⟩
end
section
variable {X : Cx} {Γ : Fm} {W : WX} {c : Cn} {σ : L2.St} {H : Hp}
theorem pi_plainH {it : It} {tg e : Expr} (hK : Γ.G.K = X.K) (hp : it.plain = true) (he : PE X e (tItA Γ W c it)) : L2H.PIH X tg e (semI Γ W c it) := by
  refine ⟨fun pins s σ H R I h => (pi_ltH (tg := tg) he).run pins s σ H R I ?_⟩
  obtain ⟨sl, e, h⟩ := h
  refine itA_run hp e ?_
  cases q : evalIt c it sl with
  | bad => rw [q] at h; exact h
  | err x s1 => rw [q] at h; exact h
  | ok ds s1 =>
    rw [q] at h
    intro v H1 e1 t1 ⟨d, hd, r⟩
    cases d with
    | lst ds' =>
      cases hd
      obtain ⟨a, xs, ev, sq⟩ := sqis_cont (chM' e1) r
      exact .inl ⟨a, xs, ev, by rw [← hK]; exact sq.at' _ (fun _ _ h _ _ => h), by rw [← hK]; exact h _ _ e1 t1 (itok_list sq)⟩
    | tup ds' =>
      cases hd
      obtain ⟨a, xs, ev, sq⟩ := sqis_tup (chM' e1) r
      exact .inr ⟨a, xs, ev, by rw [← hK]; exact sq.at' _ (fun _ _ h _ _ => h), by rw [← hK]; exact h _ _ e1 t1 (itok_tup sq)⟩
    | _ => simp [iterD] at hd
theorem pe_compH {tg : Tg} {it : It} {cs : Es} {el : E} {elt tge iter : Expr} {ifs : List Expr} {scope : Scope} {own : List (Str × Nat)} {pos : Pos} {p0 : Addr × Obj} (hh0 : L2H.Hot1 X.A p0) (hp0 : p0 ∈ X.pn) (hN : X.N.Nodup) (hi : L2H.PIH X tge iter (semI Γ W c it)) (ok : BlkOk X.N X.env.scope scope own) (ho : own.map (·.2) = tg.slots)
    (hg : ∀ (D : Addr) (s : Shared) (H : Hp) (C : Addr) (cl : List (Str × Addr)) (fp : List Addr), PG (blkH X p0 s H scope (compEnvC scope cl C X.env) fp) tge (semG (Γ.add D) tg))
    (ht : ∀ (D : Addr) (s : Shared) (H : Hp) (C : Addr) (cl : List (Str × Addr)) (fp : List Addr), PTs (blkH X p0 s H scope (compEnvC scope cl C X.env) fp) ifs (semCs (Γ.add D) WF c cs))
    (he : ∀ (D : Addr) (s : Shared) (H : Hp) (C : Addr) (cl : List (Str × Addr)) (fp : List Addr), PE (blkH X p0 s H scope (compEnvC scope cl C X.env) fp) elt (semE (Γ.add D) WF c el))
    (hs : ∀ x, foldedSetIterable iter X.env x = pure x) :
    PE X (.ListComp elt [⟨tge, iter, ifs, 0⟩] scope pos) (semP Γ W c (.comp tg it cs el)) :=
  (pe_lcH (g := fun v σ H Q => ∃ D, semG (Γ.add D) tg v σ H Q) (tt := fun σ H Q => ∃ D, semCs (Γ.add D) WF c cs σ H Q) (te := fun σ H Q => ∃ D, semE (Γ.add D) WF c el σ H Q) hh0 hp0 hN hi ok
    (fun s H C cl fp => ⟨fun pins s' σ H v u Q I r ⟨D, q⟩ => (hg D s _ C cl fp).run pins s' σ H v u Q I r q⟩)
    (fun s H C cl fp => ⟨fun pins s' σ H Q I ⟨D, q⟩ => (ht D s _ C cl fp).run pins s' σ H Q I q⟩)
    (fun s H C cl fp => ⟨fun pins s' σ H Q I ⟨D, q⟩ => (he D s _ C cl fp).run pins s' σ H Q I q⟩) hs).weak fun σ H Q h => by rw [ho]; exact comp_read h
theorem ps_compH {tg : Tg} {it : It} {cs : Es} {el : E} {elt tge iter : Expr} {ifs : List Expr} {scope : Scope} {own : List (Str × Nat)} {pos spos py : Pos} {i : Nat} {y : Str} {p0 : Addr × Obj} (hh0 : L2H.Hot1 X.A p0) (hp0 : p0 ∈ X.pn) (hN : X.N.Nodup) (hi : L2H.PIH X tge iter (semI Γ W c it)) (ok : BlkOk X.N X.env.scope scope own) (ho : own.map (·.2) = tg.slots)
    (hy : X.N[i]? = some y) (hyl : X.env.scope.names.lookup y = some .local) (hsw : swapsWith (.ListComp elt [⟨tge, iter, ifs, 0⟩] scope pos) (some (.Name y py)) spos.line X.env = pure true)
    (hg : ∀ (D : Addr) (s : Shared) (H : Hp) (C : Addr) (cl : List (Str × Addr)) (fp : List Addr), PG (blkH X p0 s H scope (compEnvC scope cl C X.env) fp) tge (semG (Γ.add D) tg))
    (ht : ∀ (D : Addr) (s : Shared) (H : Hp) (C : Addr) (cl : List (Str × Addr)) (fp : List Addr), PTs (blkH X p0 s H scope (compEnvC scope cl C X.env) fp) ifs (semCs (Γ.add D) WF c cs))
    (he : ∀ (D : Addr) (s : Shared) (H : Hp) (C : Addr) (cl : List (Str × Addr)) (fp : List Addr), PE (blkH X p0 s H scope (compEnvC scope cl C X.env) fp) elt (semE (Γ.add D) WF c el))
    (hs : ∀ x, foldedSetIterable iter X.env x = pure x) :
    PS X (.Assign [.Name y py] (.ListComp elt [⟨tge, iter, ifs, 0⟩] scope pos) spos) (tAsg (semP Γ W c (.comp tg it cs el)) (gName i)) :=
  (ps_setLcH (g := fun v σ H Q => ∃ D, semG (Γ.add D) tg v σ H Q) (tt := fun σ H Q => ∃ D, semCs (Γ.add D) WF c cs σ H Q) (te := fun σ H Q => ∃ D, semE (Γ.add D) WF c el σ H Q) hh0 hp0 hN hy hyl hsw hi ok
    (fun s H C cl fp => ⟨fun pins s' σ H v u Q I r ⟨D, q⟩ => (hg D s _ C cl fp).run pins s' σ H v u Q I r q⟩)
    (fun s H C cl fp => ⟨fun pins s' σ H Q I ⟨D, q⟩ => (ht D s _ C cl fp).run pins s' σ H Q I q⟩)
    (fun s H C cl fp => ⟨fun pins s' σ H Q I ⟨D, q⟩ => (he D s _ C cl fp).run pins s' σ H Q I q⟩) hs).weak fun D σ H h => by rw [ho]; exact comp_read h
end
end PI

set_option linter.all false
set_option maxRecDepth 100000
set_option maxHeartbeats 1000000
/-! P12c: calls; all forms together. -/
namespace PI
open PySem PySem.Spec PyProof.Rows L2
section
variable {X : Cx} {Γ : Fm} {W : WX} {c : Cn} {k : Ct} {σ : L2.St} {H H' H1 : Hp} {s s1 : Sl}
theorem cmpT_sound {o : Op} {l r : Expr} {op : CmpOp} {pos : Pos} {es : List Expr} {a : As} (K : CtOk X Γ W c k) (h : cmpArgs o l op r = some es) (A : AsOk X Γ W c a es) :
    PT X (.Compare l [op] [r] pos) (tTest (semE Γ W c (.op o a))) := by
  unfold cmpArgs at h
  split at h
  · cases h
    obtain ⟨p, rfl, h1, _⟩ := A.n1
    exact (pt_cmpR op_isN h1 pe_non (nomark _)).weak fun σ H Q h => un_sem (r := fun x H Q => V.non = V.non ∧ Q (.bl (decide (x = .non))) H) K.hK os_isn h
  · cases h
    obtain ⟨p, rfl, h1, _⟩ := A.n1
    exact (pt_cmpR op_notN h1 pe_non (nomark _)).weak fun σ H Q h => un_sem (r := fun x H Q => V.non = V.non ∧ Q (.bl (!decide (x = .non))) H) K.hK os_isnn h
  · split at h
    · rename_i b b' _ _ e
      subst e
      cases h
      obtain ⟨p, rfl, h1, _⟩ := A.n1
      exact (pt_cmpR op_isBl h1 pe_bl (nomark _)).weak fun σ H Q h => un_sem (r := fun x H Q => rIsB x (.bl b) H Q) K.hK (os_isb b) h
    · cases h
  · split at h
    · rename_i b b' _ _ e
      subst e
      cases h
      obtain ⟨p, rfl, h1, _⟩ := A.n1
      exact (pt_cmpR op_notBl h1 pe_bl (nomark _)).weak fun σ H Q h => un_sem (r := fun x H Q => rNotB x (.bl b) H Q) K.hK (os_isnb b) h
    · cases h
  · split at h
    · rename_i e1
      split at h
      · rename_i e2
        cases h
        obtain ⟨p, q, rfl, h1, h2, _, _⟩ := A.n2
        obtain ⟨r, ho, hS⟩ := cmp_rule (X := X) K.un e1
        exact (pt_cmpR ho h1 h2 (mark_of e2)).weak fun σ H Q h => bin_sem K.hK hS h
      · cases h
    · cases h
theorem chain_ok {o p : Op} {x y z : E} {o1 o2 : CmpOp} {l m r : Expr} {pos : Pos} (K : CtOk X Γ W c k) (h1 : cmpOf o = some o1) (h2 : cmpOf p = some o2) (hm : lastMarks [o1, o2] [m, r] = false) (ha : PE X l (semE Γ W c x)) (hb : PE X m (semE Γ W c y)) (hc : PE X r (semE Γ W c z)) :
    PE X (.Compare l [o1, o2] [m, r] pos) (semE Γ W c (.chain o p x y z)) := by
  obtain ⟨r1, ho1, hS1⟩ := cmp_rule (X := X) K.un h1
  obtain ⟨r2, ho2, hS2⟩ := cmp_rule (X := X) K.un h2
  exact (pe_chain ho1 ho2 ha hb hc hm).weak fun σ H Q ⟨s, e, h⟩ => chain_step K.hK hS1 hS2 e h
theorem chainT_ok {o p : Op} {x y z : E} {o1 o2 : CmpOp} {l m r : Expr} {pos : Pos} (K : CtOk X Γ W c k) (h1 : cmpOf o = some o1) (h2 : cmpOf p = some o2) (hm : lastMarks [o1, o2] [m, r] = false) (ha : PE X l (semE Γ W c x)) (hb : PE X m (semE Γ W c y)) (hc : PE X r (semE Γ W c z)) :
    PT X (.Compare l [o1, o2] [m, r] pos) (tTest (semE Γ W c (.chain o p x y z))) := by
  obtain ⟨r1, ho1, hS1⟩ := cmp_rule (X := X) K.un h1
  obtain ⟨r2, ho2, hS2⟩ := cmp_rule (X := X) K.un h2
  exact (pt_chain ho1 ho2 ha hb hc hm).weak fun σ H Q ⟨s, e, h⟩ => chain_step K.hK hS1 hS2 e h

/-! ### calls -/
theorem pe_callS0 {CX : CXT} {kk : Nat} {f : Addr} {fd : FuncData} {ps : List Str} {sp : Sp} {E : L2.St → XK} {x : Str} {p pos : Pos} (F : FnOk X.prog X.w X.K X.mg X.base CX kk f fd ps sp) (hr : Room kk X.A) (hg : Gl X x) (hm : X.mg x = some (.ref f)) (hk : PySem.W.keepIn X.K (.ref f) = true) (hb : Binds X.K fd ps []) (hx : ∀ σ, PassesAt CX X σ (E σ))
    (hdb : (x == ("__debug__" : Str)) = false) : PE X (.Call (.Name x p) [] [] pos) (tCallS sp E tNil) := by
  refine ⟨fun pins s σ H Q I h => ?_⟩
  refine wpAny_Call_Name_kw (ld_glob I hg hm ?_ hdb)
  exact PySem.W.callWith_K0 I.kIn hk (run_fnS F hr hb (hx σ) I .nil h)
theorem fn_ok {g : Nat} {f : Str} (K : CtOk X Γ W c k) (h : fnB k g f = true) : Gl X f ∧ (f == ("__debug__" : Str)) = false ∧ X.mg f = some (.ref (Γ.G.ad g)) ∧ PySem.W.keepIn X.K (.ref (Γ.G.ad g)) = true := by
  unfold fnB at h
  simp only [Bool.and_eq_true, decide_eq_true_eq] at h
  obtain ⟨g1, g2⟩ := K.gl h.2
  obtain ⟨f1, f2⟩ := K.fns _ _ h.1
  exact ⟨g1, g2, f1, f2⟩
theorem call_ok {g : Nat} {a : As} {b : Bool} {f : Str} {es : List Expr} {p pos : Pos} (K : CtOk X Γ W c k) (hh : k.hot = false) (hf : b = true → k.fr g = true) (hi : k.isfn g = true) (hn : fnB k g f = true) (hm : a.mask = k.io g) (A : AsOk X Γ W c a es) :
    PE X (.Call (.Name f p) es [] pos) (semR Γ W c b (.call g a)) := by
  obtain ⟨g1, g2, f1, f2⟩ := fn_ok K hn
  obtain ⟨fd, ps, F, hb, _⟩ := K.cal hh g hi
  have hx : ∀ σ, PassesAt (L2N.CX X.prog X.w) X σ (WE W σ) := fun σ => L2N.passAt K.tk σ
  have core : ∀ σ H Q, semR Γ W c b (.call g a) σ H Q → tCallS (spF Γ.G (k.io g) (k.fr g) (c.call g)) (WE W) (tAs Γ W c a) σ H Q := fun σ H Q ⟨s, e, h⟩ => call_core hf hm e h
  cases es with
  | nil =>
    have ha : a = .nil := by
      cases a with
      | nil => rfl
      | cons q r => obtain ⟨_, _, z, _⟩ := A; cases z
    subst ha
    exact (pe_callS0 F (K.room hh) g1 f1 f2 hb hx g2).weak fun σ H Q h => core σ H Q h
  | cons x xs =>
    have st := A.star
    simp only [List.all_cons, Bool.and_eq_true] at st
    exact (pe_callS F (K.room hh) g1 f1 f2 hb hx A.pa g2 (star_of st.1) (star_any st.2)).weak fun σ H Q h => core σ H Q h
theorem semR_false {e : E} : semR Γ W c false e = semE Γ W c e := rfl
theorem semR_true {e : E} : semR Γ W c true e = semP Γ W c e := rfl
theorem mask_of_bs : ∀ (a : As), a.bs = [] → a.mask = List.replicate a.mask.length false
  | .nil, _ => rfl
  | .cons (.e _) r, h => by
    show false :: r.mask = List.replicate (r.mask.length + 1) false
    rw [List.replicate_succ, ← mask_of_bs r h]
  | .cons (.b i) r, h => by simp [As.bs] at h
/-- what a slot holds is called -/
theorem callv_ok {i : Nat} {a : As} {x : Str} {es : List Expr} {p pos : Pos} (K : CtOk X Γ W c k) (hh : k.hot = false) (hs : slotB k i x = true) (hv : visB k.sc x = true) (hb0 : a.bs = []) (A : AsOk X Γ W c a es) :
    PE X (.Call (.Name x p) es [] pos) (semE Γ W c (.callv i a)) := by
  obtain ⟨h1, h2, h3⟩ := K.slot hs
  have hv : Vis X.env.scope x := vis_of (by rw [K.sc]; exact hv)
  refine ⟨fun pins s σ H Q I h => ?_⟩
  obtain ⟨sl, e, h⟩ := h
  rw [evalE] at h
  split at h
  · rename_i g hsl
    have q := e.slot i
    rw [hsl] at q
    obtain ⟨v, hv1, hv2⟩ := q
    have hv2 : v = .ref (Γ.G.ad g) := hv2
    subst hv2
    by_cases hn : (c.noio g a.mask.length && a.bs.isEmpty) = true
    · rw [if_pos hn] at h
      simp only [Bool.and_eq_true] at hn
      obtain ⟨hi, io⟩ := K.noio g _ hn.1
      obtain ⟨fd, ps, F, hb, hk⟩ := K.cal hh g hi
      have hx : ∀ σ, PassesAt (L2N.CX X.prog X.w) X σ (WE W σ) := fun σ => L2N.passAt K.tk σ
      have core : tAs Γ W c a σ H fun vs H1 => spF Γ.G (k.io g) (k.fr g) (c.call g) vs H1 Q (WE W σ) := by
        refine call_core (k := k) (b := false) (fun z => by cases z) (by rw [io]; exact mask_of_bs a hb0) e ?_
        show SemE Γ W (evalE c (.call g a) sl) sl σ H Q
        rw [evalE, hb0]
        exact h
      refine wpAny_Call_Name_kw (thn ((pe_var (pos := p) h1 hv h2 h3).run pins s σ H (fun v H1 => v = .ref (Γ.G.ad g) ∧ H1 = H) I ⟨_, sAt_some hv1, rfl, rfl⟩) fun u s1 ⟨v, H1, I1, r1, q1⟩ => ?_)
      obtain ⟨rfl, rfl⟩ := q1
      cases r1
      cases es with
      | nil =>
        have ha : a = .nil := by
          cases a with
          | nil => rfl
          | cons q r => obtain ⟨_, _, z, _⟩ := A; cases z
        subst ha
        exact PySem.W.callWith_K0 I1.kIn hk (run_fnS F (K.room hh) hb (hx σ) I1 .nil core)
      | cons x xs =>
        have st := A.star
        simp only [List.all_cons, Bool.and_eq_true] at st
        exact PySem.W.callWith_K (h₀ := X.base) I1.ok.mod.kin hk (thn (A.pa.run pos pins s1 σ _ _ I1 core) fun us s2 ⟨vs, H2, I2, r, q⟩ => ⟨I2.kIn, run_fnS F (K.room hh) hb (hx σ) I2 r q⟩) (star_of st.1) (star_any st.2)
    · rw [if_neg hn] at h; exact h.elim
  · exact h.elim
theorem rgV_reps {G : Gm} {H : Hp} {M : Addr → Prop} {a b : Int} : Reps G H M (rangeL a (b - a).toNat) (rgV a b) := by
  unfold rangeL rgV
  generalize (b - a).toNat = n
  generalize hl : List.range n = l
  clear hl
  induction l with
  | nil => exact rfl
  | cons x r ih => exact ⟨_, _, rfl, rfl, ih⟩
theorem rg_ok {a b : Int} (ha : inR a = true) (hb : inR b = true) (hl : (b - a).toNat ≤ lim) : RgOk a b := by
  unfold inR at ha hb
  simp only [Bool.and_eq_true, decide_eq_true_eq] at ha hb
  refine ⟨ha.1, ha.2, hb.1, hb.2, ?_⟩
  have : lim = 16777216 := rfl
  omega
/-- what a conversion makes -/
theorem conv_end {t : Bool} {a b : Int} {Q : VK} {σ : L2.St} {H H1 : Hp} {s s1 : Sl} (e1 : EnvOk Γ H1 σ s1) (t1 : Step Γ σ s H σ s1 H1) (ha : inR a = true) (hb : inR b = true)
    (h : SemE Γ W (if (rangeL a (b - a).toNat).length ≤ lim then .ok (if t then .tup (rangeL a (b - a).toNat) else .lst (rangeL a (b - a).toNat)) s1 else .bad) s σ H Q) :
    RgOk a b ∧ ∀ p, H1 p = none → Q (.ref p) (upd H1 p (if t then .tup (rgV a b) else .lst (rgV a b))) := by
  rw [rangeL_length] at h
  by_cases hl : (b - a).toNat ≤ lim
  · rw [if_pos hl] at h
    refine ⟨rg_ok ha hb hl, fun p hp => ?_⟩
    have g : ∀ o b' u, H1 b' = some u → upd H1 p o b' = some u := fun o b' u h => upd_keep hp b' u h
    cases t with
    | true => exact h (.ref p) _ (e1.grow (g _)) (t1.trans (Step.grow (g _))) (Rep.newTup e1.mmTrk hp rgV_reps)
    | false => exact h (.ref p) _ (e1.grow (g _)) (t1.trans (Step.grow (g _))) (Rep.newLst e1.mmTrk hp rgV_reps)
  · rw [if_neg hl] at h; exact h.elim
theorem conv_ok {t : Bool} {a : As} {es : List Expr} {f : Str} {p p2 pos pos2 : Pos} (K : CtOk X Γ W c k) (hh : k.hot = false) (hf : f = if t then "tuple" else "list") (hgf : glB k.sc f = true) (hg : glB k.sc "range" = true) (A : AsOk X Γ W c a es) (hl : es.length = 1 ∨ es.length = 2) :
    PE X (.Call (.Name f p) [.Call (.Name "range" p2) es [] pos2] [] pos) (semE Γ W c (.conv t (.range a))) := by
  obtain ⟨gr, _⟩ := K.gl hg
  have mr := K.free "range" (by decide)
  obtain ⟨gf, _⟩ := K.gl hgf
  have any : ∀ {x : Expr} {te : L2.St → Hp → (Int → Int → Hp → Prop) → Prop} , PRg X (.Call (.Name "range" p2) es [] pos2) te → PE X (.Call (.Name f p) [.Call (.Name "range" p2) es [] pos2] [] pos) (fun σ H Q => te σ H fun a b H1 => RgOk a b ∧ ∀ q, H1 q = none → Q (.ref q) (upd H1 q (if t then .tup (rgV a b) else .lst (rgV a b)))) := by
    intro _ te he
    cases t with
    | true =>
      have hf : f = ("tuple" : Str) := hf
      subst hf
      exact pe_tupRg (K.calm hh) gf (K.free _ (by decide)) he
    | false =>
      have hf : f = ("list" : Str) := hf
      subst hf
      exact pe_listRg (K.calm hh) gf (K.free _ (by decide)) he
  rcases hl with hl | hl
  · match es, hl with
    | [x], _ =>
      obtain ⟨q, rfl, h1, hs⟩ := A.n1
      refine (any (x := x) (prg_1 gr mr h1 (star_of hs))).weak fun σ H Q ⟨sl, e, h⟩ => ?_
      rw [evalE, evalIt] at h
      have run := tAs_run (W := W) (c := c) (.cons q .nil) sl H (fun vs H1 => ∃ v, vs = [v] ∧ ∃ n, v = .int n ∧ (RgOk 0 n ∧ ∀ q, H1 q = none → Q (.ref q) (upd H1 q (if t then .tup (rgV 0 n) else .lst (rgV 0 n))))) e (by
        cases z : evalAs c (.cons q .nil) sl with
        | bad => rw [z] at h; exact h
        | err x s1 => rw [z] at h; exact h
        | ok ds s1 =>
          rw [z] at h
          have hlen : ds.length = 1 := by rw [evalAs_len _ _ _ _ z, mask_len]; rfl
          intro vs H1 e1 t1 r1
          match ds, hlen with
          | [d], _ =>
            obtain ⟨v, rfl, r2⟩ := r1.weak.n1
            cases d with
            | int j =>
              refine ⟨v, rfl, j, r2.int, ?_⟩
              by_cases hj : inR j = true
              · simp only [Res.bind, rangeD, hj, if_true, ofO] at h
                have e0 : (j - 0).toNat = j.toNat := by rw [Int.sub_zero]
                rw [← e0] at h
                exact conv_end e1 t1 (by decide) hj h
              · simp only [Res.bind, rangeD, hj, ofO] at h; exact h.elim
            | _ => exact h.elim)
      exact tAr_mono (fun v H' ⟨v', e1, n, e2, e3⟩ => by cases e1; exact ⟨n, e2, e3⟩) run
  · match es, hl with
    | [x, y], _ =>
      obtain ⟨q, r, rfl, h1, h2, hs, hs2⟩ := A.n2
      refine (any (x := x) (prg_2 gr mr h1 h2 (star_of hs) (star_of hs2) (by rw [star_of hs2]; rfl))).weak fun σ H Q ⟨sl, e, h⟩ => ?_
      rw [evalE, evalIt] at h
      have run := tAs_run (W := W) (c := c) (.cons q (.cons r .nil)) sl H (fun vs H1 => ∃ v u, vs = [v, u] ∧ ∃ i j, v = .int i ∧ u = .int j ∧ (RgOk i j ∧ ∀ q, H1 q = none → Q (.ref q) (upd H1 q (if t then .tup (rgV i j) else .lst (rgV i j))))) e (by
        cases z : evalAs c (.cons q (.cons r .nil)) sl with
        | bad => rw [z] at h; exact h
        | err x s1 => rw [z] at h; exact h
        | ok ds s1 =>
          rw [z] at h
          have hlen : ds.length = 2 := by rw [evalAs_len _ _ _ _ z, mask_len, mask_len]; rfl
          intro vs H1 e1 t1 r1
          match ds, hlen with
          | [d, d'], _ =>
            obtain ⟨v, u, rfl, r2, r3⟩ := r1.weak.n2
            cases d with
            | int i =>
              cases d' with
              | int j =>
                refine ⟨v, u, rfl, i, j, r2.int, r3.int, ?_⟩
                by_cases hj : (inR i && inR j) = true
                · simp only [Res.bind, rangeD, hj, if_true, ofO] at h
                  simp only [Bool.and_eq_true] at hj
                  exact conv_end e1 t1 hj.1 hj.2 h
                · simp only [Res.bind, rangeD, hj, ofO] at h; exact h.elim
              | _ => exact h.elim
            | _ => exact h.elim)
      refine tAr_mono (fun v H' hv => tAr_mono (fun u H'' hu => ?_) hv) run
      obtain ⟨v', u', e1, i, j, e2, e3, e4⟩ := hu
      cases e1
      exact ⟨i, j, e2, e3, e4⟩
end
end PI

set_option linter.all false
set_option maxRecDepth 100000
set_option maxHeartbeats 2000000
/-! P12d: the look at expressions is right: all together. -/
namespace PI
open PySem PySem.Spec PyProof.Rows L2
section
variable {X : Cx} {Γ : Fm} {W : WX} {c : Cn} {k : Ct}
/-- in a comprehension's block -/
theorem CtOk.blk (K : CtOk X Γ W c k) (hh : k.hot = false) {scope : Scope} (D : Addr) (s : Shared) (H : Hp) (C : Addr) (cl : List (Str × Addr)) (fp : List Addr) : CtOk (X.blk s H scope (compEnvC scope cl C X.env) fp) (Γ.add D) WF c (blkK k scope) where
  sc := by
    show relS scope X.env.scope = relS scope k.sc
    rw [K.sc]
  N := K.N
  nd := K.nd
  fk := rfl
  hK := K.hK
  calm := K.calm
  tk := fun u s' x => by
    obtain ⟨_, _, _, _, _, _, _, _, _, _, _, _, _, _, _, _, z⟩ := x
    exact z.elim
  un := K.un
  free := K.free
  fns := K.fns
  room := K.room
  cal := K.cal
  bad := K.bad
  noio := K.noio
  room2 := K.room2
  lam := K.lam
  lt := K.lt
  exs := K.exs
  exp := K.exp
  exm := K.exm
  xc0 := K.xc0
  th := fun x h => by cases h
  cns := K.cns
  hotc := fun h => by
    have h : k.hot = true := h
    rw [hh] at h; cases h
  exc := K.exc
  kit := K.kit
  exn := K.exn
/-- .. while an exception is handled -/
theorem CtOk.blkh (K : CtOk X Γ W c k) (hh : k.hot = true) {scope : Scope} {ax : Addr} {oe : Obj} {nx : Nat} {dd : Option Addr} (hq : Γ.G.xc = some (ax, nx, dd) ∧ L2H.Hot1 X.A (ax, oe) ∧ L2N.Zn (.ref (Γ.G.ec nx)) dd oe ∧ (∃ vs, oe.data = .fields vs) ∧ nx < c.nx)
    (D : Addr) (s : Shared) (H : Hp) (C : Addr) (cl : List (Str × Addr)) (fp : List Addr) : CtOk (blkH X (ax, oe) s H scope (compEnvC scope cl C X.env) fp) (Γ.add D) WF c (blkK k scope) where
  sc := by
    show relS scope X.env.scope = relS scope k.sc
    rw [K.sc]
  N := K.N
  nd := K.nd
  fk := rfl
  hK := K.hK
  calm := fun h => by
    have h : k.hot = false := h
    rw [hh] at h; cases h
  tk := fun u s' x => by
    obtain ⟨_, _, _, _, _, _, _, _, _, _, _, _, _, _, _, _, z⟩ := x
    exact z.elim
  un := K.un
  free := K.free
  fns := K.fns
  room := fun h => by
    have h : k.hot = false := h
    rw [hh] at h; cases h
  cal := fun h => by
    have h : k.hot = false := h
    rw [hh] at h; cases h
  bad := K.bad
  noio := K.noio
  room2 := fun h => by
    have h : k.hot = false := h
    rw [hh] at h; cases h
  lam := fun h => by
    have h : k.hot = false := h
    rw [hh] at h; cases h
  lt := K.lt
  exs := K.exs
  exp := K.exp
  exm := K.exm
  xc0 := fun h => by
    have h : k.hot = false := h
    rw [hh] at h; cases h
  th := fun x h => by cases h
  cns := K.cns
  hotc := fun _ => ⟨ax, oe, nx, dd, hq.1, List.mem_singleton.mpr rfl, hq.2.1, hq.2.2.1, hq.2.2.2.1, hq.2.2.2.2⟩
  exc := K.exc
  kit := K.kit
  exn := K.exn
/-- in a lambda -/
theorem CtOk.lamb (K : CtOk X Γ W c k) {scope : Scope} (A : Around) (outer : List Env) (s : Shared) (H : Hp) (E : XK) (f c' : Addr) (hr : Room c.lv (A.deeper (LamX.lamEnv X scope s.heap.objs.size f c'))) (hh : k.hot = false) :
    CtOk (lamN X A outer s H E scope f c') Γ (WofE E) c (lamK k scope) where
  sc := rfl
  N := K.N
  nd := K.nd
  fk := rfl
  hK := K.hK
  calm := fun _ => rfl
  tk := lamN_takes
  un := by have := hr.un; show (A.deeper (LamX.lamEnv X scope s.heap.objs.size f c')).units + 200 < cLine; omega
  free := K.free
  fns := K.fns
  room := fun _ => hr
  cal := K.cal
  bad := K.bad
  noio := K.noio
  room2 := fun _ h => by cases h
  lam := K.lam
  lt := fun h => by cases h
  exs := K.exs
  exp := K.exp
  exm := K.exm
  xc0 := K.xc0
  th := fun x h => by cases h
  cns := K.cns
  hotc := fun h => by
    have h : k.hot = true := h
    rw [hh] at h; cases h
  exc := K.exc
  kit := K.kit
  exn := K.exn
theorem semCs_nil {σ : L2.St} {H : Hp} {Q : Bool → Hp → Prop} (h : semCs Γ W c .nil σ H Q) : tYes σ H Q := by
  obtain ⟨s, e, h⟩ := h
  rw [evalCs] at h
  exact h H e Step.refl
theorem semCs_one {a : E} {σ : L2.St} {H : Hp} {Q : Bool → Hp → Prop} (h : semCs Γ W c (.cons a .nil) σ H Q) : tTest (semE Γ W c a) σ H Q := by
  obtain ⟨s, e, h⟩ := h
  rw [evalCs] at h
  refine ⟨s, e, ?_⟩
  cases z : evalE c a s with
  | bad => rw [z] at h; exact h
  | err x s1 => rw [z] at h; exact h
  | ok d s1 =>
    rw [z] at h
    intro v H1 e1 t1 r1
    simp only [Res.bind] at h
    split at h
    · have r1 : v = .bl true := r1
      rw [evalCs] at h
      exact ⟨true, r1, h H1 e1 t1⟩
    · have r1 : v = .bl false := r1
      exact ⟨false, r1, h H1 e1 t1⟩
    · exact h.elim
end
mutual
theorem chkE_ok : ∀ (e : E) {X : Cx} {Γ : Fm} {W : WX} {c : Cn} {k : Ct} (K : CtOk X Γ W c k) (x : Expr), chkE k e x = true → PE X x (semE Γ W c e)
  | .k d, _, _, _, _, _, K, x, h => by rw [chkE] at h; exact k_ok K h
  | .v i, _, _, _, _, _, K, x, h => by rw [chkE] at h; exact v_ok (name_ok K h)
  | .op o a, _, _, _, _, _, K, x, h => by
    unfold chkE at h
    split at h
    · rename_i es ho
      simp only [Bool.and_eq_true] at h
      exact op_sound K ho h.1 (chkAs_ok a K es h.2)
    · cases h
  | .bop b l, _, _, _, _, _, K, x, h => by
    unfold chkE at h
    split at h
    · simp only [Bool.and_eq_true] at h
      exact (chkB_ok l K _ h.1 () h.2).weak fun σ H Q ⟨s, e, hq⟩ => ⟨s, e, by rw [evalE] at hq; exact hq⟩
    · cases h
  | .nt a, _, _, _, _, _, K, x, h => by
    unfold chkE at h
    split at h
    · exact nt_ok (chkE_ok a K _ h)
    · cases h
  | .ite q a b, _, _, _, _, _, K, x, h => by
    unfold chkE at h
    split at h
    · simp only [Bool.and_eq_true] at h
      exact ite_ok (chkT_ok q K _ h.1.1) (chkE_ok a K _ h.1.2) (chkE_ok b K _ h.2)
    · cases h
  | .chain o p x y z, _, _, _, _, _, K, e, h => by
    unfold chkE at h
    split at h
    · simp only [Bool.and_eq_true, decide_eq_true_eq, Bool.not_eq_true'] at h
      obtain ⟨⟨⟨⟨⟨h1, h2⟩, h3⟩, h4⟩, h5⟩, h6⟩ := h
      exact chain_ok K h1 h2 h3 (chkE_ok x K _ h4) (chkE_ok y K _ h5) (chkE_ok z K _ h6)
    · cases h
  | .call g a, _, _, _, _, _, K, e, h => by
    unfold chkE at h
    split at h
    · simp only [Bool.and_eq_true, decide_eq_true_eq, Bool.not_eq_true'] at h
      obtain ⟨⟨⟨⟨h1, h2⟩, h3⟩, h4⟩, h5⟩ := h
      exact call_ok (b := false) K h1 (fun z => by cases z) h2 h3 h4 (chkAs_ok a K _ h5)
    · cases h
  | .callv i a, _, _, _, _, _, K, e, h => by
    unfold chkE at h
    split at h
    · simp only [Bool.and_eq_true, Bool.not_eq_true'] at h
      obtain ⟨⟨⟨⟨h1, h2⟩, h3⟩, h4⟩, h5⟩ := h
      exact callv_ok K h1 h2 h3 (by simpa using h4) (chkAs_ok a K _ h5)
    · cases h
  | .lamc g a, _, _, _, _, _, K, e, h => by
    unfold chkE at h
    split at h
    · simp only [Bool.and_eq_true, Bool.not_eq_true'] at h
      obtain ⟨⟨⟨⟨⟨⟨⟨h1, h2⟩, h3⟩, h4⟩, h5⟩, h6⟩, h7⟩, h8⟩ := h
      obtain ⟨g1, g2, f1, f2⟩ := fn_ok K h5
      exact lamc_ok K h1 h2 h3 h4 g1 g2 f1 f2 (by rw [K.sc]; exact LamX.lamS_by h6) h7 fun A outer s H E f c' hr => chkE_ok a (K.lamb A outer s H E f c' hr h1) _ h8
    · cases h
  | .thunk, _, _, _, _, _, K, e, h => by
    unfold chkE at h
    split at h
    · exact K.th _ (of_decide_eq_true h) _ _ _ K.tk _ _
    · cases h
  | .comp tg it cs el, X, Γ, W, c, k, K, e, h => by
    unfold chkE at h
    split at h
    · simp only [Bool.and_eq_true] at h
      obtain ⟨⟨⟨⟨⟨⟨h1, h2⟩, h3⟩, h4⟩, h5⟩, h6⟩, h7⟩ := h
      obtain ⟨b1, b2⟩ := blk_of h3
      cases hh : k.hot with
      | false =>
        rw [hh] at h4
        simp only [Bool.false_eq_true, if_false] at h4
        exact (pe_comp (K.calm hh) K.nd (chkI_ok it K _ _ h4) (by rw [K.N, K.sc]; exact b1) b2 (fun D s H C cl fp => chkG_ok (K.blk hh D s H C cl fp) tg _ h5) (fun D s H C cl fp => chkCs_ok cs (K.blk hh D s H C cl fp) _ h6) (fun D s H C cl fp => chkE_ok el (K.blk hh D s H C cl fp) _ h7) (fold_of h2)).weak fun σ H Q hq => semP_of hq
      | true =>
        rw [hh] at h4 h1
        simp only [if_true] at h4
        have h1 : it.plain = true := by simpa using h1
        obtain ⟨ax, oe, nx, dd, q1, q2, q3, q4, q5, q6⟩ := K.hotc hh
        have q : Γ.G.xc = some (ax, nx, dd) ∧ L2H.Hot1 X.A (ax, oe) ∧ L2N.Zn (.ref (Γ.G.ec nx)) dd oe ∧ (∃ vs, oe.data = .fields vs) ∧ nx < c.nx := ⟨q1, q3, q4, q5, q6⟩
        exact (pe_compH q3 q2 K.nd (pi_plainH K.hK h1 (chkIA_ok it K _ h4)) (by rw [K.N, K.sc]; exact b1) b2 (fun D s H C cl fp => chkG_ok (K.blkh hh q D s H C cl fp) tg _ h5) (fun D s H C cl fp => chkCs_ok cs (K.blkh hh q D s H C cl fp) _ h6) (fun D s H C cl fp => chkE_ok el (K.blkh hh q D s H C cl fp) _ h7) (fold_of h2)).weak fun σ H Q hq => semP_of hq
    · cases h
  | .fn g, _, _, _, _, _, K, e, h => by
    unfold chkE at h
    split at h
    · obtain ⟨g1, g2, f1, f2⟩ := fn_ok K h
      exact (pe_glob g1 f1 (show RelV (.ref _) (.ref _) from rfl) g2).weak fun σ H Q ⟨s, e, hq⟩ => by
        rw [evalE] at hq
        exact hq _ _ e Step.refl rfl
    · cases h
  | .conv t it, _, _, _, _, _, K, e, h => by
    unfold chkE at h
    split at h
    · simp only [Bool.and_eq_true, Bool.or_eq_true, decide_eq_true_eq, Bool.not_eq_true'] at h
      obtain ⟨⟨⟨⟨⟨⟨h1, h2⟩, h3⟩, h4⟩, h5⟩, h6⟩, h7⟩ := h
      subst h4
      exact conv_ok K h1 h2 h3 h5 (chkAs_ok _ K _ h7) h6
    · cases h
theorem chkT_ok : ∀ (e : E) {X : Cx} {Γ : Fm} {W : WX} {c : Cn} {k : Ct} (K : CtOk X Γ W c k) (x : Expr), chkT k e x = true → PT X x (tTest (semE Γ W c e))
  | .bop b l, _, _, _, _, _, K, x, h => by
    unfold chkT at h
    split at h
    · simp only [Bool.and_eq_true] at h
      exact (chkTs_ok l K _ h.1 () h.2).pt.weak fun σ H Q ⟨s, e, hq⟩ => ⟨s, e, by rw [evalE] at hq; exact hq⟩
    · cases h
  | .nt a, _, _, _, _, _, K, x, h => by
    unfold chkT at h
    split at h
    · exact ntT_ok (chkT_ok a K _ h)
    · cases h
  | .op o a, _, _, _, _, _, K, x, h => by
    unfold chkT at h
    split at h
    · rename_i ho
      subst ho
      simp only [Bool.and_eq_true] at h
      exact tst_ok K h.1 (chkAs_ok a K _ h.2)
    · split at h
      · split at h
        · rename_i es hc
          exact cmpT_sound K hc (chkAs_ok a K es h)
        · cases h
      · cases h
  | .chain o p x y z, _, _, _, _, _, K, e, h => by
    unfold chkT at h
    split at h
    · simp only [Bool.and_eq_true, decide_eq_true_eq, Bool.not_eq_true'] at h
      obtain ⟨⟨⟨⟨⟨h1, h2⟩, h3⟩, h4⟩, h5⟩, h6⟩ := h
      exact chainT_ok K h1 h2 h3 (chkE_ok x K _ h4) (chkE_ok y K _ h5) (chkE_ok z K _ h6)
    · cases h
  | .k _, _, _, _, _, _, _, _, h => by simp [chkT] at h
  | .v _, _, _, _, _, _, _, _, h => by simp [chkT] at h
  | .ite _ _ _, _, _, _, _, _, _, _, h => by simp [chkT] at h
  | .call _ _, _, _, _, _, _, _, _, h => by simp [chkT] at h
  | .callv _ _, _, _, _, _, _, _, _, h => by simp [chkT] at h
  | .lamc _ _, _, _, _, _, _, _, _, h => by simp [chkT] at h
  | .thunk, _, _, _, _, _, _, _, h => by simp [chkT] at h
  | .comp _ _ _ _, _, _, _, _, _, _, _, h => by simp [chkT] at h
  | .fn _, _, _, _, _, _, _, _, h => by simp [chkT] at h
  | .conv _ _, _, _, _, _, _, _, _, h => by simp [chkT] at h
theorem chkB_ok : ∀ (l : Es) {X : Cx} {Γ : Fm} {W : WX} {c : Cn} {k : Ct} (K : CtOk X Γ W c k) {b : Bool} {op : BoolOp} {pos : Pos} (xs : List Expr) (hb : boB b op = true) (_ : Unit), chkB k l xs = true → PE X (.BoolOp op xs pos) (semB Γ W c b l)
  | .nil, _, _, _, _, _, K, b, op, pos, xs, hb, _, h => by simp [chkB] at h
  | .cons a .nil, _, _, _, _, _, K, b, op, pos, xs, hb, _, h => by
    match xs, h with
    | [x], h => rw [chkB] at h; exact b1_ok (chkE_ok a K _ h)
    | [], h => simp [chkB] at h
    | _ :: _ :: _, h => simp [chkB] at h
  | .cons a (.cons a2 r), _, _, _, _, _, K, b, op, pos, xs, hb, _, h => by
    match xs, h with
    | x :: y :: rest, h =>
      rw [chkB, Bool.and_eq_true] at h
      exact b2_ok hb (chkE_ok a K _ h.1) (chkB_ok (.cons a2 r) K _ hb () h.2)
    | [], h => simp [chkB] at h
    | [_], h => simp [chkB] at h
theorem chkTs_ok : ∀ (l : Es) {X : Cx} {Γ : Fm} {W : WX} {c : Cn} {k : Ct} (K : CtOk X Γ W c k) {b : Bool} {op : BoolOp} {pos : Pos} (xs : List Expr) (hb : boB b op = true) (_ : Unit), chkTs k l xs = true → PW X (.BoolOp op xs pos) (tTest (semB Γ W c b l))
  | .nil, _, _, _, _, _, K, b, op, pos, xs, hb, _, h => by simp [chkTs] at h
  | .cons a .nil, _, _, _, _, _, K, b, op, pos, xs, hb, _, h => by
    match xs, h with
    | [x], h => rw [chkTs] at h; exact t1_ok (chkT_ok a K _ h)
    | [], h => simp [chkTs] at h
    | _ :: _ :: _, h => simp [chkTs] at h
  | .cons a (.cons a2 r), _, _, _, _, _, K, b, op, pos, xs, hb, _, h => by
    match xs, h with
    | x :: y :: rest, h =>
      rw [chkTs, Bool.and_eq_true] at h
      exact t2_ok hb (chkT_ok a K _ h.1) (chkTs_ok (.cons a2 r) K _ hb () h.2)
    | [], h => simp [chkTs] at h
    | [_], h => simp [chkTs] at h
theorem chkCs_ok : ∀ (l : Es) {X : Cx} {Γ : Fm} {W : WX} {c : Cn} {k : Ct} (K : CtOk X Γ W c k) (xs : List Expr), chkCs k l xs = true → PTs X xs (semCs Γ W c l)
  | .nil, _, _, _, _, _, K, xs, h => by
    match xs, h with
    | [], h => exact ⟨fun pins s σ H Q I hq => pts_nil.run pins s σ H Q I (semCs_nil hq)⟩
    | _ :: _, h => simp [chkCs] at h
  | .cons a .nil, _, _, _, _, _, K, xs, h => by
    match xs, h with
    | [x], h =>
      rw [chkCs] at h
      exact ⟨fun pins s σ H Q I hq => (pts_one (chkT_ok a K _ h)).run pins s σ H Q I (semCs_one hq)⟩
    | [], h => simp [chkCs] at h
    | _ :: _ :: _, h => simp [chkCs] at h
  | .cons a (.cons a2 r), _, _, _, _, _, K, xs, h => by simp [chkCs] at h
theorem chkAs_ok : ∀ (a : As) {X : Cx} {Γ : Fm} {W : WX} {c : Cn} {k : Ct} (K : CtOk X Γ W c k) (es : List Expr), chkAs k a es = true → AsOk X Γ W c a es
  | .nil, _, _, _, _, _, K, es, h => by
    match es, h with
    | [], h => rfl
    | _ :: _, h => simp [chkAs] at h
  | .cons (.e a) r, _, _, _, _, _, K, es, h => by
    match es, h with
    | x :: rest, h =>
      simp only [chkAs, Bool.and_eq_true] at h
      exact ⟨x, rest, rfl, chkE_ok a K _ h.1.2, h.1.1, chkAs_ok r K _ h.2⟩
    | [], h => simp [chkAs] at h
  | .cons (.b i) r, _, _, _, _, _, K, es, h => by
    match es, h with
    | x :: rest, h =>
      simp only [chkAs, Bool.and_eq_true] at h
      exact ⟨x, rest, rfl, name_ok K h.1.2, h.1.1, chkAs_ok r K _ h.2⟩
    | [], h => simp [chkAs] at h
theorem chkI_ok : ∀ (it : It) {X : Cx} {Γ : Fm} {W : WX} {c : Cn} {k : Ct} (K : CtOk X Γ W c k) (tg e : Expr), chkI k it tg e = true → PI X tg e (semI Γ W c it)
  | .e a, _, _, _, _, _, K, tg, e, h => by
    unfold chkI at h
    exact pi_plain K.hK rfl (chkE_ok a K _ h)
  | .b i, _, _, _, _, _, K, tg, e, h => by
    unfold chkI at h
    exact pi_plain K.hK rfl (name_ok K h)
  | .s a, _, _, _, _, _, K, tg, e, h => by
    unfold chkI at h
    exact pi_s (chkE_ok a K _ h)
  | .range a, _, _, _, _, _, K, tg, e, h => by
    unfold chkI at h
    split at h
    · simp only [Bool.and_eq_true, Bool.or_eq_true, decide_eq_true_eq] at h
      obtain ⟨⟨⟨h1, h2⟩, h3⟩, h4⟩ := h
      subst h1
      exact pi_range' K (K.gl h2).1 (chkAs_ok a K _ h4) h3
    · cases h
  | .enum it, _, _, _, _, _, K, tg, e, h => by
    unfold chkI at h
    split at h
    · simp only [Bool.and_eq_true, decide_eq_true_eq] at h
      obtain ⟨⟨⟨⟨h1, h2⟩, h3⟩, h4⟩, h5⟩ := h
      subst h1
      exact pi_enum' K.hK h3 (K.gl h2).1 (K.free _ (by decide)) (chkIA_ok it K _ h5) h4
    · cases h
  | .zip it it2, _, _, _, _, _, K, tg, e, h => by
    unfold chkI at h
    split at h
    · simp only [Bool.and_eq_true, decide_eq_true_eq] at h
      obtain ⟨⟨⟨⟨⟨⟨⟨h1, h2⟩, h3⟩, h4⟩, h5⟩, h6⟩, h7⟩, h8⟩ := h
      subst h1
      exact pi_zip' K.hK h3 h4 (K.gl h2).1 (K.free _ (by decide)) (chkIA_ok it K _ h7) (chkIA_ok it2 K _ h8) h5 h6
    · cases h
  | .rev it, _, _, _, _, _, K, tg, e, h => by
    unfold chkI at h
    split at h
    · simp only [Bool.and_eq_true, decide_eq_true_eq] at h
      obtain ⟨⟨⟨⟨h1, h2⟩, h3⟩, h4⟩, h5⟩ := h
      subst h1
      exact pi_rev' K.hK h3 (K.gl h2).1 (K.free _ (by decide)) (chkIA_ok it K _ h5) h4
    · cases h
theorem chkIA_ok : ∀ (it : It) {X : Cx} {Γ : Fm} {W : WX} {c : Cn} {k : Ct} (K : CtOk X Γ W c k) (e : Expr), chkIA k it e = true → PE X e (tItA Γ W c it)
  | .e a, _, _, _, _, _, K, e, h => by rw [chkIA] at h; exact chkE_ok a K _ h
  | .b i, _, _, _, _, _, K, e, h => by rw [chkIA] at h; exact name_ok K h
  | .s a, _, _, _, _, _, K, e, h => by simp [chkIA] at h
  | .range a, _, _, _, _, _, K, e, h => by simp [chkIA] at h
  | .enum it, _, _, _, _, _, K, e, h => by simp [chkIA] at h
  | .zip it it2, _, _, _, _, _, K, e, h => by simp [chkIA] at h
  | .rev it, _, _, _, _, _, K, e, h => by simp [chkIA] at h
end
end PI

set_option linter.all false
set_option maxRecDepth 100000
set_option maxHeartbeats 1000000
/-! P13: statements. -/
namespace PI
open PySem PySem.Spec PyProof.Rows L2

/-! ### readings -/
section
variable (Γ : Fm) (W : WX) (c : Cn) (fr : Bool)
def SemS (r : SR) (s : Sl) (σ : L2.St) (H : Hp) (D : Ends) : Prop := match r with
  | .nx s' => ∀ σ' H', EnvOk Γ H' σ' s' → Step Γ σ s H σ' s' H' → D.nx σ' H'
  | .ct s' => ∀ σ' H', EnvOk Γ H' σ' s' → Step Γ σ s H σ' s' H' → D.ct σ' H'
  | .rt d s' => match fr with
    | false => ∀ v σ' H', EnvOk Γ H' σ' s' → Step Γ σ s H σ' s' H' → Rep Γ.G H' (MM Γ σ' s') d v → D.rt v H'
    | true => ∀ a ds vs σ' H', d = .lst ds → H a = none → H' a = some (.lst vs) → EnvOk (Γ.add a) H' σ' s' → Step Γ σ s H σ' s' H' → Reps Γ.G H' (MM (Γ.add a) σ' s') ds vs → D.rt (.ref a) H'
  | .er x s' => ∀ cls dd σ' H', EnvOk Γ H' σ' s' → Step Γ σ s H σ' s' H' → RepX Γ.G H' (MM Γ σ' s') x cls dd → W cls dd σ' H'
  | .bad => False
def semS (t : S) : TS := fun D σ H => ∃ s, EnvOk Γ H σ s ∧ SemS Γ W fr (PI.exec c t s) s σ H D
def semSs (t : Ss) : TS := fun D σ H => ∃ s, EnvOk Γ H σ s ∧ SemS Γ W fr (PI.execs c t s) s σ H D
end
section
variable {X : Cx} {Γ : Fm} {W : WX} {c : Cn} {fr : Bool} {k : Ct} {σ σ1 : L2.St} {H H1 : Hp} {s s1 : Sl} {D D' : Ends}
theorem none_back {a : Addr} (t : Step Γ σ s H σ1 s1 H1) (n : H1 a = none) : H a = none := by
  cases q : H a with
  | none => rfl
  | some o => exact absurd n (t.dom a (by rw [q]; simp))
theorem SemS.pre {r : SR} (t : Step Γ σ s H σ1 s1 H1) (h : SemS Γ W fr r s σ H D) : SemS Γ W fr r s1 σ1 H1 D := by
  cases r with
  | nx s' => exact fun σ' H' e t2 => h σ' H' e (t.trans t2)
  | ct s' => exact fun σ' H' e t2 => h σ' H' e (t.trans t2)
  | rt d s' =>
    cases fr with
    | false => exact fun v σ' H' e t2 r => h v σ' H' e (t.trans t2) r
    | true => exact fun a ds vs σ' H' hd hn ha e t2 r => h a ds vs σ' H' hd (none_back t hn) ha e (t.trans t2) r
  | er x s' => exact fun cls dd σ' H' e t2 r => h cls dd σ' H' e (t.trans t2) r
  | bad => exact h
/-- an expression, and then -/
theorem toS_run {e : E} {f : PI.D → Sl → SR} {Q : VK} (e0 : EnvOk Γ H σ s) (h : SemS Γ W fr ((evalE c e s).toS f) s σ H D)
    (go : ∀ d s1 v H1, EnvOk Γ H1 σ s1 → Step Γ σ s H σ s1 H1 → Rep Γ.G H1 (MM Γ σ s1) d v → SemS Γ W fr (f d s1) s1 σ H1 D → Q v H1) : semE Γ W c e σ H Q := by
  refine ⟨s, e0, ?_⟩
  cases q : evalE c e s with
  | bad => rw [q] at h; exact h
  | err x s1 => rw [q] at h; exact fun cls dd H' e t r => h cls dd σ H' e t r
  | ok d s1 =>
    rw [q] at h
    exact fun v H1 e1 t1 r1 => go d s1 v H1 e1 t1 r1 (SemS.pre t1 h)
theorem nx_s (e0 : EnvOk Γ H σ s) (h : SemS Γ W fr (.nx s) s σ H D) : D.nx σ H := h σ H e0 Step.refl
end

/-! ### the look -/
def noComp : Expr → Bool
  | .ListComp .. => false
  | .SetComp .. => false
  | .DictComp .. => false
  | _ => true
theorem swaps_no {e : Expr} {t : Option Expr} {l : Nat} {env : Env} (h : noComp e = true) : swapsWith e t l env = pure false := by
  cases e <;> first | rfl | (simp [noComp] at h)
/-- [..] is bound on one line to a name of this def alone -/
def swB (sc : Scope) (y : Str) (py : Pos) : Expr → Bool
  | .ListComp _ _ scope pos => decide (sc.names.lookup y = some .local) && (py.line == pos.line) && !(scope.names.any fun (n, k) => n == y && (k == .local || k == .cell))
  | _ => false
theorem swaps_lc {elt : Expr} {gs : List Comprehension} {scope : Scope} {pos py : Pos} {y : Str} {l : Nat} {env : Env} (hk : env.scope.kind = .function) : swapsWith (.ListComp elt gs scope pos) (some (.Name y py)) l env = pure (swB env.scope y py (.ListComp elt gs scope pos)) := by
  unfold swapsWith swB
  have hb : env.blockKind = .function := by unfold Env.blockKind; rw [hk]; rfl
  simp only [hb]
  congr 1
  show (true && (env.kindOf y == some .local) && _ && _) = _
  rw [Bool.true_and]
  congr 2
  show (env.scope.names.lookup y == some .local) = _
  cases env.scope.names.lookup y with
  | none => rfl
  | some k => cases k <;> rfl
/-- new lists -/
def chkP (k : Ct) : E → Expr → Bool
  | .comp tg it cs el, e => chkE k (.comp tg it cs el) e
  | .op .lst a, e => (match e with | .List es _ => a.bs.isEmpty && chkAs k a es | _ => false)
  | .call g a, e => k.fr g && chkE k (.call g a) e
  | _, _ => false
def swT (sc : Scope) (ts vs : List Expr) : Option (Option (List Str)) :=
  if (!(ts.length == 2 || ts.length == 3) || vs.length != ts.length) = true then some none
  else if (vs.any fun | .Starred .. => true | _ => false) = true then some none
  else
    let line := (ts.head?.map (·.pos.line)).getD 0
    let names := ts.filterMap fun
      | .Name id pos => if sc.names.lookup id == some .local && pos.line == line then some id else none
      | _ => none
    if (names.length != ts.length || names.eraseDups.length != names.length) = true then some none
    else if vs.all (foldedForSure 8) = true then some none
    else if vs.all (constantsAlone 8) = true then none
    else some (some names)
theorem swT_ok {env : Env} {ts vs : List Expr} {k1 k2 : Nat} {p1 p2 : Pos} {r : Option (List Str)} (hk : env.scope.kind = .function) (h : swT env.scope ts vs = some r) : swappedStores [.Tuple ts k1 p1] (.Tuple vs k2 p2) env = pure r := by
  have hb : env.blockKind = .function := by unfold Env.blockKind; rw [hk]; rfl
  unfold swT at h
  unfold swappedStores
  simp only [hb]
  by_cases c1 : (!(ts.length == 2 || ts.length == 3) || vs.length != ts.length) = true
  · rw [if_pos c1] at h
    cases h
    exact if_pos (by rw [show (ScopeKind.function != ScopeKind.function) = false from rfl, Bool.or_false]; exact c1)
  · rw [if_neg c1] at h
    refine Eq.trans (if_neg (by rw [show (ScopeKind.function != ScopeKind.function) = false from rfl, Bool.or_false]; exact c1)) ?_
    split at h
    · rename_i c2
      cases h
      exact if_pos c2
    · rename_i c2
      refine Eq.trans (if_neg c2) ?_
      simp only at h
      split at h
      · rename_i c3
        cases h
        exact if_pos c3
      · rename_i c3
        refine Eq.trans (if_neg c3) ?_
        split at h
        · rename_i c4
          cases h
          exact if_pos c4
        · rename_i c4
          refine Eq.trans (if_neg c4) ?_
          split at h
          · cases h
          · rename_i c5
            cases h
            exact if_neg c5
end PI
namespace PI
open PySem PySem.Spec PyProof.Rows L2
/-! ### the exception that is handled -/
section
variable {G : Gm} {H : Hp} {M : Addr → Prop} {o : Option (Addr × Nat × Option Addr)}
mutual
theorem Rep.toX (h0 : G.xc = none) : ∀ (d : D) (v : V), Rep G H M d v → Rep { G with xc := o } H M d v
  | .non, v, h => h
  | .bl _, v, h => h
  | .int _, v, h => h
  | .str _, v, h => h
  | .tup ds, v, ⟨a, vs, e, q, r⟩ => ⟨a, vs, e, q, Reps.toX h0 ds vs r⟩
  | .lst ds, v, ⟨a, vs, e, q, r⟩ => ⟨a, vs, e, q, Reps.toX h0 ds vs r⟩
  | .scr _, v, h => h
  | .set _, v, h => h
  | .dic _ _, v, h => h
  | .fn _, v, h => h
  | .lam, v, h => h
  | .exc c x, v, ⟨a, dd, e, q, r⟩ => by rw [h0] at q; cases q
theorem Reps.toX (h0 : G.xc = none) : ∀ (ds : List D) (vs : List V), Reps G H M ds vs → Reps { G with xc := o } H M ds vs
  | [], vs, h => h
  | d :: ds, vs, ⟨v, r, e, h1, h2⟩ => ⟨v, r, e, Rep.toX h0 d v h1, Reps.toX h0 ds r h2⟩
end
mutual
theorem Rep.ofX : ∀ (d : D) (v : V), d.noex = true → Rep { G with xc := o } H M d v → Rep G H M d v
  | .non, v, n, h => h
  | .bl _, v, n, h => h
  | .int _, v, n, h => h
  | .str _, v, n, h => h
  | .tup ds, v, n, ⟨a, vs, e, q, r⟩ => ⟨a, vs, e, q, Reps.ofX ds vs (by simpa [D.noex] using n) r⟩
  | .lst ds, v, n, ⟨a, vs, e, q, r⟩ => ⟨a, vs, e, q, Reps.ofX ds vs (by simpa [D.noex] using n) r⟩
  | .scr _, v, n, h => h
  | .set _, v, n, h => h
  | .dic _ _, v, n, h => h
  | .fn _, v, n, h => h
  | .lam, v, n, h => h
  | .exc c x, v, n, _ => by simp [D.noex] at n
theorem Reps.ofX : ∀ (ds : List D) (vs : List V), D.noexs ds = true → Reps { G with xc := o } H M ds vs → Reps G H M ds vs
  | [], vs, n, h => h
  | d :: ds, vs, n, ⟨v, r, e, h1, h2⟩ => by
    simp only [D.noexs, Bool.and_eq_true] at n
    exact ⟨v, r, e, Rep.ofX d v n.1 h1, Reps.ofX ds r n.2 h2⟩
end
theorem Cont.toX (h0 : G.xc = none) {d : D} {a : Addr} (h : Cont G H M d a) : Cont { G with xc := o } H M d a := by
  cases d with
  | lst ds => obtain ⟨vs, h1, h2⟩ := h; exact ⟨vs, h1, Reps.toX h0 ds vs h2⟩
  | _ => exact h
theorem Cont.ofX {d : D} {a : Addr} (n : d.noex = true) (h : Cont { G with xc := o } H M d a) : Cont G H M d a := by
  cases d with
  | lst ds => obtain ⟨vs, h1, h2⟩ := h; exact ⟨vs, h1, Reps.ofX ds vs (by simpa [D.noex] using n) h2⟩
  | _ => exact h
end
/-- an exception is at hand -/
def Fm.exc (Γ : Fm) (o : Option (Addr × Nat × Option Addr)) : Fm := { Γ with G := { Γ.G with xc := o } }
section
variable {Γ : Fm} {H H' : Hp} {σ σ' : L2.St} {s s' : Sl} {o : Option (Addr × Nat × Option Addr)}
theorem EnvOk.toX (h0 : Γ.G.xc = none) (e : EnvOk Γ H σ s) : EnvOk (Γ.exc o) H σ s := by
  refine ⟨e.len, fun i => ?_, e.dis, e.trk, e.dm, e.tab⟩
  have q := e.slot i
  cases hx : getS s i with
  | no => trivial
  | fz d => rw [hx] at q; obtain ⟨v, h1, h2⟩ := q; exact ⟨v, h1, Rep.toX h0 d v h2⟩
  | own d => rw [hx] at q; obtain ⟨a, h1, h2, h3, h4⟩ := q; exact ⟨a, h1, h2, h3, h4.toX h0⟩
  | ino d => rw [hx] at q; obtain ⟨a, h1, h2, h4⟩ := q; exact ⟨a, h1, h2, h4.toX h0⟩
  | lent b d =>
    rw [hx] at q
    cases b with
    | true => obtain ⟨a, h1, h2, h3, h4⟩ := q; exact ⟨a, h1, h2, h3, h4.toX h0⟩
    | false => obtain ⟨a, h1, h2, h4⟩ := q; exact ⟨a, h1, h2, h4.toX h0⟩
theorem noex_get (n : s.all Slot.noex = true) (i : Nat) : (getS s i).noex = true := by
  unfold getS
  rw [List.getD_eq_getElem?_getD]
  cases q : s[i]? with
  | none => rfl
  | some x => exact List.all_eq_true.mp n x (List.mem_of_getElem? q)
theorem EnvOk.ofX (n : s.all Slot.noex = true) (e : EnvOk (Γ.exc o) H σ s) : EnvOk Γ H σ s := by
  refine ⟨e.len, fun i => ?_, e.dis, e.trk, e.dm, e.tab⟩
  have q := e.slot i
  have ni := noex_get n i
  cases hx : getS s i with
  | no => trivial
  | fz d => rw [hx] at q ni; obtain ⟨v, h1, h2⟩ := q; exact ⟨v, h1, Rep.ofX d v ni h2⟩
  | own d => rw [hx] at q ni; obtain ⟨a, h1, h2, h3, h4⟩ := q; exact ⟨a, h1, h2, h3, h4.ofX ni⟩
  | ino d => rw [hx] at q ni; obtain ⟨a, h1, h2, h4⟩ := q; exact ⟨a, h1, h2, h4.ofX ni⟩
  | lent b d =>
    rw [hx] at q ni
    cases b with
    | true => obtain ⟨a, h1, h2, h3, h4⟩ := q; exact ⟨a, h1, h2, h3, h4.ofX ni⟩
    | false => obtain ⟨a, h1, h2, h4⟩ := q; exact ⟨a, h1, h2, h4.ofX ni⟩
theorem Step.toX (t : Step Γ σ s H σ' s' H') : Step (Γ.exc o) σ s H σ' s' H' := ⟨t.keep, t.dom, t.ch, t.mm, t.fix⟩
theorem Step.ofX (t : Step (Γ.exc o) σ s H σ' s' H') : Step Γ σ s H σ' s' H' := ⟨t.keep, t.dom, t.ch, t.mm, t.fix⟩
end
end PI

set_option linter.all false
set_option maxRecDepth 100000
set_option maxHeartbeats 1000000
/-! P13b: each statement. -/
namespace PI
open PySem PySem.Spec PyProof.Rows L2
section
variable {X : Cx} {Γ : Fm} {W : WX} {c : Cn} {fr : Bool} {k : Ct} {σ σ1 : L2.St} {H H1 : Hp} {s s1 : Sl} {D D' : Ends}
theorem write_ok {i : Nat} {a : Addr} {ds ds' : List PI.D} {vs vs' : List V} (e : EnvOk Γ H σ s) (hx : getS s i = .own (.lst ds) ∨ getS s i = .ino (.lst ds)) (ha : sAt σ i = some (.ref a)) (hv : H a = some (.lst vs)) (r : Reps Γ.G H (MM Γ σ s) ds' vs') :
    EnvOk Γ (upd H a (.lst vs')) σ (s.set i ((getS s i).withD (.lst ds'))) ∧ Step Γ σ s H σ (s.set i ((getS s i).withD (.lst ds'))) (upd H a (.lst vs')) := by
  have hm : (getS s i).mut = true := by rcases hx with q | q <;> rw [q] <;> rfl
  have hi : i < s.length := getS_lt (fun z => by rw [z] at hm; cases hm)
  have hch : Ch σ s a := ⟨i, ha, hm⟩
  have hMM := e.chM hch
  have gi : ∀ j, getS (s.set i ((getS s i).withD (.lst ds'))) j = if j = i then (getS s i).withD (.lst ds') else getS s j := fun j => getS_set hi
  have mine : ∀ j, (getS (s.set i ((getS s i).withD (.lst ds'))) j).mine = (getS s j).mine := fun j => by
    rw [gi]; by_cases z : j = i
    · subst z; rw [if_pos rfl, withD_mine]
    · rw [if_neg z]
  have held : ∀ j, (getS (s.set i ((getS s i).withD (.lst ds'))) j).held = (getS s j).held := fun j => by
    rw [gi]; by_cases z : j = i
    · subst z; rw [if_pos rfl, withD_held]
    · rw [if_neg z]
  have hmut : ∀ j, (getS (s.set i ((getS s i).withD (.lst ds'))) j).mut = (getS s j).mut := fun j => by
    rw [gi]; by_cases z : j = i
    · subst z; rw [if_pos rfl, withD_mut]
    · rw [if_neg z]
  have mm : ∀ b, MM Γ σ (s.set i ((getS s i).withD (.lst ds'))) b → MM Γ σ s b := fun b h => by
    rcases h with h | ⟨j, h1, h2⟩
    · exact .inl h
    · exact .inr ⟨j, h1, by rw [← mine]; exact h2⟩
  have kk : ∀ b o, H b = some o → ¬ MM Γ σ s b → NT o → upd H a (.lst vs') b = some o := fun b o h n _ => by
    rw [upd_ne (fun z => n (by rw [z]; exact hMM))]; exact h
  have dd : ∀ b, H b ≠ none → upd H a (.lst vs') b ≠ none := fun b h => by
    by_cases z : b = a
    · subst z; rw [upd_same]; simp
    · rw [upd_ne z]; exact h
  refine ⟨⟨by rw [List.length_set]; exact e.len, fun j => ?_, fun j l b h1 h2 h3 h4 => e.dis j l b (by rw [← held]; exact h1) (by rw [← held]; exact h2) h3 h4, fun b h => dd b (e.trk b h), ⟨fun b h => dd b (e.dm.1 b h), fun b o h nt nm => by
      rw [upd_ne (fun z => ?_)]
      · exact e.dm.2 b o h nt nm
      · subst z
        have q := e.slot i
        rcases hx with hx | hx
        · rw [hx] at q; obtain ⟨b', g1, _, g3, _⟩ := q; rw [ha] at g1; cases g1; rw [h] at g3; cases g3
        · rw [hx] at q; obtain ⟨b', g1, g2, _⟩ := q; rw [ha] at g1; cases g1; exact nm g2.1⟩, tabs_write hv e.tab⟩,
    ⟨fun b o h nc nt => by rw [upd_ne (fun z => nc (by rw [z]; exact hch))]; exact h, dd, fun b ⟨j, h1, h2⟩ => .inl ⟨j, h1, by rw [← hmut]; exact h2⟩, fun b h => .inl (mm b h), fun j => ⟨fun d hd => ⟨rfl, ?_⟩, fun b d hd => ⟨rfl, ?_⟩⟩⟩⟩
  · rw [gi]
    by_cases z : j = i
    · subst z
      rw [if_pos rfl]
      have q := e.slot j
      have cn : Cont Γ.G (upd H a (.lst vs')) (MM Γ σ (s.set j ((getS s j).withD (.lst ds')))) (.lst ds') a := ⟨vs', upd_same, Reps.mono kk (fun b h => .inl (mm b h)) _ _ r⟩
      rcases hx with hx | hx
      · rw [hx] at q ⊢
        rw [hx] at cn
        obtain ⟨b, h1, h2, h3, _⟩ := q
        rw [ha] at h1; cases h1
        exact ⟨a, ha, h2, h3, cn⟩
      · rw [hx] at q ⊢
        rw [hx] at cn
        obtain ⟨b, h1, h2, _⟩ := q
        rw [ha] at h1; cases h1
        exact ⟨a, ha, h2, cn⟩
    · rw [if_neg z]
      refine (e.slot j).mono kk (fun b h => .inl (mm b h)) (fun b hb hh u hu nt => ?_)
      rw [upd_ne (fun w => ?_)]; exact hu
      subst w
      exact z (e.dis j i b hh (mut_held hm) hb ha)
  · rw [gi]
    by_cases z : j = i
    · subst z
      rw [if_pos rfl, hd]
      exact ⟨.lst ds', .inl rfl⟩
    · rw [if_neg z]; exact ⟨d, .inl hd⟩
  · rw [gi]
    by_cases z : j = i
    · subst z; rcases hx with q | q <;> rw [q] at hd <;> cases hd
    · rw [if_neg z]; exact hd
/-- what a list to be written has -/
theorem mut_list {i : Nat} {ds : List PI.D} (e : EnvOk Γ H σ s) (hx : getS s i = .own (.lst ds) ∨ getS s i = .ino (.lst ds)) : ∃ a vs, sAt σ i = some (.ref a) ∧ H a = some (.lst vs) ∧ Reps Γ.G H (MM Γ σ s) ds vs := by
  have q := e.slot i
  rcases hx with hx | hx
  · rw [hx] at q; obtain ⟨a, h1, _, _, vs, h2, h3⟩ := q; exact ⟨a, vs, h1, h2, h3⟩
  · rw [hx] at q; obtain ⟨a, h1, _, vs, h2, h3⟩ := q; exact ⟨a, vs, h1, h2, h3⟩
/-- name = e -/
theorem asg_read {i : Nat} {e : E} {o : Bool} (h : semS Γ W c fr (.asg i o e) D σ H) : tAsg (semR Γ W c o e) (gName i) D σ H := by
  obtain ⟨s, e0, h⟩ := h
  rw [PI.exec] at h
  refine ⟨s, e0, ?_⟩
  cases q : evalE c e s with
  | bad => rw [q] at h; rw [SemR.bad]; exact h
  | err x s1 => rw [q] at h; rw [SemR.err]; exact fun cls dd H' e t r => h cls dd σ H' e t r
  | ok d s1 =>
    rw [q] at h
    have h : SemS Γ W fr (storeS s1 i (if o then .own d else .fz d)) s σ H D := h
    unfold storeS at h
    by_cases hc : ((getS s1 i).open && decide (i < s1.length)) = true
    · rw [if_pos hc] at h
      simp only [Bool.and_eq_true, decide_eq_true_eq] at hc
      cases o with
      | false =>
        intro v H1 e1 t1 r1
        obtain ⟨e2, t2⟩ := e1.store hc.2 hc.1 r1
        exact h _ H1 e2 (t1.trans t2)
      | true =>
        intro a ds vs H1 hd hn ha e1 t1 r1
        subst hd
        obtain ⟨e2, t2⟩ := EnvOk.storeOwn e1 hc.2 hc.1 (fun z => e0.trk a (.inr z) hn) (fun z => e0.trk a (.inl z) hn) (by
          cases q : Γ.H0 a with
          | none => rfl
          | some o => exact absurd hn (e0.dm.1 a (by rw [q]; simp))) ha r1
        exact h _ H1 e2 (t2 σ s H hn t1)
    · rw [if_neg hc] at h; exact h.elim
end
end PI

set_option linter.all false
set_option maxRecDepth 100000
set_option maxHeartbeats 1000000
/-! P13c: each statement, on. -/
namespace PI
open PySem PySem.Spec PyProof.Rows L2
section
variable {X : Cx} {Γ : Fm} {W : WX} {c : Cn} {fr : Bool} {k : Ct} {σ σ1 : L2.St} {H H1 : Hp} {s s1 : Sl} {D D' : Ends}
/-- target = e -/
theorem tup_read {tg : Tg} {e : E} (h : semS Γ W c fr (.tup tg e) D σ H) : tAsg (semE Γ W c e) (semG Γ tg) D σ H := by
  obtain ⟨s, e0, h⟩ := h
  rw [PI.exec] at h
  refine toS_run e0 h fun d s1 v H1 e1 t1 r1 h => ?_
  cases q : tg.put d s1 with
  | none => rw [q] at h; exact h.elim
  | some s2 =>
    rw [q] at h
    exact ⟨d, s1, e1, r1, s2, q, fun σ' e2 t2 _ _ => h σ' H1 e2 t2⟩
/-- x[k] = e -/
theorem sub_read {i : Nat} {j e : E} (h : semS Γ W c fr (.sub i j e) D σ H) : tAsg (semE Γ W c e) (gSub (tVar i) (semE Γ W c j) rSetL) D σ H := by
  obtain ⟨s, e0, h⟩ := h
  rw [PI.exec] at h
  refine toS_run e0 h fun d s1 v H1 e1 t1 r1 h => ?_
  show gSub (tVar i) (semE Γ W c j) rSetL v σ H1 D.nx
  by_cases hv0 : (getS s1 i).val.isSome = true
  case neg => rw [if_neg hv0] at h; exact h.elim
  rw [if_pos hv0] at h
  obtain ⟨d0, hd0⟩ := Option.isSome_iff_exists.mp hv0
  obtain ⟨ov, hov, _⟩ := e1.peek hd0
  refine ⟨ov, sAt_some hov, ?_⟩
  refine toS_run e1 h fun jd s2 jv H2 e2 t2 r2 h => ?_
  have rd2 := Rep.step e1 t2 r1
  have go : ∀ ds, (getS s2 i = .own (.lst ds) ∨ getS s2 i = .ino (.lst ds)) → ∀ n, jd = .int n → (∃ ds', setL ds n d = some ds' ∧ SemS Γ W fr (.nx (s2.set i ((getS s2 i).withD (.lst ds')))) s2 σ H2 D) → rSetL ov jv v H2 fun H3 => D.nx σ H3 := by
    intro ds hx n hn ⟨ds', hs, hq⟩
    subst hn
    obtain ⟨a, vs, ha, hv, rr⟩ := mut_list e2 hx
    rw [hov] at ha; cases ha
    unfold setL at hs
    obtain ⟨m, hm, rfl⟩ := Option.map_eq_some_iff.mp hs
    obtain ⟨e3, t3⟩ := write_ok e2 hx hov hv (rr.set rd2 m)
    exact ⟨a, vs, n, m, rfl, r2, hv, by rw [← rr.len]; exact hm, hq _ _ e3 t3⟩
  split at h
  · rename_i ds n hx
    cases hs : setL ds n d with
    | none => rw [hs] at h; exact h.elim
    | some ds' =>
      rw [hs] at h
      exact go ds (.inl hx) n rfl ⟨ds', hs, by rw [hx]; exact h⟩
  · rename_i ds n hx
    cases hs : setL ds n d with
    | none => rw [hs] at h; exact h.elim
    | some ds' =>
      rw [hs] at h
      exact go ds (.inr hx) n rfl ⟨ds', hs, by rw [hx]; exact h⟩
  · exact h.elim
/-- x.append(e) -/
theorem app_read {i : Nat} {e : E} {K : PySem.W.Frag} (h : semS Γ W c fr (.app i e) D σ H) : tDrop (tBM K "list" rAppend (tVar i) (tCons (semE Γ W c e) tNil)) D σ H := by
  obtain ⟨s, e0, h⟩ := h
  rw [PI.exec] at h
  by_cases hv0 : (getS s i).ml = true
  case neg => rw [if_neg hv0] at h; exact h.elim
  rw [if_pos hv0] at h
  have hx0 : ∃ ds, getS s i = .own (.lst ds) ∨ getS s i = .ino (.lst ds) := by
    unfold Slot.ml at hv0
    split at hv0
    · rename_i ds q; exact ⟨ds, .inl q⟩
    · rename_i ds q; exact ⟨ds, .inr q⟩
    · cases hv0
  obtain ⟨ds0, hx0⟩ := hx0
  obtain ⟨a, vs0, ha, hv, _⟩ := mut_list e0 hx0
  refine ⟨.ref a, sAt_some ha, .inl ⟨rfl, vs0, SqL.of hv⟩, ?_⟩
  show semE Γ W c e σ H fun x H' => tNil σ H' fun xs H'' => rAppend (.ref a) (x :: xs) H'' fun _ H1 => D.nx σ H1
  refine toS_run e0 h fun d s1 v H1 e1 t1 r1 h => ?_
  show rAppend (.ref a) [v] H1 fun _ H1 => D.nx σ H1
  have go : ∀ ds, (getS s1 i = .own (.lst ds) ∨ getS s1 i = .ino (.lst ds)) → SemS Γ W fr (if ds.length < lim then .nx (s1.set i ((getS s1 i).withD (.lst (ds ++ [d])))) else .bad) s1 σ H1 D → rAppend (.ref a) [v] H1 fun _ H1 => D.nx σ H1 := by
    intro ds hx hq
    obtain ⟨a', vs, ha', hv', rr⟩ := mut_list e1 hx
    rw [ha] at ha'; cases ha'
    by_cases hl : ds.length < lim
    · rw [if_pos hl] at hq
      obtain ⟨e3, t3⟩ := write_ok e1 hx ha hv' (rr.app (Reps.one r1))
      exact ⟨a, vs, v, rfl, rfl, hv', by rw [← rr.len]; exact Nat.lt_of_lt_of_eq hl (by rw [sizeLine_eq]; rfl), hq _ _ e3 t3⟩
    · rw [if_neg hl] at hq; exact hq.elim
  split at h
  · rename_i ds hx
    exact go ds (.inl hx) (by rw [hx]; exact h)
  · rename_i ds hx
    exact go ds (.inr hx) (by rw [hx]; exact h)
  · exact h.elim
theorem ex_read {e : E} (h : semS Γ W c fr (.ex e) D σ H) : tDrop (semE Γ W c e) D σ H := by
  obtain ⟨s, e0, h⟩ := h
  rw [PI.exec] at h
  exact toS_run e0 h fun d s1 v H1 e1 t1 r1 h => h σ H1 e1 Step.refl
theorem ret_read {e : E} (h : semS Γ W c fr (.ret e) D σ H) : tRet (semR Γ W c fr e) D σ H := by
  obtain ⟨s, e0, h⟩ := h
  rw [PI.exec] at h
  refine ⟨s, e0, ?_⟩
  cases q : evalE c e s with
  | bad => rw [q] at h; rw [SemR.bad]; exact h
  | err x s1 => rw [q] at h; rw [SemR.err]; exact fun cls dd H' e t r => h cls dd σ H' e t r
  | ok d s1 =>
    rw [q] at h
    cases fr with
    | false => exact fun v H' e1 t1 r1 => h v σ H' e1 t1 r1
    | true => exact fun a ds vs H' hd hn ha e1 t1 r1 => h a ds vs σ H' hd hn ha e1 t1 r1
theorem retN_read (h : semS Γ W c false .retN D σ H) : tRetN D σ H := by
  obtain ⟨s, e0, h⟩ := h
  rw [PI.exec] at h
  exact h .non σ H e0 Step.refl rfl
theorem ite_read {q : E} {a b : Ss} (h : semS Γ W c fr (.ite q a b) D σ H) : tIfS (tTest (semE Γ W c q)) (semSs Γ W c fr a) (semSs Γ W c fr b) D σ H := by
  obtain ⟨s, e0, h⟩ := h
  rw [PI.exec] at h
  refine toS_run e0 h fun d s1 v H1 e1 t1 r1 h => ?_
  split at h
  · exact ⟨true, r1, s1, e1, h⟩
  · exact ⟨false, r1, s1, e1, h⟩
  · exact h.elim
theorem semSs_nil (h : semSs Γ W c fr .nil D σ H) : tNext D σ H := by
  obtain ⟨s, e0, h⟩ := h
  rw [PI.execs] at h
  exact nx_s e0 h
theorem semSs_cons {a : S} {r : Ss} (h : semSs Γ W c fr (.cons a r) D σ H) : tSeq (semS Γ W c fr a) (semSs Γ W c fr r) D σ H := by
  obtain ⟨s, e0, h⟩ := h
  rw [PI.execs] at h
  refine ⟨s, e0, ?_⟩
  cases q : PI.exec c a s with
  | nx s1 =>
    rw [q] at h
    exact fun σ' H' e t => ⟨s1, e, SemS.pre t h⟩
  | ct s1 => rw [q] at h; exact h
  | rt d s1 =>
    rw [q] at h
    cases fr with
    | false => exact h
    | true => exact h
  | er x s1 => rw [q] at h; exact h
  | bad => rw [q] at h; exact h
/-- one turn -/
def forF (c : Cn) (tg : Tg) (b : Ss) : PI.D → Sl → SR := fun d s => match tg.put d s with
  | some s => execs c b s
  | none => .bad
theorem for_read {tg : Tg} {it : It} {b : Ss} (h : semS Γ W c fr (.for tg it b) D σ H) : tFor (semI Γ W c it) (semG Γ tg) (semSs Γ W c fr b) D σ H := by
  obtain ⟨s, e0, h⟩ := h
  have h : SemS Γ W fr ((evalIt c it s).toS fun ds s1 => (loopF (forF c tg b) ds s1).bind fun s2 => .nx (unlend s s1 s2 it.lends)) s σ H D := by
    rw [PI.exec] at h; exact h
  refine ⟨s, e0, ?_⟩
  cases qi : evalIt c it s with
  | bad => rw [qi] at h; exact h
  | err x s1 => rw [qi] at h; exact fun cls dd H' e t r => h cls dd σ H' e t r
  | ok ds s1 =>
    rw [qi] at h
    have h : SemS Γ W fr ((loopF (forF c tg b) ds s1).bind fun s2 => .nx (unlend s s1 s2 it.lends)) s σ H D := h
    intro J H1 e1 t1 io
    have w : Walk J ds.length (fun H => Lat H1 (Ch σ s1) H) (fun i H x H' => ∀ M', (∀ a, M' a → MM Γ σ s1 a ∨ H1 a = none) → (∀ a, M' a → H a ≠ none) → (∀ a o, H a = some o → H' a = some o) ∧ ∃ d, ds[i]? = some d ∧ Rep Γ.G H' M' d x) :=
      ⟨fun i H hi l => io.goes i H hi l, fun H l => io.stops H l, fun i H x H' hi l y M' m k => io.yields i H x H' M' hi l m k y⟩
    refine for_it w (fun i σ' H' => ∃ si, loopF (forF c tg b) (ds.drop i) si = loopF (forF c tg b) ds s1 ∧ EnvOk Γ H' σ' si ∧ Step Γ σ s1 H1 σ' si H') ⟨s1, rfl, e1, Step.refl⟩ (fun i σ' H' _ ⟨si, _, _, T⟩ => T.keep) ?_ ?_
    · rintro i x σ' H' H'' hi ⟨si, hlp, ei, T⟩ y
      obtain ⟨kk, d, hd, rd⟩ := y (MM Γ σ' si) T.mm ei.mmTrk
      have hdrop : ds.drop i = d :: ds.drop (i + 1) := by
        obtain ⟨hlt, hge⟩ := List.getElem?_eq_some_iff.mp hd
        rw [← hge]
        exact List.drop_eq_getElem_cons hlt
      rw [hdrop, loopF] at hlp
      have ei' := ei.grow kk
      have T' : Step Γ σ s1 H1 σ' si H'' := T.trans (Step.grow kk)
      cases hput : tg.put d si with
      | none =>
        simp only [forF, hput] at hlp
        rw [← hlp] at h
        exact h.elim
      | some s3 =>
        refine ⟨d, si, ei', rd, s3, hput, fun σ2 e3 t3 n3 l3 => ?_⟩
        have T3 := T'.trans t3
        refine ⟨s3, e3, ?_⟩
        have hf : forF c tg b d si = execs c b s3 := by simp only [forF, hput]
        rw [hf] at hlp
        cases qb : execs c b s3 with
        | nx s4 =>
          rw [qb] at hlp
          exact fun σ4 H4 e4 t4 => ⟨s4, hlp, e4, T3.trans t4⟩
        | ct s4 =>
          rw [qb] at hlp
          exact fun σ4 H4 e4 t4 => ⟨s4, hlp, e4, T3.trans t4⟩
        | rt d4 s4 =>
          rw [qb] at hlp
          rw [← hlp] at h
          have TT := t1.trans T3
          cases fr with
          | false => exact fun v σ4 H4 e4 t4 r4 => h v σ4 H4 e4 (TT.trans t4) r4
          | true => exact fun a ds vs σ4 H4 hd hn ha e4 t4 r4 => h a ds vs σ4 H4 hd (none_back TT hn) ha e4 (TT.trans t4) r4
        | er x4 s4 =>
          rw [qb] at hlp
          rw [← hlp] at h
          exact fun cls dd σ4 H4 e4 t4 r4 => h cls dd σ4 H4 e4 ((t1.trans T3).trans t4) r4
        | bad =>
          rw [qb] at hlp
          rw [← hlp] at h
          exact h.elim
    · rintro σ' H' ⟨si, hlp, ei, T⟩
      rw [List.drop_length, loopF] at hlp
      rw [← hlp] at h
      obtain ⟨e7, t7, _⟩ := unlend_ok t1 T it.lends ei (t1.trans T)
      exact h σ' H' e7 t7
theorem while_read {n : Nat} {q : E} {b : Ss} (h : semS Γ W c fr (.while n q b) D σ H) : tWhile (tTest (semE Γ W c q)) (semSs Γ W c fr b) D σ H := by
  obtain ⟨s, e0, h⟩ := h
  rw [PI.exec] at h
  refine ⟨fun m σ' H' => ∃ si, loopW (fun s => evalE c q s) (fun s => execs c b s) m si = loopW (fun s => evalE c q s) (fun s => execs c b s) n s ∧ EnvOk Γ H' σ' si ∧ Step Γ σ s H σ' si H', ⟨n, s, rfl, e0, Step.refl⟩, ?_⟩
  rintro m σ' H' ⟨si, hlp, ei, T⟩
  refine ⟨si, ei, ?_⟩
  cases m with
  | zero =>
    rw [loopW] at hlp
    rw [← hlp] at h
    exact h.elim
  | succ m =>
    rw [loopW] at hlp
    cases qe : evalE c q si with
    | bad =>
      simp only [qe] at hlp
      rw [← hlp] at h; exact h.elim
    | err x s1 =>
      simp only [qe] at hlp
      rw [← hlp] at h
      exact fun cls dd H4 e4 t4 r4 => h cls dd σ' H4 e4 (T.trans t4) r4
    | ok d s1 =>
      simp only [qe] at hlp
      intro v H1 e1 t1 r1
      have T1 := T.trans t1
      cases d with
      | bl bb =>
        have r1 : v = .bl bb := r1
        refine ⟨bb, r1, ?_⟩
        cases bb with
        | false =>
          simp only at hlp
          rw [← hlp] at h
          exact h σ' H1 e1 T1
        | true =>
          refine ⟨fun σ4 H4 => ∃ s4, loopW (fun s => evalE c q s) (fun s => execs c b s) m s4 = loopW (fun s => evalE c q s) (fun s => execs c b s) n s ∧ EnvOk Γ H4 σ4 s4 ∧ Step Γ σ s H σ4 s4 H4, fun σ4 H4 hN => ⟨m, Nat.lt_succ_self m, hN⟩, s1, e1, ?_⟩
          simp only at hlp
          cases qb : execs c b s1 with
          | nx s4 =>
            simp only [qb] at hlp
            exact fun σ4 H4 e4 t4 => ⟨s4, hlp, e4, T1.trans t4⟩
          | ct s4 =>
            simp only [qb] at hlp
            exact fun σ4 H4 e4 t4 => ⟨s4, hlp, e4, T1.trans t4⟩
          | rt d4 s4 =>
            simp only [qb] at hlp
            rw [← hlp] at h
            cases fr with
            | false => exact fun v σ4 H4 e4 t4 r4 => h v σ4 H4 e4 (T1.trans t4) r4
            | true => exact fun a ds vs σ4 H4 hd hn ha e4 t4 r4 => h a ds vs σ4 H4 hd (none_back T1 hn) ha e4 (T1.trans t4) r4
          | er x4 s4 =>
            simp only [qb] at hlp
            rw [← hlp] at h
            exact fun cls dd σ4 H4 e4 t4 r4 => h cls dd σ4 H4 e4 (T1.trans t4) r4
          | bad =>
            simp only [qb] at hlp
            rw [← hlp] at h
            exact h.elim
      | _ => simp only at hlp; rw [← hlp] at h; exact h.elim
end
end PI

set_option linter.all false
set_option maxRecDepth 100000
set_option maxHeartbeats 2000000
/-! P13d: the look at statements. -/
namespace PI
open PySem PySem.Spec PyProof.Rows L2
structure StOk (X : Cx) (Γ : Fm) (W : WX) (c : Cn) (k : Ct) : Prop where
  ct : CtOk X Γ W c k
  po : PassesOwn (model X.prog X.w) X.A X.env X.xe
  st : X.stack = X.env :: X.outer
  fm : X.env.frame = some X.env.locals
def hotK (k : Ct) : Ct := { k with hot := true, th := none }
section
variable {X : Cx} {Γ : Fm} {W : WX} {c : Cn} {fr : Bool} {k : Ct} {σ σ1 : L2.St} {H H1 : Hp} {s s1 : Sl} {D D' : Ends}
theorem takes_false {Y : Cx} : L2N.Takes Y WF := fun u s' x => by
  obtain ⟨_, _, _, _, _, _, _, _, _, _, _, _, _, _, _, _, z⟩ := x
  exact z.elim
theorem StOk.tr (S : StOk X Γ W c k) (hh : k.hot = false) {W' : WX} {pn : List (Addr × Obj)} {xe : Value → Shared → Prop} (tk : L2N.Takes (X.tr pn xe) W') (po : PassesOwn (model X.prog X.w) X.A X.env xe) : StOk (X.tr pn xe) Γ W' c k where
  ct := { sc := S.ct.sc, N := S.ct.N, nd := S.ct.nd, fk := S.ct.fk, hK := S.ct.hK, calm := S.ct.calm, tk := tk, un := S.ct.un, free := S.ct.free, fns := S.ct.fns, room := S.ct.room, cal := S.ct.cal, bad := S.ct.bad, noio := S.ct.noio, room2 := S.ct.room2,
          lam := S.ct.lam, lt := S.ct.lt, exs := S.ct.exs, exp := S.ct.exp, exm := S.ct.exm, xc0 := S.ct.xc0, th := S.ct.th, cns := S.ct.cns, hotc := fun h => (by rw [hh] at h; cases h), exc := S.ct.exc, kit := S.ct.kit, exn := S.ct.exn }
  po := po
  st := S.st
  fm := S.fm
theorem StOk.suite (S : StOk X Γ W c k) (h0 : Γ.G.xc = none) {n : Nat} {dd : Option Addr} {a : Addr} {oe : Obj} {pn : List (Addr × Obj)} (hn : n < c.nx) (hz : L2N.Zn (.ref (Γ.G.ec n)) dd oe) (hd : ∃ vs, oe.data = .fields vs) : StOk (X.suite a ((a, oe) :: pn)) (Γ.exc (some (a, n, dd))) WF c (hotK k) where
  ct := { sc := S.ct.sc, N := S.ct.N, nd := S.ct.nd, fk := S.ct.fk, hK := S.ct.hK, calm := fun h => (by cases h), tk := takes_false, un := S.ct.un, free := S.ct.free, fns := S.ct.fns, room := fun h => (by cases h), cal := fun h => (by cases h), bad := S.ct.bad, noio := S.ct.noio, room2 := fun h => (by cases h),
          lam := fun h => (by cases h), lt := S.ct.lt, exs := S.ct.exs, exp := S.ct.exp, exm := S.ct.exm, xc0 := fun h => (by cases h), th := fun x h => (by cases h),
          cns := fun x d h => by
            obtain ⟨u, v, h1, h2, h3⟩ := S.ct.cns x d h
            exact ⟨u, v, h1, h2, fun H M => Rep.toX h0 d v (h3 H M)⟩,
          hotc := fun _ => ⟨a, oe, n, dd, rfl, List.mem_cons_self, ⟨rfl, (by
            obtain ⟨vs, e⟩ := hd
            exact ⟨vs, e, hz.2.2 vs e⟩)⟩, hz, hd, hn⟩, exc := S.ct.exc, kit := S.ct.kit, exn := S.ct.exn }
  po := PassesOwn.never
  st := S.st
  fm := S.fm
end
end PI
namespace PI
open PySem PySem.Spec PyProof.Rows L2
section
variable {X : Cx} {Γ : Fm} {W : WX} {c : Cn} {fr : Bool} {k : Ct} {σ σ1 : L2.St} {H H1 : Hp} {s s1 : Sl} {D D' : Ends}
/-- an except suite's reading -/
def tSuite (Γ : Fm) (c : Cn) (fr : Bool) (h : Ss) (a : Addr) (cls : Value) (dd : Option Addr) : TS := fun D σ H => ∃ n, cls = .ref (Γ.G.ec n) ∧ n < c.nx ∧ semSs (Γ.exc (some (a, n, dd))) WF c fr h D σ H
theorem try_read {b h : Ss} {kx i : Nat} (hfr : fr = false) (h0 : Γ.G.xc = none) (hx : ∀ m n, m < c.nx → n < c.nx → PySem.W.exmOne X.K (.ref (Γ.G.ec m)) (.ref (Γ.G.ec n)) = some (n == 0 || m == n)) (hq : semS Γ W c fr (.tryE b kx (some i) h) D σ H) :
    semSs Γ (wAs X.K (.ref (Γ.G.ec kx)) i (tSuite Γ c fr h) W D) c fr b D σ H := by
  obtain ⟨s, e0, hq⟩ := hq
  rw [PI.exec] at hq
  refine ⟨s, e0, ?_⟩
  cases q : execs c b s with
  | nx s1 => rw [q] at hq; exact hq
  | ct s1 => rw [q] at hq; exact hq
  | rt d s1 =>
    rw [q] at hq
    cases fr with
    | false => exact hq
    | true => exact hq
  | bad => rw [q] at hq; exact hq
  | er x s1 =>
    rw [q] at hq
    intro cls dd σ1 H1 e1 t1 r1
    simp only at hq
    by_cases hc : (decide (x.c < c.nx) && decide (kx < c.nx)) = true
    · rw [if_pos hc] at hq
      simp only [Bool.and_eq_true, decide_eq_true_eq] at hc
      obtain ⟨rc, rx⟩ := r1
      refine ⟨_, by rw [rc]; exact hx _ _ hc.1 hc.2, fun hb a ha => ?_, fun hb => ?_⟩
      · rw [if_pos hb] at hq
        refine ⟨x.c, rc, hc.1, ?_⟩
        unfold storeS at hq
        by_cases ho : ((getS s1 i).open && decide (i < s1.length)) = true
        · rw [if_pos ho] at hq
          simp only [Bool.and_eq_true, decide_eq_true_eq] at ho
          have hq : SemS Γ W fr (outX i (execs c h (s1.set i (.fz (.exc x.c x.x))))) s σ H D := hq
          have eX : EnvOk (Γ.exc (some (a, x.c, dd))) H1 σ1 s1 := e1.toX h0
          obtain ⟨e2, t2⟩ := eX.store (d := .exc x.c x.x) (v := .ref a) ho.2 ho.1 ⟨a, dd, rfl, rfl, rx.1, fun j hj => rx.2 j hj⟩
          refine ⟨_, e2, ?_⟩
          have t2' : Step Γ σ1 s1 H1 (σ1.set i (some (.ref a))) (s1.set i (.fz (.exc x.c x.x))) H1 := t2.ofX
          have T := t1.trans t2'
          generalize s1.set i (.fz (.exc x.c x.x)) = s2 at hq e2 T ⊢
          generalize σ1.set i (some (V.ref a)) = σ2 at e2 T ⊢
          -- behind the suite
          have back : ∀ (s3 : Sl) (σ3 : L2.St) (H3 : Hp), (getS s3 i).loose = true → (s3.set i .no).all Slot.noex = true → EnvOk (Γ.exc (some (a, x.c, dd))) H3 σ3 s3 → Step (Γ.exc (some (a, x.c, dd))) σ2 s2 H1 σ3 s3 H3 →
              EnvOk Γ H3 (σ3.set i none) (s3.set i .no) ∧ Step Γ σ s H (σ3.set i none) (s3.set i .no) H3 ∧ ∀ b, MM (Γ.exc (some (a, x.c, dd))) (σ3.set i none) (s3.set i .no) b → MM (Γ.exc (some (a, x.c, dd))) σ3 s3 b ∨ False := fun s3 σ3 H3 hl hn e3 t3 => by
            obtain ⟨e4, t4⟩ := drop_ok e3 hl
            refine ⟨e4.ofX hn, T.trans (t3.trans t4).ofX, fun b hb => .inl ?_⟩
            rcases hb with hb | ⟨j, h1, h2⟩
            · exact .inl hb
            · by_cases hi : i < s3.length
              · rw [getS_set hi] at h2
                rw [sAt_set (by rw [e3.len]; exact hi)] at h1
                by_cases z : j = i
                · rw [if_pos z] at h1; cases h1
                · rw [if_neg z] at h1 h2; exact .inr ⟨j, h1, h2⟩
              · rw [getS_oob hi] at h2
                rw [List.set_eq_of_length_le (by rw [e3.len]; omega)] at h1
                exact .inr ⟨j, h1, h2⟩
          cases qh : execs c h s2 with
          | bad => rw [qh] at hq; exact hq.elim
          | er x' s3 => rw [qh] at hq; exact hq.elim
          | nx s3 =>
            rw [qh] at hq
            unfold outX at hq
            by_cases hz : ((getS s3 i).loose && (s3.set i .no).all Slot.noex) = true
            · simp only [hz, if_true] at hq
              simp only [Bool.and_eq_true] at hz
              intro σ3 H3 e3 t3
              obtain ⟨e4, t4, _⟩ := back s3 σ3 H3 hz.1 hz.2 e3 t3
              exact hq _ _ e4 t4
            · simp only [hz] at hq; exact hq.elim
          | ct s3 =>
            rw [qh] at hq
            unfold outX at hq
            by_cases hz : ((getS s3 i).loose && (s3.set i .no).all Slot.noex) = true
            · simp only [hz, if_true] at hq
              simp only [Bool.and_eq_true] at hz
              intro σ3 H3 e3 t3
              obtain ⟨e4, t4, _⟩ := back s3 σ3 H3 hz.1 hz.2 e3 t3
              exact hq _ _ e4 t4
            · simp only [hz] at hq; exact hq.elim
          | rt d s3 =>
            rw [qh] at hq
            unfold outX at hq
            by_cases hz : ((getS s3 i).loose && ((s3.set i .no).all Slot.noex && d.noex)) = true
            · simp only [hz, if_true] at hq
              simp only [Bool.and_eq_true] at hz
              cases fr with
              | false =>
                intro v σ3 H3 e3 t3 r3
                obtain ⟨e4, t4, m4⟩ := back s3 σ3 H3 hz.1 hz.2.1 e3 t3
                exact hq v _ H3 e4 t4 (Rep.mono (fun _ _ h _ _ => h) (fun b hb => .inl ((m4 b hb).resolve_right id)) d v (Rep.ofX d v hz.2.2 r3))
              | true =>
                intro a' ds vs σ3 H3 hd hn ha' e3 t3 r3
                cases hfr
            · simp only [hz] at hq; exact hq.elim
        · rw [if_neg ho] at hq; exact hq.elim
      · have hb' : ¬ ((kx == 0 || x.c == kx) = true) := by rw [hb]; simp
        rw [if_neg hb'] at hq
        exact hq cls dd σ1 H1 e1 t1 ⟨rc, rx⟩
    · rw [if_neg hc] at hq; exact hq.elim
end
end PI

set_option linter.all false
set_option maxRecDepth 100000
set_option maxHeartbeats 2000000
/-! P13e: the look at statements, all together. -/
namespace PI
open PySem PySem.Spec PyProof.Rows L2
section
variable {X : Cx} {Γ : Fm} {W : WX} {c : Cn} {fr : Bool} {k : Ct} {σ σ1 : L2.St} {H H1 : Hp} {s s1 : Sl} {D D' : Ends}
/-- raise C('..') -/
theorem raise_ok {n : Nat} {x m : Str} {j : Nat} {p p2 pos cpos : Pos} (K : CtOk X Γ W c k) (hh : k.hot = false) (he : k.exs.lookup x = some n) (hp : k.exp n = true) (hg : glB k.sc x = true) :
    PS X (.Raise (some (.Call (.Name x p) [.Constant (.str m) j p2] [] cpos)) none pos) (semS Γ W c fr (.raise n none)) := by
  obtain ⟨g1, g2⟩ := K.gl hg
  obtain ⟨e1, e2, e3, e4⟩ := K.exs x n he
  refine (L2N.ps_raise (K.calm hh) K.tk (L2N.pmk_own PySem.F.excBase_ValueError (K.exp n hp) e1 e2 (raises_own e3 e4) g1 g2)).weak fun D σ H h => ?_
  obtain ⟨s, e0, h⟩ := h
  rw [PI.exec] at h
  exact h _ none σ H e0 Step.refl ⟨rfl, fun _ => rfl, fun i hi => by cases hi⟩
/-- a, b = x, y -/
theorem par2_read {i j : Nat} {a : As} (hb : a.bs = []) (hij : i ≠ j) (h : semS Γ W c fr (.par [(i, false), (j, false)] a) D σ H) : tPar i j (tAs Γ W c a) D σ H := by
  obtain ⟨s, e0, h⟩ := h
  rw [PI.exec] at h
  refine tAs_run a s H _ e0 ?_
  cases q : evalAs c a s with
  | bad => rw [q] at h; exact h
  | err x s1 => rw [q] at h; exact fun cls dd H' e t r => h cls dd σ H' e t r
  | ok ds s1 =>
    rw [q] at h
    have h : SemS Γ W fr (parS [(i, false), (j, false)] ds s1) s σ H D := h
    intro vs H1 e1 t1 r1
    have rr := r1.strong hb
    match ds, rr with
    | [], _ => exact h.elim
    | [d], rr =>
      simp only [parS] at h
      split at h
      · exact h.elim
      · rename_i z; unfold storeS at h z
        by_cases ho : ((getS s1 i).open && decide (i < s1.length)) = true
        · rw [if_pos ho] at z; exact absurd rfl (z _)
        · rw [if_neg ho] at h; exact h.elim
    | [d1, d2], ⟨v1, r', e1', h1, v2, r'', e2', h2, h3⟩ =>
      have h3 : r'' = [] := h3
      subst e1' e2' h3
      refine ⟨v1, v2, rfl, ?_⟩
      simp only [parS, storeS] at h
      by_cases ho : ((getS s1 i).open && decide (i < s1.length)) = true
      · simp only [ho, if_true] at h
        simp only [Bool.and_eq_true, decide_eq_true_eq] at ho
        obtain ⟨e2, t2⟩ := e1.store ho.2 ho.1 h1
        by_cases ho2 : ((getS (s1.set i (.fz d1)) j).open && decide (j < (s1.set i (.fz d1)).length)) = true
        · simp only [Bool.false_eq_true, if_false] at h
          simp only [ho2, if_true] at h
          simp only [Bool.and_eq_true, decide_eq_true_eq] at ho2
          obtain ⟨e3, t3⟩ := e2.store ho2.2 ho2.1 (Rep.step e1 t2 h2)
          exact h _ H1 e3 (t1.trans (t2.trans t3))
        · simp only [Bool.false_eq_true, if_false] at h
          simp only [ho2] at h
          exact h.elim
      · simp only [ho] at h
        exact h.elim
    | _ :: _ :: _ :: _, rr =>
      simp only [parS, storeS] at h
      by_cases ho : ((getS s1 i).open && decide (i < s1.length)) = true
      · simp only [ho, if_true, Bool.false_eq_true, if_false] at h
        split at h
        · exact h.elim
        · rename_i z
          split at h
          · rename_i z2; rw [if_pos z2] at z; exact absurd rfl (z _)
          · exact h.elim
      · simp only [ho] at h
        exact h.elim
theorem swapped_no {ts v : Expr} {env : Env} (h : (match v with | .Tuple .. => false | _ => true) = true) : swappedStores [ts] v env = pure none := by
  cases v <;> first | (simp at h; done) | (cases ts <;> rfl)
end
/-! ### the look -/
def tupV (sc : Scope) (t v : Expr) : Bool := match t, v with
  | .Tuple ts _ _, .Tuple vs _ _ => (match swT sc ts vs with | some none => true | _ => false)
  | _, .Tuple .. => false
  | _, _ => true
mutual
def chkS (k : Ct) (fr : Bool) : S → Stmt → Bool
  | .asg i o e, st => (match st with
    | .Assign [.Name x p] v pos => slotB k i x && locB k x && (if o then chkP k e v else chkE k e v) && (noComp v || (match e with | .comp .. => true | _ => false))
    | _ => false)
  | .par is a, st => (match st with
    | .Assign [.Tuple [.Name x px, .Name y py] kt pt] (.Tuple [u, v] k2 p2) pos => !k.hot && (match is with
      | [(i, false), (j, false)] => slotB k i x && slotB k j y && !decide (i = j) && decide (k.sc.names.lookup x = some .local) && decide (k.sc.names.lookup y = some .local) && a.bs.isEmpty && chkAs k a [u, v] && decide (swT k.sc [.Name x px, .Name y py] [u, v] = some (some [x, y]))
      | _ => false)
    | _ => false)
  | .tup tg e, st => (match st with
    | .Assign [t] v pos => (match t with | .Tuple .. => true | _ => false) && chkG k tg t && chkE k e v && noComp v && tupV k.sc t v
    | _ => false)
  | .sub i j e, st => (match st with
    | .Assign [.Subscript (.Name x p) b sp] v pos => nameB k i (.Name x p) && plainSl b && chkE k j b && chkE k e v && noComp v
    | _ => false)
  | .app i e, st => (match st with
    | .Expr (.Call (.Attribute (.Name x p) m ap) [v] [] cp) pos => decide (m = "append") && (ap.endLine == cp.line) && nameB k i (.Name x p) && noStar v && chkE k e v
    | _ => false)
  | .ex e, st => (match st with
    | .Expr v pos => noComp v && chkE k e v
    | _ => false)
  | .ret e, st => (match st with
    | .Return (some v) pos => if fr then chkP k e v else chkE k e v
    | _ => false)
  | .retN, st => (match st with
    | .Return none pos => !fr
    | _ => false)
  | .ite q a b, st => (match st with
    | .If t x y pos => chkT k q t && chkSs k fr a x && chkSs k fr b y
    | _ => false)
  | .for tg it b, st => (match st with
    | .For t iter body [] pos => !k.hot && noSet iter && chkI k it t iter && chkG k tg t && chkSs k fr b body
    | _ => false)
  | .while n q b, st => (match st with
    | .While t body [] pos => chkT k q t && chkSs k fr b body
    | _ => false)
  | .raise n o, st => (match st, o with
    | .Raise (some (.Call (.Name x p) [.Constant (.str m) j p2] [] cp)) none pos, none => !k.hot && decide (k.exs.lookup x = some n) && k.exp n && glB k.sc x
    | _, _ => false)
  | .pass, st => (match st with
    | .Pass pos => true
    | _ => false)
  | .cont, st => (match st with
    | .Continue pos => true
    | _ => false)
  | .tryE b n i h, st => (match st, i with
    | .Try body [.ExceptHandler (some (.Name x np)) (some y) (b0 :: suite) pos'] [] [] pos, some i => !k.hot && !fr && slotB k i y && decide (k.sc.names.lookup y = some .local) && decide (k.exs.lookup x = some n) && glB k.sc x && chkSs k fr b body && chkSs (hotK k) fr h (b0 :: suite)
    | _, _ => false)
def chkSs (k : Ct) (fr : Bool) : Ss → List Stmt → Bool
  | .nil, [] => true
  | .cons a r, st :: rest => chkS k fr a st && chkSs k fr r rest
  | _, _ => false
end
section
variable {X : Cx} {Γ : Fm} {W : WX} {c : Cn} {fr : Bool} {k : Ct}
theorem compP_ok {tg : Tg} {it : It} {cs : Es} {el : E} {x : Expr} (K : CtOk X Γ W c k) (h : chkE k (.comp tg it cs el) x = true) : PE X x (semP Γ W c (.comp tg it cs el)) := by
  unfold chkE at h
  split at h
  · simp only [Bool.and_eq_true] at h
    obtain ⟨⟨⟨⟨⟨⟨h1, h2⟩, h3⟩, h4⟩, h5⟩, h6⟩, h7⟩ := h
    obtain ⟨b1, b2⟩ := blk_of h3
    cases hh : k.hot with
    | false =>
      rw [hh] at h4
      simp only [Bool.false_eq_true, if_false] at h4
      exact pe_comp (K.calm hh) K.nd (chkI_ok it K _ _ h4) (by rw [K.N, K.sc]; exact b1) b2 (fun D s H C cl fp => chkG_ok (K.blk hh D s H C cl fp) tg _ h5) (fun D s H C cl fp => chkCs_ok cs (K.blk hh D s H C cl fp) _ h6) (fun D s H C cl fp => chkE_ok el (K.blk hh D s H C cl fp) _ h7) (fold_of h2)
    | true =>
      rw [hh] at h4 h1
      simp only [if_true] at h4
      have h1 : it.plain = true := by simpa using h1
      obtain ⟨ax, oe, nx, dd, q1, q2, q3, q4, q5, q6⟩ := K.hotc hh
      have q : Γ.G.xc = some (ax, nx, dd) ∧ L2H.Hot1 X.A (ax, oe) ∧ L2N.Zn (.ref (Γ.G.ec nx)) dd oe ∧ (∃ vs, oe.data = .fields vs) ∧ nx < c.nx := ⟨q1, q3, q4, q5, q6⟩
      exact pe_compH q3 q2 K.nd (pi_plainH K.hK h1 (chkIA_ok it K _ h4)) (by rw [K.N, K.sc]; exact b1) b2 (fun D s H C cl fp => chkG_ok (K.blkh hh q D s H C cl fp) tg _ h5) (fun D s H C cl fp => chkCs_ok cs (K.blkh hh q D s H C cl fp) _ h6) (fun D s H C cl fp => chkE_ok el (K.blkh hh q D s H C cl fp) _ h7) (fold_of h2)
  · cases h
theorem chkP_ok {e : E} {x : Expr} (K : CtOk X Γ W c k) (h : chkP k e x = true) : PE X x (semP Γ W c e) := by
  unfold chkP at h
  split at h
  · exact compP_ok K h
  · split at h
    · rename_i a _ es _
      simp only [Bool.and_eq_true] at h
      have hb : a.bs = [] := by simpa using h.1
      have A := chkAs_ok a K es h.2
      refine (pe_lst A.pa).weak fun σ H Q ⟨s, e0, hq⟩ => ?_
      rw [evalE] at hq
      refine tAs_run _ s H _ e0 ?_
      cases q : evalAs c _ s with
      | bad => rw [q] at hq; exact hq
      | err x s1 => rw [q] at hq; exact hq
      | ok ds s1 =>
        rw [q] at hq
        have hq : SemP Γ W (ofO (opD .lst ds) s1) s σ H Q := hq
        intro vs H1 e1 t1 r1
        have rr := r1.strong hb
        unfold opD at hq
        simp only at hq
        by_cases hl : decide (ds.length ≤ lim) = true
        · have hq : SemP Γ W (.ok (.lst ds) s1) s σ H Q := by
            unfold guardO at hq
            rw [if_pos hl] at hq
            exact hq
          refine ⟨by rw [← rr.len]; exact Nat.le_trans (of_decide_eq_true hl) (by rw [sizeLine_eq]; exact Nat.le_refl _), fun p hp => ?_⟩
          exact hq p ds vs _ rfl (none_back t1 hp) upd_same (e1.addNew hp) (t1.trans (Step.grow fun b u h => upd_keep hp b u h)) (Reps.mono (fun b u h _ _ => upd_keep hp b u h) (fun b hb => hb.unadd.elim (fun z => .inr (by rw [z]; exact hp)) .inl) _ _ rr)
        · unfold guardO at hq
          rw [if_neg hl] at hq
          exact hq.elim
    · cases h
  · simp only [Bool.and_eq_true] at h
    obtain ⟨hf, h⟩ := h
    unfold chkE at h
    split at h
    · simp only [Bool.and_eq_true, decide_eq_true_eq, Bool.not_eq_true'] at h
      obtain ⟨⟨⟨⟨h1, h2⟩, h3⟩, h4⟩, h5⟩ := h
      exact call_ok (b := true) K h1 (fun _ => hf) h2 h3 h4 (chkAs_ok _ K _ h5)
    · cases h
  · cases h
theorem asg_ok {i : Nat} {o : Bool} {e : E} {x : Str} {v : Expr} {p pos : Pos} (K : CtOk X Γ W c k) (h : chkS k fr (.asg i o e) (.Assign [.Name x p] v pos) = true) : PS X (.Assign [.Name x p] v pos) (semS Γ W c fr (.asg i o e)) := by
  simp only [chkS, Bool.and_eq_true] at h
  obtain ⟨⟨⟨h1, h2⟩, h3⟩, h4⟩ := h
  obtain ⟨n1, _, _⟩ := K.slot h1
  obtain ⟨l1, l2⟩ := K.loc h2
  have he : PE X v (semR Γ W c o e) := by
    cases o with
    | true => exact chkP_ok K h3
    | false => exact chkE_ok e K v h3
  cases hv : noComp v with
  | true => exact (ps_set K.nd n1 l1 he (swaps_no hv) l2).weak fun D σ H h => asg_read h
  | false =>
    rw [hv, Bool.false_or] at h4
    cases e with
    | comp tg it cs el =>
      have hc : chkE k (.comp tg it cs el) v = true := by
        cases o with
        | true => exact h3
        | false => exact h3
      unfold chkE at hc
      split at hc
      · rename_i elt tge iter ifs scope cpos
        refine ⟨fun pins s σ H D I hq => ?_⟩
        have kd : X.env.scope.kind = .function := I.ok.kind
        cases hsw : swB X.env.scope x p (.ListComp elt [⟨tge, iter, ifs, 0⟩] scope cpos) with
        | false => exact (ps_set K.nd n1 l1 he (by rw [swaps_lc kd, hsw]) l2).run pins s σ H D I (asg_read hq)
        | true =>
          simp only [Bool.and_eq_true] at hc
          obtain ⟨⟨⟨⟨⟨⟨g1, g2⟩, g3⟩, g4⟩, g5⟩, g6⟩, g7⟩ := hc
          obtain ⟨b1, b2⟩ := blk_of g3
          have hloc : X.env.scope.names.lookup x = some .local := by
            unfold swB at hsw
            simp only [Bool.and_eq_true, decide_eq_true_eq] at hsw
            exact hsw.1.1
          have hp : PS X (.Assign [.Name x p] (.ListComp elt [⟨tge, iter, ifs, 0⟩] scope cpos) pos) (tAsg (semP Γ W c (.comp tg it cs el)) (gName i)) := by
            cases hh : k.hot with
            | false =>
              rw [hh] at g4
              simp only [Bool.false_eq_true, if_false] at g4
              exact ps_comp (W := W) (spos := pos) (K.calm hh) K.nd (chkI_ok it K _ _ g4) (by rw [K.N, K.sc]; exact b1) b2 n1 hloc (by rw [swaps_lc (l := pos.line) kd, hsw]) (fun D s H C cl fp => chkG_ok (K.blk hh D s H C cl fp) tg _ g5) (fun D s H C cl fp => chkCs_ok cs (K.blk hh D s H C cl fp) _ g6) (fun D s H C cl fp => chkE_ok el (K.blk hh D s H C cl fp) _ g7) (fold_of g2)
            | true =>
              rw [hh] at g4 g1
              simp only [if_true] at g4
              have g1 : it.plain = true := by simpa using g1
              obtain ⟨ax, oe, nx, dd, q1, q2, q3, q4, q5, q6⟩ := K.hotc hh
              have q : Γ.G.xc = some (ax, nx, dd) ∧ L2H.Hot1 X.A (ax, oe) ∧ L2N.Zn (.ref (Γ.G.ec nx)) dd oe ∧ (∃ vs, oe.data = .fields vs) ∧ nx < c.nx := ⟨q1, q3, q4, q5, q6⟩
              exact ps_compH (W := W) (spos := pos) q3 q2 K.nd (pi_plainH K.hK g1 (chkIA_ok it K _ g4)) (by rw [K.N, K.sc]; exact b1) b2 n1 hloc (by rw [swaps_lc (l := pos.line) kd, hsw]) (fun D s H C cl fp => chkG_ok (K.blkh hh q D s H C cl fp) tg _ g5) (fun D s H C cl fp => chkCs_ok cs (K.blkh hh q D s H C cl fp) _ g6) (fun D s H C cl fp => chkE_ok el (K.blkh hh q D s H C cl fp) _ g7) (fold_of g2)
          refine hp.run pins s σ H D I ?_
          have hr := asg_read hq
          cases o with
          | true => exact hr
          | false => exact semP_of hr
      · cases hc
    | _ => cases h4
theorem assign_sub {o b : Expr} {p : Pos} {env : Env} (h : plainSl b = true) : ∀ v, assign (.Subscript o b p) env v = (do
    let ov ← holding [v] (eval o env)
    let iv ← holding [v, ov] (eval b env)
    standAt p
    holding [v, ov, iv] (setItem ov iv v)
    release [v, ov, iv] []) := by
  intro v
  cases b <;> first | rfl | (simp [plainSl] at h)
theorem swapsSole_no {t v : Expr} {l : Nat} {env : Env} (h : noComp v = true) : swapsWithSole [t] v l env = pure false := swaps_no h
theorem swapped_sub {o b v : Expr} {p : Pos} {env : Env} : swappedStores [.Subscript o b p] v env = pure none := by cases v <;> rfl
theorem bs_of {a : As} (h : a.bs.isEmpty = true) : a.bs = [] := by simpa using h
theorem tup_ok {tg : Tg} {e : E} {t v : Expr} {pos : Pos} (K : CtOk X Γ W c k) (h : chkS k fr (.tup tg e) (.Assign [t] v pos) = true) : PS X (.Assign [t] v pos) (semS Γ W c fr (.tup tg e)) := by
  simp only [chkS, Bool.and_eq_true] at h
  obtain ⟨⟨⟨⟨h1, h2⟩, h3⟩, h4⟩, h5⟩ := h
  refine ⟨fun pins s σ H D I hq => ?_⟩
  have kd : X.env.scope.kind = .function := I.ok.kind
  have hst : noStar t = true := by cases t <;> first | rfl | (simp at h1)
  have hw : swappedStores [t] v X.env = pure none := by
    cases t with
    | Tuple ts kt pt =>
      cases v with
      | Tuple vs k2 p2 =>
        simp only [tupV] at h5
        split at h5
        · rename_i q
          exact swT_ok kd (by rw [K.sc]; exact q)
        · cases h5
      | _ => rfl
    | _ => simp at h1
  exact (ps_asg (chkE_ok e K v h3) (chkG_ok K tg t h2) (show swapsWith v (some t) pos.line X.env = pure false from swaps_no h4) hw (by rw [assign_star hst]; rfl)).run pins s σ H D I (tup_read hq)
end
mutual
theorem chkS_ok : ∀ (t : S) {X : Cx} {Γ : Fm} {W : WX} {c : Cn} {fr : Bool} {k : Ct} (T : StOk X Γ W c k) (st : Stmt), chkS k fr t st = true → PS X st (semS Γ W c fr t)
  | .asg i o e, X, Γ, W, c, fr, k, T, st, h => by
    have h0 := h
    unfold chkS at h
    split at h
    · exact asg_ok T.ct h0
    · cases h
  | .par is a, X, Γ, W, c, fr, k, T, st, h => by
    unfold chkS at h
    split at h
    · simp only [Bool.and_eq_true, Bool.not_eq_true'] at h
      obtain ⟨hh, h⟩ := h
      split at h
      · simp only [Bool.and_eq_true, decide_eq_true_eq, Bool.not_eq_true', decide_eq_false_iff_not] at h
        obtain ⟨⟨⟨⟨⟨⟨⟨h1, h2⟩, h3⟩, h4⟩, h5⟩, h6⟩, h7⟩, h8⟩ := h
        obtain ⟨n1, _, _⟩ := T.ct.slot h1
        obtain ⟨n2, _, _⟩ := T.ct.slot h2
        refine ⟨fun pins s σ H D I hq => ?_⟩
        have kd : X.env.scope.kind = .function := I.ok.kind
        exact (ps_par (T.ct.calm hh) T.ct.nd n1 n2 h3 (by rw [T.ct.sc]; exact h4) (by rw [T.ct.sc]; exact h5) (chkAs_ok a T.ct _ h7).pa (swT_ok kd (by rw [T.ct.sc]; exact h8))).run pins s σ H D I (par2_read (bs_of h6) h3 hq)
      · cases h
    · cases h
  | .tup tg e, X, Γ, W, c, fr, k, T, st, h => by
    have h0 := h
    unfold chkS at h
    split at h
    · exact tup_ok T.ct h0
    · cases h
  | .sub i j e, X, Γ, W, c, fr, k, T, st, h => by
    unfold chkS at h
    split at h
    · simp only [Bool.and_eq_true] at h
      obtain ⟨⟨⟨⟨h1, h2⟩, h3⟩, h4⟩, h5⟩ := h
      refine (ps_asg (chkE_ok e T.ct _ h4) (pg_sub (name_ok T.ct h1) (chkE_ok j T.ct _ h3) set_list (assign_sub h2)) (swapsSole_no h5) (swapped_sub) rfl).weak fun D σ H hq => sub_read hq
    · cases h
  | .app i e, X, Γ, W, c, fr, k, T, st, h => by
    unfold chkS at h
    split at h
    · simp only [Bool.and_eq_true, decide_eq_true_eq] at h
      obtain ⟨⟨⟨⟨h1, h2⟩, h3⟩, h4⟩, h5⟩ := h
      subst h1
      refine (ps_expr (pe_bm PySem.F.plainAttrs_list PySem.F.slot_list_append PySem.F.type_list_append mt_append (name_ok T.ct h3) (pa_cons (chkE_ok e T.ct _ h5) pa_nil (star_of h4)) (base_of rfl) (by rw [star_of h4]; rfl) h2 (star_of h4) rfl) rfl).weak fun D σ H hq => app_read hq
    · cases h
  | .ex e, X, Γ, W, c, fr, k, T, st, h => by
    unfold chkS at h
    split at h
    · simp only [Bool.and_eq_true] at h
      exact (ps_expr (chkE_ok e T.ct _ h.2) (swaps_no h.1)).weak fun D σ H hq => ex_read hq
    · cases h
  | .ret e, X, Γ, W, c, fr, k, T, st, h => by
    unfold chkS at h
    split at h
    · rename_i v pos
      have he : PE X v (semR Γ W c fr e) := by
        cases fr with
        | true => exact chkP_ok T.ct h
        | false => exact chkE_ok e T.ct _ h
      exact (ps_ret he).weak fun D σ H hq => ret_read hq
    · cases h
  | .retN, X, Γ, W, c, fr, k, T, st, h => by
    unfold chkS at h
    split at h
    · have hf : fr = false := by simpa using h
      subst hf
      exact ps_retN.weak fun D σ H hq => retN_read hq
    · cases h
  | .ite q a b, X, Γ, W, c, fr, k, T, st, h => by
    unfold chkS at h
    split at h
    · simp only [Bool.and_eq_true] at h
      exact (ps_if (chkT_ok q T.ct _ h.1.1) (chkSs_ok a T _ h.1.2) (chkSs_ok b T _ h.2)).weak fun D σ H hq => ite_read hq
    · cases h
  | .for tg it b, X, Γ, W, c, fr, k, T, st, h => by
    unfold chkS at h
    split at h
    · simp only [Bool.and_eq_true, Bool.not_eq_true'] at h
      obtain ⟨⟨⟨⟨h1, h2⟩, h3⟩, h4⟩, h5⟩ := h
      exact (ps_for T.po (T.ct.calm h1) (chkI_ok it T.ct _ _ h3) (chkG_ok T.ct tg _ h4) (chkSs_ok b T _ h5) (fold_of h2)).weak fun D σ H hq => for_read hq
    · cases h
  | .while n q b, X, Γ, W, c, fr, k, T, st, h => by
    unfold chkS at h
    split at h
    · simp only [Bool.and_eq_true] at h
      exact (ps_while T.po (chkT_ok q T.ct _ h.1) (chkSs_ok b T _ h.2)).weak fun D σ H hq => while_read hq
    · cases h
  | .raise n o, X, Γ, W, c, fr, k, T, st, h => by
    unfold chkS at h
    split at h
    · simp only [Bool.and_eq_true, decide_eq_true_eq, Bool.not_eq_true'] at h
      obtain ⟨⟨⟨h1, h2⟩, h3⟩, h4⟩ := h
      exact raise_ok T.ct h1 h2 h3 h4
    · cases h
  | .pass, X, Γ, W, c, fr, k, T, st, h => by
    unfold chkS at h
    split at h
    · exact ps_pass.weak fun D σ H ⟨s, e0, hq⟩ => by
        rw [PI.exec] at hq
        exact nx_s e0 hq
    · cases h
  | .cont, X, Γ, W, c, fr, k, T, st, h => by
    unfold chkS at h
    split at h
    · exact ps_continue.weak fun D σ H ⟨s, e0, hq⟩ => by
        rw [PI.exec] at hq
        exact hq σ H e0 Step.refl
    · cases h
  | .tryE b n i h', X, Γ, W, c, fr, k, T, st, h => by
    unfold chkS at h
    split at h
    · simp only [Bool.and_eq_true, decide_eq_true_eq, Bool.not_eq_true'] at h
      obtain ⟨⟨⟨⟨⟨⟨⟨h1, h2⟩, h3⟩, h4⟩, h5⟩, h6⟩, h7⟩, h8⟩ := h
      obtain ⟨n1, _, _⟩ := T.ct.slot h3
      obtain ⟨g1, g2⟩ := T.ct.gl h6
      obtain ⟨e1, _, _, _⟩ := T.ct.exs _ _ h5
      have x0 := T.ct.xc0 h1
      refine (L2N.ps_try_as (c := .ref (Γ.G.ec n)) (tb := fun W D => semSs Γ W c fr b D) (ts := tSuite Γ c fr h') (Wout := W) T.st T.fm T.ct.nd n1 (by show X.env.scope.names.lookup _ = _; rw [T.ct.sc]; exact h4) ⟨g1, g2, .inl e1⟩ T.ct.tk
        (fun W' pn xe tk po => chkSs_ok b (T.tr h1 tk po) _ h7) (fun a oe cls dd pn hz hd => ?_)).weak fun D σ H hq => try_read h2 x0 T.ct.exm hq
      refine ⟨fun pins s σ H D I ⟨m, hm, hlt, hq⟩ => ?_⟩
      subst hm
      exact (chkSs_ok h' (T.suite x0 hlt hz hd) _ h8).run pins s σ H D I hq
    · cases h
theorem chkSs_ok : ∀ (t : Ss) {X : Cx} {Γ : Fm} {W : WX} {c : Cn} {fr : Bool} {k : Ct} (T : StOk X Γ W c k) (st : List Stmt), chkSs k fr t st = true → PSs X st (semSs Γ W c fr t)
  | .nil, X, Γ, W, c, fr, k, T, st, h => by
    match st, h with
    | [], h => exact pss_nil.weak fun D σ H hq => semSs_nil hq
    | _ :: _, h => simp [chkSs] at h
  | .cons a r, X, Γ, W, c, fr, k, T, st, h => by
    match st, h with
    | x :: rest, h =>
      simp only [chkSs, Bool.and_eq_true] at h
      exact (pss_cons (chkS_ok a T x h.1) (chkSs_ok r T rest h.2)).weak fun D σ H hq => semSs_cons hq
    | [], h => simp [chkSs] at h
end
end PI

set_option linter.all false
set_option maxRecDepth 100000
set_option maxHeartbeats 2000000
/-! P14: defs. -/
namespace PI
open PySem PySem.Spec PyProof.Rows L2
section
variable {G : Gm} {H H' : Hp} {M M' : Addr → Prop} {Γ : Fm} {σ σ' : L2.St} {s s' : Sl}
/-- at a def's entry -/
theorem start_slot : ∀ (io : List Bool) (ds : List D) (vs : List V) (N : Nat) (n : Nat), ArgsOk G H M io ds vs → ∀ i, (getS (List.zipWith argS io ds ++ List.replicate n .no) i = .no) ∨
    (∃ d v, getS (List.zipWith argS io ds ++ List.replicate n .no) i = .fz d ∧ (vs.map some ++ List.replicate N none).getD i none = some v ∧ Rep G H M d v) ∨
    (∃ d a, io[i]? = some true ∧ vs[i]? = some (V.ref a) ∧ getS (List.zipWith argS io ds ++ List.replicate n .no) i = .ino d ∧ (vs.map some ++ List.replicate N none).getD i none = some (.ref a) ∧ M a ∧ Cont G H M d a)
  | [], ds, vs, N, n, h, i => by
    obtain ⟨rfl, rfl⟩ := h
    left
    show getS (List.replicate n .no) i = .no
    unfold getS
    rw [List.getD_eq_getElem?_getD, List.getElem?_replicate]
    split <;> rfl
  | false :: r, ds, vs, N, n, ⟨d, t, v, u, e1, e2, h1, h2⟩, i => by
    subst e1 e2
    cases i with
    | zero => exact .inr (.inl ⟨d, v, rfl, rfl, h1⟩)
    | succ i => exact start_slot r t u N n h2 i
  | true :: r, ds, vs, N, n, ⟨d, t, a, u, e1, e2, h1, hc, h2⟩, i => by
    subst e1 e2
    cases i with
    | zero => exact .inr (.inr ⟨d, a, rfl, rfl, rfl, rfl, h1, hc⟩)
    | succ i => exact start_slot r t u N n h2 i
theorem args_len : ∀ (io : List Bool) (ds : List D) (vs : List V), ArgsOk G H M io ds vs → ds.length = io.length ∧ vs.length = io.length
  | [], ds, vs, h => by obtain ⟨rfl, rfl⟩ := h; exact ⟨rfl, rfl⟩
  | false :: r, ds, vs, ⟨d, t, v, u, e1, e2, h1, h2⟩ => by
    subst e1 e2
    obtain ⟨q1, q2⟩ := args_len r t u h2
    exact ⟨by rw [List.length_cons, List.length_cons, q1], by rw [List.length_cons, List.length_cons, q2]⟩
  | true :: r, ds, vs, ⟨d, t, a, u, e1, e2, h1, hc, h2⟩ => by
    subst e1 e2
    obtain ⟨q1, q2⟩ := args_len r t u h2
    exact ⟨by rw [List.length_cons, List.length_cons, q1], by rw [List.length_cons, List.length_cons, q2]⟩
theorem start_env {f : Fn} {N : List Str} {ds : List D} {vs : List V} (hn : f.n = N.length) (hl : f.io.length ≤ f.n) (hM : ∀ a, M a → H a ≠ none) (ht : Tabz G H) (ha : ArgsOk G H M f.io ds vs) (hp : Apart f.io vs) :
    EnvOk ⟨G, H, M, fun _ => False⟩ H (L2.start N vs) (startS f ds) ∧ ∀ a, Ch (L2.start N vs) (startS f ds) a → Owns f.io vs a := by
  obtain ⟨l1, l2⟩ := args_len f.io ds vs ha
  have hs := start_slot f.io ds vs (N.length - vs.length) (f.n - ds.length) ha
  have mm : ∀ a, MM ⟨G, H, M, fun _ => False⟩ (L2.start N vs) (startS f ds) a → M a := fun a h => by
    rcases h with (h | h) | ⟨i, h1, h2⟩
    · exact h
    · exact h.elim
    · exfalso
      have h2 : (getS (List.zipWith argS f.io ds ++ List.replicate (f.n - ds.length) .no) i).mine = true := h2
      rcases hs i with q | ⟨d, v, q, _⟩ | ⟨d, a', _, _, q, _⟩ <;> rw [q] at h2 <;> cases h2
  refine ⟨⟨?_, fun i => ?_, fun i j a h1 h2 h3 h4 => ?_, fun a h => h.elim (hM a) False.elim, ⟨fun a h => h, fun a o h _ _ => h⟩, ht⟩, fun a ⟨i, h1, h2⟩ => ?_⟩
  · unfold L2.start startS
    rw [List.length_append, List.length_append, List.length_map, List.length_replicate, List.length_replicate, List.length_zipWith]
    omega
  · show SlotOk _ _ _ (getS (List.zipWith argS f.io ds ++ List.replicate (f.n - ds.length) .no) i) ((vs.map some ++ List.replicate (N.length - vs.length) none).getD i none)
    rcases hs i with q | ⟨d, v, q, e, r⟩ | ⟨d, a, _, _, q, e, ma, cc⟩
    · rw [q]; trivial
    · rw [q, e]; exact ⟨v, rfl, Rep.mono (fun _ _ h _ _ => h) (fun b hb => .inl (mm b hb)) d v r⟩
    · rw [q, e]; exact ⟨a, rfl, ⟨ma, fun z => z⟩, cc.mono (fun _ _ h _ _ => h) (fun b hb => .inl (mm b hb)) (fun _ h _ => h)⟩
  · have h1 : (getS (List.zipWith argS f.io ds ++ List.replicate (f.n - ds.length) .no) i).held = true := h1
    have h2 : (getS (List.zipWith argS f.io ds ++ List.replicate (f.n - ds.length) .no) j).held = true := h2
    have h3 : (vs.map some ++ List.replicate (N.length - vs.length) none).getD i none = some (.ref a) := h3
    have h4 : (vs.map some ++ List.replicate (N.length - vs.length) none).getD j none = some (.ref a) := h4
    rcases hs i with q | ⟨d, v, q, _⟩ | ⟨d, a1, i1, v1, q, e1, _⟩
    · rw [q] at h1; cases h1
    · rw [q] at h1; cases h1
    · rcases hs j with q' | ⟨d', v', q', _⟩ | ⟨d', a2, i2, v2, q', e2, _⟩
      · rw [q'] at h2; cases h2
      · rw [q'] at h2; cases h2
      · rw [e1] at h3; cases h3
        rw [e2] at h4; cases h4
        exact hp i j a i1 i2 v1 v2
  · have h1 : (vs.map some ++ List.replicate (N.length - vs.length) none).getD i none = some (.ref a) := h1
    have h2 : (getS (List.zipWith argS f.io ds ++ List.replicate (f.n - ds.length) .no) i).mut = true := h2
    rcases hs i with q | ⟨d, v, q, _⟩ | ⟨d, a1, i1, v1, q, e1, _⟩
    · rw [q] at h2; cases h2
    · rw [q] at h2; cases h2
    · rw [e1] at h1; cases h1
      exact ⟨i, i1, v1⟩
/-- what the in-outs are at the end -/
theorem outs_end : ∀ (io : List Bool) (ds : List D) (vs : List V) (n N k : Nat) (s' : Sl) (σ' : L2.St) (outs : List D), ArgsOk G H M io ds vs → outS io s' = some outs →
    (∀ i d, getS (List.zipWith argS io ds ++ List.replicate n .no) i = .ino d → σ'.getD i none = (vs.map some ++ List.replicate N none).getD i none) → (∀ i d, getS s' i = .ino d → ∃ a, σ'.getD i none = some (.ref a) ∧ Cont G H' M' d a) → OutsOk G H' M' io outs vs
  | [], ds, vs, n, N, k, s', σ', outs, ⟨e1, e2⟩, ho, hf, hs => by
    subst e1 e2
    simp only [outS] at ho
    cases ho
    exact ⟨rfl, rfl⟩
  | false :: r, ds, vs, n, N, k, s', σ', outs, ⟨d, t, v, u, e1, e2, h1, h2⟩, ho, hf, hs => by
    subst e1 e2
    cases s' with
    | nil => simp [outS] at ho
    | cons x s' =>
      have ho : outS r s' = some outs := by simpa [outS] using ho
      refine ⟨v, u, rfl, outs_end r t u n N k s' σ'.tail outs h2 ho (fun i d hi => ?_) (fun i d hi => ?_)⟩
      · have := hf (i + 1) d hi
        cases σ' with
        | nil => exact this
        | cons y σ' => exact this
      · have := hs (i + 1) d hi
        cases σ' with
        | nil => exact this
        | cons y σ' => exact this
  | true :: r, ds, vs, n, N, k, s', σ', outs, ⟨d, t, a, u, e1, e2, h1, hc, h2⟩, ho, hf, hs => by
    subst e1 e2
    cases s' with
    | nil => simp [outS] at ho
    | cons x s' =>
      cases x with
      | ino d' =>
        have ho : (outS r s').map (d' :: ·) = some outs := by simpa [outS] using ho
        obtain ⟨o', ho', rfl⟩ := Option.map_eq_some_iff.mp ho
        obtain ⟨a', q1, q2⟩ := hs 0 d' rfl
        have q3 := hf 0 d rfl
        rw [q1] at q3
        have q3 : (some (V.ref a')) = some (V.ref a) := q3
        cases q3
        refine ⟨d', o', a, u, rfl, rfl, q2, outs_end r t u n N k s' σ'.tail o' h2 ho' (fun i d hi => ?_) (fun i d hi => ?_)⟩
        · have := hf (i + 1) d hi
          cases σ' with
          | nil => exact this
          | cons y σ' => exact this
        · have := hs (i + 1) d hi
          cases σ' with
          | nil => exact this
          | cons y σ' => exact this
      | _ => simp [outS] at ho
end
end PI

set_option linter.all false
set_option maxRecDepth 100000
set_option maxHeartbeats 2000000
/-! P14b: a def keeps its promise. -/
namespace PI
open PySem PySem.Spec PyProof.Rows L2
section
variable {G : Gm} {H H' : Hp} {M M' : Addr → Prop} {σ σ' : L2.St} {s s' : Sl}
theorem fn_sem {c : Cn} {f : Fn} {N : List Str} {ds : List PI.D} {vs : List V} {Q : VK} {E : XK} (hn : f.n = N.length) (hM : ∀ a, M a → H a ≠ none) (ht : Tabz G H) (ha : ArgsOk G H M f.io ds vs) (hp : Apart f.io vs)
    (hq : match runFn c f ds with
      | .ok d outs => Ret G H M f.io vs outs d Q f.fr
      | .err x outs => ∀ cls dd H', Post G H M f.io vs outs H' → OutsOk G H' M f.io outs vs → RepX G H' M x cls dd → E cls dd H'
      | .bad => False) :
    semSs ⟨G, H, M, fun _ => False⟩ (WofE E) c f.fr f.code { nx := fun _ H' => Q .non H', rt := Q } (L2.start N vs) H := by
  unfold runFn at hq
  by_cases hc : (decide (ds.length = f.io.length) && decide (f.io.length ≤ f.n)) = true
  case neg => rw [if_neg hc] at hq; exact hq.elim
  rw [if_pos hc] at hq
  simp only [Bool.and_eq_true, decide_eq_true_eq] at hc
  obtain ⟨e0, hch⟩ := start_env hn hc.2 hM ht ha hp
  refine ⟨_, e0, ?_⟩
  have post : ∀ outs σ' s' H', EnvOk ⟨G, H, M, fun _ => False⟩ H' σ' s' → Step ⟨G, H, M, fun _ => False⟩ (L2.start N vs) (startS f ds) H σ' s' H' → Post G H M f.io vs outs H' := fun outs σ' s' H' e t =>
    ⟨fun a o h n nt => t.keep a o h (fun z => n (hch a z)) nt, t.dom, e.tab⟩
  have outs : ∀ outs σ' s' H' (M' : Addr → Prop), outS f.io s' = some outs → (∀ i d, getS s' i = .ino d → ∃ a, sAt σ' i = some (.ref a) ∧ Cont G H' M' d a) → Step ⟨G, H, M, fun _ => False⟩ (L2.start N vs) (startS f ds) H σ' s' H' → OutsOk G H' M' f.io outs vs := fun outs σ' s' H' M' ho hs t =>
    outs_end f.io ds vs (f.n - ds.length) (N.length - vs.length) 0 s' σ' outs ha ho (fun i d hi => ((t.fix i).1 d hi).1) hs
  have ino : ∀ (Γ : Fm) (M' : Addr → Prop) σ' s' H', Γ.G = G → (∀ b, M' b → MM Γ σ' s' b) → EnvOk Γ H' σ' s' → ∀ i d, getS s' i = .ino d → ∃ a, sAt σ' i = some (.ref a) ∧ Cont G H' M' d a := fun Γ M' σ' s' H' hG hm e i d hi => by
    have q := e.slot i
    rw [hi] at q
    obtain ⟨a, h1, _, h4⟩ := q
    rw [hG] at h4
    exact ⟨a, h1, h4.mono (fun _ _ h _ _ => h) (fun b hb => .inl (hm b hb)) (fun _ h _ => h)⟩
  cases qx : execs c f.code (startS f ds) with
  | bad => rw [qx] at hq; exact hq.elim
  | ct s1 => rw [qx] at hq; exact hq.elim
  | nx s1 =>
    rw [qx] at hq
    intro σ1 H1 e1 t1
    simp only [endS] at hq
    cases hfr : f.fr with
    | true => rw [hfr] at hq; exact hq.elim
    | false =>
      rw [hfr] at hq
      simp only [Bool.false_eq_true, if_false] at hq
      cases ho : outS f.io s1 with
      | none => rw [ho] at hq; exact hq.elim
      | some o =>
        rw [ho] at hq
        exact hq .non H1 (post o σ1 s1 H1 e1 t1) (outs o σ1 s1 H1 M ho (ino _ M σ1 s1 H1 rfl (fun b hb => .inl (.inl hb)) e1) t1) rfl
  | rt d s1 =>
    rw [qx] at hq
    simp only [endS] at hq
    cases ho : outS f.io s1 with
    | none => rw [ho] at hq; exact hq.elim
    | some o =>
      rw [ho] at hq
      have hq : Ret G H M f.io vs o d Q f.fr := hq
      show SemS _ _ f.fr (.rt d s1) _ _ _ _
      generalize f.fr = fr at hq
      cases fr with
      | false =>
        intro v σ1 H1 e1 t1 r1
        exact hq v H1 (post o σ1 s1 H1 e1 t1) (outs o σ1 s1 H1 M ho (ino _ M σ1 s1 H1 rfl (fun b hb => .inl (.inl hb)) e1) t1) (Rep.mono (fun _ _ h _ _ => h) (fun b hb => .inl (.inl (.inl hb))) d v r1)
      | true =>
        intro a ds' vs' σ1 H1 hd hna ha' e1 t1 r1
        have m1 : ∀ b, (b = a ∨ M b) → MM (Fm.add ⟨G, H, M, fun _ => False⟩ a) σ1 s1 b := fun b hb => hb.elim (fun z => .inl (.inr (.inl z))) (fun z => .inl (.inl z))
        exact hq a ds' vs' H1 (post o σ1 s1 H1 e1.unadd t1) (outs o σ1 s1 H1 _ ho (ino _ _ σ1 s1 H1 rfl m1 e1) t1) hd hna ha' (Reps.mono (fun _ _ h _ _ => h) (fun b hb => .inl (m1 b hb)) _ _ r1)
  | er x s1 =>
    rw [qx] at hq
    simp only [endS] at hq
    intro cls dd σ1 H1 e1 t1 r1
    cases ho : outS f.io s1 with
    | none => rw [ho] at hq; exact hq.elim
    | some o =>
      rw [ho] at hq
      obtain ⟨rc, rx⟩ := r1
      refine hq cls dd H1 (post o σ1 s1 H1 e1 t1) (outs o σ1 s1 H1 M ho (ino _ M σ1 s1 H1 rfl (fun b hb => .inl (.inl hb)) e1) t1) ⟨rc, rx.1, fun i hi => ?_⟩
      obtain ⟨q, fs, h1, h2, h3, h4⟩ := rx.2 i hi
      exact ⟨q, fs, h1, h2, fun z => h3 (.inl (.inl z)), h4⟩
end
/-! ### the program's data -/
structure Df where
  name : Str
  st : Stmt
  ps : List Str
  N : List Str
structure Pg where
  P : Prog
  df : List Df
  exn : List Str
  exp : List Bool
  cns : List (Str × D)
  /-- the defs that make lambdas -/
  hl : List Nat
def Pg.fns (p : Pg) : List (Str × Nat) := (p.df.map (·.name)).zipIdx
def Pg.isfn (p : Pg) (g : Nat) : Bool := match p.P.fs[g]? with
  | some f => !f.lam
  | none => false
def Pg.isl (p : Pg) (g : Nat) : Bool := match p.P.fs[g]? with
  | some f => f.lam
  | none => false
def Pg.io (p : Pg) (g : Nat) : List Bool := match p.P.fs[g]? with
  | some f => f.io
  | none => []
def Pg.fr (p : Pg) (g : Nat) : Bool := match p.P.fs[g]? with
  | some f => f.fr
  | none => false
def Pg.ct (p : Pg) (g : Nat) (d : Df) (lam : Bool) : Ct where
  sc := defScope d.st
  N := d.N
  fk := fun _ => true
  qual := d.name
  fns := p.fns
  exs := p.exn.zipIdx
  cns := p.cns
  io := p.io
  isfn := fun g => !lam && p.isfn g
  fr := p.fr
  isl := fun g => !lam && p.isl g
  exp := fun n => p.exp.getD n false
  hasl := p.hl.elem g
  th := if lam then d.ps.head? else none
def Df.lamScope (d : Df) : Bool := decide (d.ps.length = 1) && (match d.ps with
  | a :: _ => decide (d.N[0]? = some a) && visB (defScope d.st) a && !(a == ("__debug__" : Str)) && !(a == ("__classdict__" : Str))
  | [] => false)
def Pg.chk1 (p : Pg) (g : Nat) (d : Df) (f : Fn) : Bool :=
  C8.scC d.N d.ps (defScope d.st) && decide (f.n = d.N.length) && (if f.lam then f.io.isEmpty && !f.fr && d.lamScope else decide (f.io.length = d.ps.length)) && chkSs (p.ct g d f.lam) f.fr f.code (defBody d.st)
def Pg.chkL (p : Pg) : Nat → List Df → List Fn → Bool
  | _, [], [] => true
  | g, d :: ds, f :: fs => p.chk1 g d f && p.chkL (g + 1) ds fs
  | _, _, _ => false
def Pg.chk (p : Pg) : Bool := p.chkL 0 p.df p.P.fs
end PI

set_option linter.all false
set_option maxRecDepth 100000
set_option maxHeartbeats 2000000
/-! P14c: all defs of a program keep their promises. -/
namespace PI
open PySem PySem.Spec PyProof.Rows L2
section
variable {G : Gm} {H : Hp} {M : Addr → Prop} {l : Option Addr} {cd : Option (Addr × Str)}
mutual
theorem Rep.toL (h0 : G.lam = none) : ∀ (d : D) (v : V), Rep G H M d v → Rep { G with lam := l, cd := cd } H M d v
  | .non, v, h => h
  | .bl _, v, h => h
  | .int _, v, h => h
  | .str _, v, h => h
  | .tup ds, v, ⟨a, vs, e, q, r⟩ => ⟨a, vs, e, q, Reps.toL h0 ds vs r⟩
  | .lst ds, v, ⟨a, vs, e, q, r⟩ => ⟨a, vs, e, q, Reps.toL h0 ds vs r⟩
  | .scr _, v, h => h
  | .set _, v, h => h
  | .dic _ _, v, h => h
  | .fn _, v, h => h
  | .lam, v, ⟨f, q, e⟩ => by rw [h0] at q; cases q
  | .exc c x, v, h => h
theorem Reps.toL (h0 : G.lam = none) : ∀ (ds : List D) (vs : List V), Reps G H M ds vs → Reps { G with lam := l, cd := cd } H M ds vs
  | [], vs, h => h
  | d :: ds, vs, ⟨v, r, e, h1, h2⟩ => ⟨v, r, e, Rep.toL h0 d v h1, Reps.toL h0 ds r h2⟩
end
mutual
theorem Rep.ofL : ∀ (d : D) (v : V), d.nolam = true → Rep { G with lam := l, cd := cd } H M d v → Rep G H M d v
  | .non, v, n, h => h
  | .bl _, v, n, h => h
  | .int _, v, n, h => h
  | .str _, v, n, h => h
  | .tup ds, v, n, ⟨a, vs, e, q, r⟩ => ⟨a, vs, e, q, Reps.ofL ds vs (by simpa [D.nolam] using n) r⟩
  | .lst ds, v, n, ⟨a, vs, e, q, r⟩ => ⟨a, vs, e, q, Reps.ofL ds vs (by simpa [D.nolam] using n) r⟩
  | .scr _, v, n, h => h
  | .set _, v, n, h => h
  | .dic _ _, v, n, h => h
  | .fn _, v, n, h => h
  | .lam, v, n, _ => by simp [D.nolam] at n
  | .exc c x, v, n, h => h
theorem Reps.ofL : ∀ (ds : List D) (vs : List V), D.nolams ds = true → Reps { G with lam := l, cd := cd } H M ds vs → Reps G H M ds vs
  | [], vs, n, h => h
  | d :: ds, vs, n, ⟨v, r, e, h1, h2⟩ => by
    simp only [D.nolams, Bool.and_eq_true] at n
    exact ⟨v, r, e, Rep.ofL d v n.1 h1, Reps.ofL ds r n.2 h2⟩
end
end
/-- what the head tells of the program's objects -/
structure Hy (p : Pg) (w : World) (K : PySem.W.Frag) (mg : Str → Option Value) (base : Heap) (G : Gm) : Prop where
  hK : G.K = K
  xc : G.xc = none
  lam : G.lam = none
  cd : G.cd = none
  nm : ∀ (g : Nat) (d : Df), p.df[g]? = some d → mg d.name = some (.ref (G.ad g)) ∧ ∃ fd, FunD K d.name d.name (defArgs d.st) (defBody d.st) (defScope d.st) [] [] (G.ad g) fd ∧ Binds K fd d.ps []
  free : ∀ x ∈ bnames, mg x = none
  exs : ∀ (n : Nat) (x : Str), p.exn[n]? = some x → mg x = some (.ref (G.ec n)) ∧ PySem.W.keepIn K (.ref (G.ec n)) = true ∧ PySem.W.subIn K (.ref (G.ec n)) (.type "BaseException") = some true ∧ PySem.W.typeIn K (.ref (G.ec n)) = some (.type "type")
  exp : ∀ n, p.exp.getD n false = true → PySem.W.excIn K (G.ec n) [.type "ValueError", .type "Exception", .type "BaseException", .type "object"] "ValueError.__new__" = true
  exm : ∀ m n, m < p.P.nx → n < p.P.nx → PySem.W.exmOne K (.ref (G.ec m)) (.ref (G.ec n)) = some (n == 0 || m == n)
  isx : ∀ n, n < p.P.nx → ExcC K (G.ec n)
  kit : ∀ m n, m < p.P.nx → n < p.P.nx → PySem.W.kitOne K (.ref (G.ec m)) (.ref (G.ec n)) = some (n == 0 || m == n)
  exl : p.exn.length = p.P.nx
  cns : ∀ x d, p.cns.lookup x = some d → ∃ u v, mg x = some u ∧ RelV v u ∧ ∀ H M, Rep G H M d v ∧ ∀ l cd, Rep { G with lam := l, cd := cd } H M d v
  lt : ∀ (g : Nat) (d : Df), p.df[g]? = some d → p.hl.elem g = true → ∀ oc od fd osl, K.lookup (G.ad g) = some ⟨oc, od, .func fd, osl⟩ → ∃ cA P, fd.code = .ref cA ∧ LamX.TabB base mg cA P ∧ (P, (d.name ++ ".<locals>.") ++ "<lambda>") ∈ G.T ∧ ∀ q ∈ G.T, q.1 = P → q.2 = (d.name ++ ".<locals>.") ++ "<lambda>"
section
variable {p : Pg}
theorem chkL_get : ∀ (ds : List Df) (fs : List Fn) (k i : Nat) (f : Fn), p.chkL k ds fs = true → fs[i]? = some f → ∃ d, ds[i]? = some d ∧ p.chk1 (k + i) d f = true
  | [], [], k, i, f, h, e => by simp at e
  | d :: ds, f0 :: fs, k, 0, f, h, e => by
    simp at e
    subst e
    rw [Pg.chkL, Bool.and_eq_true] at h
    exact ⟨d, rfl, h.1⟩
  | d :: ds, f0 :: fs, k, i + 1, f, h, e => by
    rw [Pg.chkL, Bool.and_eq_true] at h
    obtain ⟨d', h1, h2⟩ := chkL_get ds fs (k + 1) i f h.2 (by simpa using e)
    exact ⟨d', by simpa using h1, by rw [show k + (i + 1) = k + 1 + i by omega]; exact h2⟩
  | [], _ :: _, k, i, f, h, e => by simp [Pg.chkL] at h
  | _ :: _, [], k, i, f, h, e => by simp [Pg.chkL] at h
theorem zipIdx_lookup {l : List Str} {x : Str} {n : Nat} (h : l.zipIdx.lookup x = some n) : l[n]? = some x := by
  have hm := PySem.mem_of_lookup h
  obtain ⟨h1, h2⟩ := List.mem_zipIdx' hm
  rw [List.getElem?_eq_getElem h1, ← h2]
theorem fns_get {x : Str} {g : Nat} (h : p.fns.lookup x = some g) : ∃ d, p.df[g]? = some d ∧ d.name = x := by
  have := zipIdx_lookup h
  rw [List.getElem?_map] at this
  obtain ⟨d, h1, h2⟩ := Option.map_eq_some_iff.mp this
  exact ⟨d, h1, h2⟩
theorem phi_bad {n g : Nat} {ds : List D} (h : p.isfn g = false) : Φ p.P n g ds = .bad := by
  cases n with
  | zero => rw [Φ]
  | succ n =>
    rw [Φ]
    unfold Pg.isfn at h
    split
    · rename_i f hf
      rw [hf] at h
      simp only [Bool.not_eq_false'] at h
      rw [if_pos h]
    · rfl
variable {w : World} {K : PySem.W.Frag} {mg : Str → Option Value} {base : Heap} {G : Gm}
/-- the context of a def's body -/
theorem ct_of (Y : Hy p w K mg base G) {P : Program} {X : Cx} {W : WX} {g : Nat} {d : Df} {n : Nat} {c : Cn} {lam : Bool} {H0 : Hp} {M0 P0 : Addr → Prop} {l : Option Addr} {cd : Option (Addr × Str)} {oc : Value} {od : Option Addr} {fd : FuncData} {osl : Array (Option Value)}
    (hp : X.prog = P) (hw : X.w = w) (hK : X.K = K) (hm : X.mg = mg) (hb : X.base = base) (hs : X.env.scope = defScope d.st) (hN : X.N = d.N) (nd : d.N.Nodup) (hf : X.fn = fun _ => true) (hc : X.calm = true) (tk : L2N.Takes X W) (room : Room (3 * n + 2) X.A) (hd : p.df[g]? = some d)
    (lk : K.lookup (G.ad g) = some ⟨oc, od, .func fd, osl⟩) (hcode : X.env.code = fd.code) (hq : X.env.qual = d.name ++ ".<locals>.") (hnx : c.nx = p.P.nx) (hlv : c.lv = 3 * n)
    (cal : lam = false → l = none ∧ cd = none ∧ (∀ g, p.isfn g = true → ∃ fd ps, FnOk P w K mg base (L2N.CX P w) (3 * n) (G.ad g) fd ps (spF G (p.io g) (p.fr g) (c.call g)) ∧ Binds K fd ps [] ∧ PySem.W.keepIn K (.ref (G.ad g)) = true) ∧
      (∀ g ds, p.isfn g = false → c.call g ds = .bad) ∧ (∀ g m, c.noio g m = true → p.isfn g = true ∧ p.io g = List.replicate m false) ∧ (∀ g, p.isl g = true → LamDef P w K mg base G (3 * n) (G.ad g) (c.lam g)))
    (th : lam = true → (∀ g ds, c.call g ds = .bad) ∧ (∀ g m, c.noio g m = false) ∧ ∀ a, d.ps.head? = some a → ∀ (W' : WX) (pn : List (Addr × Obj)) (xe : Value → Shared → Prop), L2N.Takes (X.tr pn xe) W' → ∀ p1 p2, PE (X.tr pn xe) (.Call (.Name a p1) [] [] p2) (semE ⟨{ G with lam := l, cd := cd }, H0, M0, P0⟩ W' c .thunk)) :
    CtOk X ⟨{ G with lam := l, cd := cd }, H0, M0, P0⟩ W c (p.ct g d lam) := by
  subst hp hw hK hm hb
  have gq : ∀ {l : Option Addr} {cd : Option (Addr × Str)}, l = none → cd = none → ({ G with lam := l, cd := cd } : Gm) = G := fun h1 h2 => by
    have e1 := Y.lam
    have e2 := Y.cd
    subst h1 h2
    obtain ⟨a1, a2, a3, a4, a5, a6, a7, a8⟩ := G
    simp only at e1 e2
    subst e1 e2
    rfl
  refine ⟨hs, hN, by rw [hN]; exact nd, by rw [hf]; rfl, Y.hK, fun _ => hc, tk, ?_, Y.free, fun x g' h => ?_, fun _ => ?_, fun _ g' h => ?_, fun g' ds h => ?_, fun g' m h => ?_, fun _ _ => ?_, fun _ g' h => ?_, fun h => ?_, fun x n' h => ?_, Y.exp, fun _ => Y.xc, fun m n' h1 h2 => Y.exm m n' (by rw [← hnx]; exact h1) (by rw [← hnx]; exact h2), fun x h W' pn xe tk' => ?_, fun x d' h => ?_, fun h => (by cases h), fun n' hn => Y.isx n' (by rw [← hnx]; exact hn), fun m n' h1 h2 => Y.kit m n' (by rw [← hnx]; exact h1) (by rw [← hnx]; exact h2), fun x n' h => ?_⟩
  · have := room.un; omega
  · obtain ⟨d', h1, h2⟩ := fns_get h
    obtain ⟨m1, fd', F, _⟩ := Y.nm g' d' h1
    rw [← h2]
    exact ⟨m1, F.kp⟩
  · rw [hlv]; exact room.mono (by omega)
  · cases lam with
    | true => cases h
    | false =>
      obtain ⟨e1, e2, h1, _⟩ := cal rfl
      have h : p.isfn g' = true := by simpa [Pg.ct] using h
      obtain ⟨fd', ps, q1, q2, q3⟩ := h1 g' h
      rw [hlv]
      refine ⟨fd', ps, ?_, q2, q3⟩
      show FnOk X.prog X.w X.K X.mg X.base (L2N.CX X.prog X.w) (3 * n) (G.ad g') fd' ps (spF { G with lam := l, cd := cd } _ _ _)
      rw [gq e1 e2]
      exact q1
  · cases lam with
    | true => exact (th rfl).1 g' ds
    | false =>
      have h : p.isfn g' = false := by simpa [Pg.ct] using h
      exact (cal rfl).2.2.2.1 g' ds h
  · cases lam with
    | true => rw [(th rfl).2.1] at h; cases h
    | false =>
      obtain ⟨q1, q2⟩ := (cal rfl).2.2.2.2.1 g' m h
      exact ⟨by simpa [Pg.ct] using q1, q2⟩
  · rw [hlv]; exact room
  · cases lam with
    | true => cases h
    | false =>
      obtain ⟨e1, e2, _⟩ := cal rfl
      have h : p.isl g' = true := by simpa [Pg.ct] using h
      have q := (cal rfl).2.2.2.2.2 g' h
      rw [hlv]
      show LamDef X.prog X.w X.K X.mg X.base { G with lam := l, cd := cd } (3 * n) (G.ad g') (c.lam g')
      rw [gq e1 e2]
      exact q
  · obtain ⟨cA, P', q1, q2, q3, q4⟩ := Y.lt g d hd h oc od fd osl lk
    exact ⟨cA, P', by rw [hcode]; exact q1, q2, by rw [hq]; exact q3, by rw [hq]; exact q4⟩
  · exact Y.exs n' x (zipIdx_lookup h)
  · cases lam with
    | true => exact (th rfl).2.2 x h W' pn xe tk'
    | false => cases h
  · obtain ⟨u, v, q1, q2, q3⟩ := Y.cns x d' h
    exact ⟨u, v, q1, q2, fun H M => (q3 H M).2 l cd⟩
  · have q := zipIdx_lookup h
    rw [hnx, ← Y.exl]
    exact (List.getElem?_eq_some_iff.mp q).1
end
end PI

set_option linter.all false
set_option maxRecDepth 100000
set_option maxHeartbeats 2000000
/-! P14d: all defs of a program keep their promises. -/
namespace PI
open PySem PySem.Spec PyProof.Rows L2
section
variable {p : Pg} {w : World} {K : PySem.W.Frag} {mg : Str → Option Value} {base : Heap} {G : Gm} {P : Program}
theorem isfn_get {g : Nat} (h : p.isfn g = true) : ∃ f, p.P.fs[g]? = some f ∧ f.lam = false := by
  unfold Pg.isfn at h
  split at h
  · rename_i f hf; exact ⟨f, hf, by simpa using h⟩
  · cases h
theorem isl_get {g : Nat} (h : p.isl g = true) : ∃ f, p.P.fs[g]? = some f ∧ f.lam = true := by
  unfold Pg.isl at h
  split at h
  · rename_i f hf; exact ⟨f, hf, h⟩
  · cases h
theorem noio_ok {g m : Nat} (h : noioF p.P g m = true) : p.isfn g = true ∧ p.io g = List.replicate m false := by
  unfold noioF at h
  unfold Pg.isfn Pg.io
  split at h
  · rename_i f hf
    try rw [hf]
    simp only [Bool.and_eq_true, Bool.not_eq_true', decide_eq_true_eq] at h
    obtain ⟨⟨h1, h2⟩, h3⟩ := h
    have : ∀ (l : List Bool), l.all (! ·) = true → l = List.replicate l.length false := by
      intro l
      induction l with
      | nil => intro _; rfl
      | cons b r ih =>
        intro h
        simp only [List.all_cons, Bool.and_eq_true, Bool.not_eq_true'] at h
        rw [List.length_cons, List.replicate_succ, ← ih h.2, h.1]
    refine ⟨by simp [h1], ?_⟩
    rw [← h3]
    exact this _ h2
  · cases h
theorem prog_ok (Y : Hy p w K mg base G) (hchk : p.chk = true) : ∀ n, (∀ g, p.isfn g = true → ∃ fd ps, FnOk P w K mg base (L2N.CX P w) (3 * n) (G.ad g) fd ps (spF G (p.io g) (p.fr g) (Φ p.P n g)) ∧ Binds K fd ps [] ∧ PySem.W.keepIn K (.ref (G.ad g)) = true ∧ (∀ d, p.df[g]? = some d → ps = d.ps) ∧ ∃ oc od osl, K.lookup (G.ad g) = some ⟨oc, od, .func fd, osl⟩) ∧
    ∀ g, p.isl g = true → LamDef P w K mg base G (3 * n) (G.ad g) (Ψ p.P n g) := by
  intro n
  induction n with
  | zero =>
    refine ⟨fun g hg => ?_, fun g hg => ?_⟩
    · obtain ⟨f, hf, hl⟩ := isfn_get hg
      obtain ⟨d, hd, _⟩ := chkL_get _ _ 0 g f hchk hf
      obtain ⟨_, fd, F, hb⟩ := Y.nm g d hd
      refine ⟨fd, d.ps, ⟨fun vs H Q E h => ?_, fun A outer s H args us vs Q E hr e0 b r h => ?_⟩, hb, F.kp, fun d' hd' => by rw [hd] at hd'; cases hd'; rfl, by
        obtain ⟨oc, od, _, _, _, _, _, _, _, osl, _, lk, _⟩ := F.ex
        exact ⟨oc, od, osl, lk⟩⟩
      · obtain ⟨M, ds, _, _, _, _, h⟩ := h
        rw [Φ] at h
        exact h.elim
      · obtain ⟨M, ds, _, _, _, _, h⟩ := h
        rw [Φ] at h
        exact h.elim
    · obtain ⟨f, hf, hl⟩ := isl_get hg
      obtain ⟨d, hd, hc⟩ := chkL_get _ _ 0 g f hchk hf
      obtain ⟨_, fd, F, hb⟩ := Y.nm g d hd
      obtain ⟨oc, od, dV, kV, doc, pm, an, cdv, ct, osl, rfl, lk, hcd, _, _⟩ := F.ex
      unfold Pg.chk1 at hc
      rw [hl] at hc
      simp only [Bool.and_eq_true, if_true] at hc
      obtain ⟨⟨⟨h1, h2⟩, ⟨h3, h4⟩, h5⟩, h6⟩ := hc
      unfold Df.lamScope at h5
      simp only [Bool.and_eq_true, decide_eq_true_eq] at h5
      obtain ⟨h51, h52⟩ := h5
      have S := C8.fnScope_by h1
      cases hps : d.ps with
      | nil => rw [hps] at h51; cases h51
      | cons a r =>
        have hr0 : r = [] := by rw [hps] at h51; simpa using h51
        subst hr0
        rw [hps] at h52 S hb
        simp only [Bool.and_eq_true, decide_eq_true_eq, Bool.not_eq_true'] at h52
        obtain ⟨⟨⟨g1, g2⟩, g3⟩, g4⟩ := h52
        refine ⟨d.name, a, d.N, _, _, _, _, _, _, _, _, _, _, _, _, _, lk, hcd, hb, S, g1, vis_of g2, g3, g4, ?_⟩
        intro A outer s H Q M f' c' q tr tl hr act hM hT hco law res
        rw [Ψ] at res
        exact res.elim
  | succ n ih =>
    obtain ⟨ih1, ih2⟩ := ih
    refine ⟨fun g hg => ?_, fun g hg => ?_⟩
    · obtain ⟨f, hf, hl⟩ := isfn_get hg
      obtain ⟨d, hd, hc⟩ := chkL_get _ _ 0 g f hchk hf
      rw [Nat.zero_add] at hc
      obtain ⟨hmg, fd, F, hb⟩ := Y.nm g d hd
      unfold Pg.chk1 at hc
      rw [hl] at hc
      simp only [Bool.and_eq_true, Bool.false_eq_true, if_false, decide_eq_true_eq] at hc
      obtain ⟨⟨⟨h1, h2⟩, h3⟩, h6⟩ := hc
      have S := C8.fnScope_by h1
      have hio : p.io g = f.io := by unfold Pg.io; rw [hf]
      have hfr : p.fr g = f.fr := by unfold Pg.fr; rw [hf]
      refine ⟨fd, d.ps, ?_, hb, F.kp, fun d' hd' => by rw [hd] at hd'; cases hd'; rfl, by
        obtain ⟨oc, od, _, _, _, _, _, _, _, osl, _, lk, _⟩ := F.ex
        exact ⟨oc, od, osl, lk⟩⟩
      have e3 : 3 * (n + 1) = 3 * n + 2 + 1 := by omega
      rw [e3, hio, hfr]
      obtain ⟨oc, od, dV, kV, doc, pm, an, cdv, ct, osl, rfl, lk, hcd, _, _⟩ := F.ex
      refine fn_of lk hcd S (fun vs H Q E h => ?_) fun A outer s H vs Q E hr h => ?_
      · obtain ⟨M, ds, _, _, ha, _, _⟩ := h
        rw [(args_len _ _ _ ha).2, h3]
      · obtain ⟨M, ds, hM, hT, ha, hap, hq⟩ := h
        rw [Φ] at hq
        simp only [hf, hl, Bool.false_eq_true, if_false] at hq
        have C := ct_of (n := n) (lam := false) (l := none) (cd := none) (H0 := H) (M0 := M) (P0 := fun _ => False) (c := ⟨Φ p.P n, Ψ p.P n, .bad, noioF p.P, p.P.nx, 3 * n⟩) (W := WofE E) (X := cxOf (L2N.CX P w) P w K mg base d.N d.name (defScope d.st) (G.ad g) cdv A outer s H E) Y rfl rfl rfl rfl rfl rfl rfl S.nd rfl rfl (L2N.takes_of rfl rfl rfl rfl) hr hd lk rfl rfl rfl rfl
          (fun _ => ⟨rfl, rfl, fun g hg => (let ⟨fd, ps, q1, q2, q3, _⟩ := ih1 g hg; ⟨fd, ps, q1, q2, q3⟩), fun g ds h => phi_bad h, fun g m h => noio_ok h, ih2⟩) (fun h => by cases h)
        have gq : ({ G with lam := none, cd := none } : Gm) = G := by
          have e1 := Y.lam
          have e2 := Y.cd
          obtain ⟨a1, a2, a3, a4, a5, a6, a7, a8⟩ := G
          simp only at e1 e2
          subst e1 e2
          rfl
        rw [gq] at C
        have T : StOk (cxOf (L2N.CX P w) P w K mg base d.N d.name (defScope d.st) (G.ad g) cdv A outer s H E) ⟨G, H, M, fun _ => False⟩ (WofE E) ⟨Φ p.P n, Ψ p.P n, .bad, noioF p.P, p.P.nx, 3 * n⟩ (p.ct g d false) :=
          ⟨C, PassesOwn.leaving, rfl, rfl⟩
        exact ⟨_, chkSs_ok f.code T _ h6, fn_sem h2 hM hT ha hap hq⟩
    · obtain ⟨f, hf, hl⟩ := isl_get hg
      obtain ⟨d, hd, hc⟩ := chkL_get _ _ 0 g f hchk hf
      rw [Nat.zero_add] at hc
      obtain ⟨_, fd, F, hb⟩ := Y.nm g d hd
      obtain ⟨oc, od, dV, kV, doc, pm, an, cdv, ct, osl, rfl, lk, hcd, _, _⟩ := F.ex
      unfold Pg.chk1 at hc
      rw [hl] at hc
      simp only [Bool.and_eq_true, if_true, decide_eq_true_eq, Bool.not_eq_true'] at hc
      obtain ⟨⟨⟨h1, h2⟩, ⟨h3, h4⟩, h5⟩, h6⟩ := hc
      unfold Df.lamScope at h5
      simp only [Bool.and_eq_true, decide_eq_true_eq] at h5
      obtain ⟨h51, h52⟩ := h5
      have S := C8.fnScope_by h1
      cases hps : d.ps with
      | nil => rw [hps] at h51; cases h51
      | cons a r =>
        have hr0 : r = [] := by rw [hps] at h51; simpa using h51
        subst hr0
        rw [hps] at h52 S hb
        simp only [Bool.and_eq_true, decide_eq_true_eq, Bool.not_eq_true'] at h52
        obtain ⟨⟨⟨g1, g2⟩, g3⟩, g4⟩ := h52
        refine ⟨d.name, a, d.N, _, _, _, _, _, _, _, _, _, _, _, _, _, lk, hcd, hb, S, g1, vis_of g2, g3, g4, ?_⟩
        intro A outer s H Q M f' c' q tr tl hr act hM hT hco law res
        rw [Ψ] at res
        simp only [hf, hl, Bool.true_and] at res
        by_cases hn0 : decide (0 < f.n) = true
        case neg => rw [if_neg hn0] at res; exact res.elim
        rw [if_pos hn0] at res
        have hn0 := of_decide_eq_true hn0
        have room : Room (3 * n + 2) (A.deeper (envOfC d.name (defScope d.st) s.heap.objs.size (G.ad g) cdv)) := hr.mono (by omega)
        have act' : ∀ (W' : WX) (pn : List (Addr × Obj)) (xe : Value → Shared → Prop), L2N.Takes ((cxOf C8.CX0 P w K mg base d.N d.name (defScope d.st) (G.ad g) cdv A outer s H C8.E0).nox.tr pn xe) W' → ∀ p1 p2, PE ((cxOf C8.CX0 P w K mg base d.N d.name (defScope d.st) (G.ad g) cdv A outer s H C8.E0).nox.tr pn xe) (.Call (.Name a p1) [] [] p2)
            (semE ⟨{ G with lam := some f', cd := some (c', q) }, H, fun _ => False, M⟩ W' ⟨fun _ _ => .bad, fun _ _ => .bad, tr, fun _ _ => false, p.P.nx, 3 * n⟩ .thunk) := fun W' pn xe tk' p1 p2 =>
          (act W' pn xe p1 p2 tk').weak fun σZ HZ QZ ⟨s', e, h⟩ => by
            rw [evalE] at h
            by_cases hz : (s'.all (fun x => !x.mine) && (getS s' 0).isLam) = true
            case neg => rw [if_neg hz] at h; exact h.elim
            rw [if_pos hz] at h
            simp only [Bool.and_eq_true] at hz
            obtain ⟨hz1, hz2⟩ := hz
            have hs0 : getS s' 0 = .fz .lam := by
              unfold Slot.isLam at hz2
              split at hz2
              · assumption
              · cases hz2
            have q0 := e.slot 0
            rw [hs0] at q0
            obtain ⟨v0, v1, f0, v2, v3⟩ := q0
            cases v2
            subst v3
            have kp : KeepNT H HZ := fun b o hb nt => e.dm.2 b o hb nt (fun z => z)
            have mm : ∀ b, MM ⟨{ G with lam := some f', cd := some (c', q) }, H, fun _ => False, M⟩ σZ s' b → M b := fun b hb => by
              rcases hb with (hb | hb) | ⟨i, i1, i2⟩
              · exact hb.elim
              · exact hb
              · exfalso
                have : (getS s' i).mine = false := by
                  unfold getS at i2 ⊢
                  rw [List.getD_eq_getElem?_getD] at i2 ⊢
                  cases q1 : s'[i]? with
                  | none => rfl
                  | some x =>
                    have := List.all_eq_true.mp hz1 x (List.mem_of_getElem? q1)
                    simpa using this
                rw [this] at i2; cases i2
            refine ⟨sAt_some v1, e.tab.2 (c', q) rfl, law HZ QZ _ kp e.dm.1 ⟨e.tab.1, fun p' hp' => by rw [Y.cd] at hp'; cases hp'⟩ ?_⟩
            have eN : ∀ H', KeepNT HZ H' → DomLe HZ H' → Tabz G H' → EnvOk ⟨{ G with lam := some f', cd := some (c', q) }, H, fun _ => False, M⟩ H' σZ s' := fun H' k1 k2 k3 =>
              e.keepNT k1 k2 ⟨k3.1, fun p' hp' => k1 _ _ (e.tab.2 p' hp') LamX.codeO_ne⟩
            cases tr with
            | bad => exact h
            | ok dd => exact fun v H' k1 k2 k3 rv => h v H' (eN H' k1 k2 k3) (Step.keepNT k1 k2) (Rep.toL Y.lam dd v (Rep.mono (fun _ _ h _ _ => h) (fun b hb => .inl (mm b hb)) dd v rv))
            | err x =>
              intro cls dd H' k1 k2 k3 rx
              refine h cls dd H' (eN H' k1 k2 k3) (Step.keepNT k1 k2) ⟨rx.1, rx.2.1, fun i hi => ?_⟩
              obtain ⟨q1, fs, h1, h2, h3, h4⟩ := rx.2.2 i hi
              exact ⟨q1, fs, h1, h2, fun z => h3 (mm q1 z), h4⟩
        have C := ct_of (P := P) (n := n) (lam := true) (l := some f') (cd := some (c', q)) (H0 := H) (M0 := fun _ => False) (P0 := M) (c := ⟨fun _ _ => .bad, fun _ _ => .bad, tr, fun _ _ => false, p.P.nx, 3 * n⟩) (W := WF) (X := (cxOf C8.CX0 P w K mg base d.N d.name (defScope d.st) (G.ad g) cdv A outer s H C8.E0).nox) Y rfl rfl rfl rfl rfl rfl rfl S.nd rfl rfl takes_false room hd lk rfl rfl rfl rfl
          (fun h => by cases h) (fun _ => ⟨fun _ _ => rfl, fun _ _ => rfl, fun a' ha' => by
            rw [hps] at ha'
            have ha' : a = a' := by simpa using ha'
            subst ha'
            exact act'⟩)
        have T : StOk (cxOf C8.CX0 P w K mg base d.N d.name (defScope d.st) (G.ad g) cdv A outer s H C8.E0).nox ⟨{ G with lam := some f', cd := some (c', q) }, H, fun _ => False, M⟩ WF ⟨fun _ _ => .bad, fun _ _ => .bad, tr, fun _ _ => false, p.P.nx, 3 * n⟩ (p.ct g d true) :=
          ⟨C, PassesOwn.never, rfl, rfl⟩
        refine ⟨_, chkSs_ok f.code T _ h6, ?_⟩
        have sl : ∀ i, getS ((List.replicate f.n Slot.no).set 0 (.fz .lam)) i = if i = 0 then .fz .lam else .no := fun i => by
          rw [getS_set (by rw [List.length_replicate]; exact hn0)]
          by_cases z : i = 0
          · rw [if_pos z, if_pos z]
          · rw [if_neg z, if_neg z]
            unfold getS
            rw [List.getD_eq_getElem?_getD, List.getElem?_replicate]
            split <;> rfl
        have nm : ∀ i, (getS ((List.replicate f.n Slot.no).set 0 (.fz .lam)) i).held = false := fun i => by
          rw [sl]; split <;> rfl
        have e0 : EnvOk ⟨{ G with lam := some f', cd := some (c', q) }, H, fun _ => False, M⟩ H (L2.start d.N [.ref f']) ((List.replicate f.n Slot.no).set 0 (.fz .lam)) := by
          refine ⟨?_, fun i => ?_, fun i j b h1 => (by rw [nm] at h1; cases h1), fun b hb => hb.elim False.elim (hM b), ⟨fun b h => h, fun b o h _ _ => h⟩, ⟨hT.1, fun p' hp' => (by cases hp'; exact hco)⟩⟩
          · unfold L2.start
            rw [List.length_append, List.length_map, List.length_replicate, List.length_set, List.length_replicate]
            show 1 + (d.N.length - 1) = f.n
            omega
          · rw [sl]
            by_cases z : i = 0
            · subst z
              rw [if_pos rfl]
              exact ⟨.ref f', rfl, f', rfl, rfl⟩
            · rw [if_neg z]; trivial
        refine ⟨_, e0, ?_⟩
        cases qx : execs ⟨fun _ _ => .bad, fun _ _ => .bad, tr, fun _ _ => false, p.P.nx, 3 * n⟩ f.code ((List.replicate f.n Slot.no).set 0 (.fz .lam)) with
        | rt dd s1 =>
          rw [qx] at res
          by_cases hnl : dd.nolam = true
          · simp only [hnl, if_true] at res
            rw [h4]
            intro v σ1 H1 e1 t1 r1
            refine res v H1 (fun b o hb nt => t1.keep b o hb (fun ⟨i, _, i2⟩ => ?_) nt) t1.dom ⟨e1.tab.1, fun p' hp' => by rw [Y.cd] at hp'; cases hp'⟩ (Rep.mono (fun _ _ h _ _ => h) (fun b hb => .inl (.inl (.inr hb))) dd v (Rep.ofL dd v hnl r1))
            have := mut_held i2
            rw [nm] at this
            cases this
          · simp only [hnl] at res; exact res.elim
        | nx s1 => rw [qx] at res; exact res.elim
        | ct s1 => rw [qx] at res; exact res.elim
        | er x s1 => rw [qx] at res; exact res.elim
        | bad => rw [qx] at res; exact res.elim
end
end PI

set_option linter.all false
set_option maxRecDepth 100000
set_option maxHeartbeats 2000000
/-! P15: from the head's facts to the law. -/
namespace PI
open PySem PySem.Spec PyProof.Rows L2
def faPairs (p : Pg) : List He.Fa := (p.exn.zipIdx).flatMap fun a => (p.exn.zipIdx).map fun b => .exm a.1 b.1 (b.2 == 0 || a.2 == b.2)
def faCns (p : Pg) : List He.Fa := p.cns.filterMap fun q => match q.2 with
  | .int i => some (.int q.1 i)
  | _ => none
def faOf (p : Pg) : List He.Fa := (p.df.map fun d => .glo d.name) ++ (bnames.map .free ++ (p.exn.map .glo ++ ((p.exn.zipIdx.filter fun q => p.exp.getD q.2 false).map (fun q => .exc q.1) ++ (faPairs p ++ faCns p))))
def fnOf' (p : Pg) : List He.DefD := p.df.map fun d => ⟨(d.name, none), d.name, d.name, defArgs d.st, defBody d.st, defScope d.st, [], []⟩
def tfOf (p : Pg) : List He.Defn := p.hl.filterMap fun g => p.df[g]?.map fun d => (d.name, none)
def excC (K : PySem.W.Frag) (D : Addr) : Bool := decide (PySem.W.findIn K (.ref D) "__getattribute__" = some (some (.builtin "BaseException.__getattribute__"))) && (decide (PySem.W.findIn K (.ref D) "__getattr__" = some none) && (decide (PySem.W.subIn K (.ref D) (.type "BaseException") = some true) &&
  (PySem.W.hasDictIn K D && (decide (PySem.W.findIn K (.ref D) "__class__" = some (some (.builtin "object.__class__"))) && (decide (PySem.W.specialIn K (.builtin "object.__class__") "__get__" = some (some (.builtin "getset_descriptor.__get__"))) && (decide (PySem.W.takesIn K (.builtin "object.__class__") = some true) &&
  decide (PySem.W.mroIn K D (.type "object") = some true)))))))
theorem excC_ok {K : PySem.W.Frag} {D : Addr} (h : excC K D = true) : ExcC K D := by
  unfold excC at h
  simp only [Bool.and_eq_true, decide_eq_true_eq] at h
  obtain ⟨h1, h2, h3, h4, h5, h6, h7, h8⟩ := h
  exact ⟨h1, h2, h3, h4, h5, h6, h7, h8⟩
def excB (p : Pg) (K : PySem.W.Frag) : Bool := (p.exn.all fun x => excC K (He.ga K x)) && ((p.exn.zipIdx).all fun a => (p.exn.zipIdx).all fun b => decide (PySem.W.kitOne K (.ref (He.ga K a.1)) (.ref (He.ga K b.1)) = some (b.2 == 0 || a.2 == b.2)))
def exB (p : Pg) (K : PySem.W.Frag) : Bool := (p.exn.all fun x => PySem.W.keepIn K (.ref (He.ga K x)) && (decide (PySem.W.subIn K (.ref (He.ga K x)) (.type "BaseException") = some true) && decide (PySem.W.typeIn K (.ref (He.ga K x)) = some (.type "type")))) && excB p K && decide ((tfOf p).map fun q => (He.cT K q).2).Nodup
def gmOf (p : Pg) (K : PySem.W.Frag) : Gm where
  K := K
  ad := fun g => He.ga K ((p.df[g]?.map (·.name)).getD "")
  ec := fun n => He.ga K (p.exn.getD n "")
  T := (tfOf p).map fun q => ((He.cT K q).2, (q.1 ++ ".<locals>.") ++ "<lambda>")
  fld := fun _ => ""
/-- what is asked of the data -/
def Pg.okB (p : Pg) : Bool := p.chk && (decide (p.P.nx = p.exn.length) && (decide (p.exp.length ≤ p.exn.length) && (p.cns.all fun q => match q.2 with
  | .int _ => true
  | _ => false)))
def BindsAll (p : Pg) : Prop := ∀ (g : Nat) (d : Df), p.df[g]? = some d → ∀ (kV doc pm : Value) (an : Option Addr) (cdv ct : Value) (us : List Value), us.length = d.ps.length → bindArgs (PySem.W.fnOf d.name d.name (defArgs d.st) (defBody d.st) (defScope d.st) .none kV doc pm an cdv ct) ⟨us, []⟩ = pure (d.ps.zip us)
def BindsD (d : Df) : Prop := ∀ (kV doc pm : Value) (an : Option Addr) (cdv ct : Value) (us : List Value), us.length = d.ps.length → bindArgs (PySem.W.fnOf d.name d.name (defArgs d.st) (defBody d.st) (defScope d.st) .none kV doc pm an cdv ct) ⟨us, []⟩ = pure (d.ps.zip us)
theorem bindsAll_of {p : Pg} (h : ∀ d ∈ p.df, BindsD d) : BindsAll p := fun _ d hd => h d (List.mem_of_getElem? hd)
section
variable {p : Pg} {w : World} {K : PySem.W.Frag} {mg : Str → Option Value} {base h : Heap}
theorem nodup_inj {α β : Type} {f : α → β} : ∀ {l : List α}, (l.map f).Nodup → ∀ {a b : α}, a ∈ l → b ∈ l → f a = f b → a = b
  | [], _, a, b, ha, _, _ => by cases ha
  | x :: l, hn, a, b, ha, hb, e => by
    rw [List.map_cons, List.nodup_cons] at hn
    rcases List.mem_cons.mp ha with ha' | ha' <;> rcases List.mem_cons.mp hb with hb' | hb'
    · rw [ha', hb']
    · subst ha'; exact absurd (by rw [e]; exact List.mem_map_of_mem hb') hn.1
    · subst hb'; exact absurd (by rw [← e]; exact List.mem_map_of_mem ha') hn.1
    · exact nodup_inj hn.2 ha' hb' e
theorem hy_of (hok : p.okB = true) (hb : BindsAll p) (X : K.In base) (G : base.Ns mainGlobals mg) (c : He.SaysX (faOf p) (fnOf' p) [] (tfOf p) (exB p) w h K) (tb : ∀ q ∈ tfOf p, LamX.TabB base mg (He.cT K q).1 (He.cT K q).2) : Hy p w K mg base (gmOf p K) := by
  unfold Pg.okB at hok
  simp only [Bool.and_eq_true, decide_eq_true_eq] at hok
  obtain ⟨_, hnx, hxl, hcn⟩ := hok
  have fact : ∀ {f : He.Fa}, f ∈ faOf p → f.ok K = true := fun hf => He.SaysD.facts c.t.d hf
  have hex := c.more
  unfold exB at hex
  simp only [Bool.and_eq_true, decide_eq_true_eq, List.all_eq_true] at hex
  obtain ⟨⟨hex, hxb⟩, hnd⟩ := hex
  unfold excB at hxb
  simp only [Bool.and_eq_true, decide_eq_true_eq, List.all_eq_true] at hxb
  obtain ⟨hx1, hx2⟩ := hxb
  have adg : ∀ {g : Nat} {d : Df}, p.df[g]? = some d → (gmOf p K).ad g = He.ga K d.name := fun hd => by
    unfold gmOf
    simp only [hd, Option.map_some, Option.getD_some]
  have ecn : ∀ {n : Nat} {x : Str}, p.exn[n]? = some x → (gmOf p K).ec n = He.ga K x := fun hx => by
    unfold gmOf
    simp only [List.getD_eq_getElem?_getD, hx, Option.getD_some]
  refine ⟨rfl, rfl, rfl, rfl, fun g d hd => ?_, fun x hx => ?_, fun n x hx => ?_, fun n hn => ?_, fun m n hm hn => ?_, fun n hn => ?_, fun m n hm hn => ?_, hnx.symm, fun x d hd => ?_, fun g d hd hl oc od fd osl lk => ?_⟩
  · have hm : d ∈ p.df := List.mem_of_getElem? hd
    rw [adg hd]
    refine ⟨He.glo_ok X G (fact (f := .glo d.name) (List.mem_append_left _ (List.mem_map_of_mem (f := fun d : Df => He.Fa.glo d.name) hm))), ?_⟩
    obtain ⟨fd, F⟩ := He.SaysD.defs c.t.d (d := ⟨(d.name, none), d.name, d.name, defArgs d.st, defBody d.st, defScope d.st, [], []⟩) (List.mem_map_of_mem (f := fun d : Df => (⟨(d.name, none), d.name, d.name, defArgs d.st, defBody d.st, defScope d.st, [], []⟩ : He.DefD)) hm)
    exact ⟨fd, F, FunD.bindsN F (hb g d hd)⟩
  · exact He.free_ok X G (fact (List.mem_append_right _ (List.mem_append_left _ (List.mem_map_of_mem hx))))
  · rw [ecn hx]
    have hm : x ∈ p.exn := List.mem_of_getElem? hx
    obtain ⟨h1, h2, h3⟩ := hex x hm
    exact ⟨He.glo_ok X G (fact (List.mem_append_right _ (List.mem_append_right _ (List.mem_append_left _ (List.mem_map_of_mem hm))))), h1, h2, h3⟩
  · have hlt : n < p.exn.length := by
      rcases Nat.lt_or_ge n p.exp.length with q | q
      · omega
      · rw [List.getD_eq_getElem?_getD, List.getElem?_eq_none q] at hn; cases hn
    have hx : p.exn[n]? = some p.exn[n] := List.getElem?_eq_getElem hlt
    rw [ecn hx]
    have hm : (p.exn[n], n) ∈ p.exn.zipIdx := by
      rw [List.mk_mem_zipIdx_iff_getElem?]; exact hx
    have hm2 : (He.Fa.exc p.exn[n]) ∈ ((p.exn.zipIdx.filter fun q => p.exp.getD q.2 false).map fun q => He.Fa.exc q.1) :=
      List.mem_map.mpr ⟨_, List.mem_filter.mpr ⟨hm, hn⟩, rfl⟩
    exact (He.exc_ok (fact (List.mem_append_right _ (List.mem_append_right _ (List.mem_append_right _ (List.mem_append_left _ hm2)))))).1
  · rw [hnx] at hm hn
    have hxm : p.exn[m]? = some p.exn[m] := List.getElem?_eq_getElem hm
    have hxn : p.exn[n]? = some p.exn[n] := List.getElem?_eq_getElem hn
    rw [ecn hxm, ecn hxn]
    refine He.exm_ok (fact (List.mem_append_right _ (List.mem_append_right _ (List.mem_append_right _ (List.mem_append_right _ (List.mem_append_left _ ?_))))))
    refine List.mem_flatMap.mpr ⟨(p.exn[m], m), by rw [List.mk_mem_zipIdx_iff_getElem?]; exact hxm, List.mem_map.mpr ⟨(p.exn[n], n), by rw [List.mk_mem_zipIdx_iff_getElem?]; exact hxn, rfl⟩⟩
  · rw [hnx] at hn
    have hxn : p.exn[n]? = some p.exn[n] := List.getElem?_eq_getElem hn
    rw [ecn hxn]
    exact excC_ok (hx1 _ (List.mem_of_getElem? hxn))
  · rw [hnx] at hm hn
    have hxm : p.exn[m]? = some p.exn[m] := List.getElem?_eq_getElem hm
    have hxn : p.exn[n]? = some p.exn[n] := List.getElem?_eq_getElem hn
    rw [ecn hxm, ecn hxn]
    exact hx2 (p.exn[m], m) (by rw [List.mk_mem_zipIdx_iff_getElem?]; exact hxm) (p.exn[n], n) (by rw [List.mk_mem_zipIdx_iff_getElem?]; exact hxn)
  · have hm := PySem.mem_of_lookup hd
    have hi := List.all_eq_true.mp hcn _ hm
    cases d with
    | int i =>
      have hm2 : He.Fa.int x i ∈ faCns p := List.mem_filterMap.mpr ⟨(x, .int i), hm, rfl⟩
      obtain ⟨t, ht⟩ := He.int_ok X G (fact (List.mem_append_right _ (List.mem_append_right _ (List.mem_append_right _ (List.mem_append_right _ (List.mem_append_right _ hm2))))))
      exact ⟨_, .int i, ht, ⟨t, rfl⟩, fun H M => ⟨rfl, fun _ _ => rfl⟩⟩
    | _ => cases hi
  · have hm : d ∈ p.df := List.mem_of_getElem? hd
    have hq : ((d.name, none) : He.Defn) ∈ tfOf p := List.mem_filterMap.mpr ⟨g, List.mem_of_elem_eq_true hl, by rw [hd]; rfl⟩
    obtain ⟨fd', F⟩ := He.SaysD.defs c.t.d (d := ⟨(d.name, none), d.name, d.name, defArgs d.st, defBody d.st, defScope d.st, [], []⟩) (List.mem_map_of_mem (f := fun d : Df => (⟨(d.name, none), d.name, d.name, defArgs d.st, defBody d.st, defScope d.st, [], []⟩ : He.DefD)) hm)
    obtain ⟨oc', od', dV, kV, doc, pm, an, cdv, ct, osl', rfl, lk', hcd, _, _⟩ := F.ex
    have lk' : K.lookup (He.ga K d.name) = _ := lk'
    rw [adg hd, lk'] at lk
    cases lk
    obtain ⟨cA, hcA⟩ := He.codeIn_ref hcd
    have hco : He.codeOf K (d.name, none) = cA := He.codeOf_eq (K := K) (p := (d.name, none)) lk' hcA
    have e1 : (He.cT K (d.name, none)).1 = cA := hco
    refine ⟨cA, (He.cT K (d.name, none)).2, hcA, by rw [← e1]; exact tb _ hq, List.mem_map.mpr ⟨_, hq, rfl⟩, fun q hqT hq1 => ?_⟩
    obtain ⟨q0, hq0, rfl⟩ := List.mem_map.mp hqT
    have := nodup_inj hnd hq0 hq hq1
    rw [this]
/-- the law: what the small language says -/
theorem law_end {l : PySem.W.OpenLaw} {N gl : Nat} {d : Df} {fa : Addr} (hok : p.okB = true) (hb : BindsAll p) (hd : p.df[gl]? = some d) (hn : d.name = ("law" : Str)) (hps : d.ps = [("script" : Str)]) (hio : p.io gl = [false]) (hfr : p.fr gl = false) (hfn : p.isfn gl = true)
    (hΦ : ∀ ns : List Int, ns.length ≤ 63 → (∀ z ∈ ns, Builtin.Int.intBits z ≤ 1048576) → Φ p.P N gl [.scr ns] = .ok (.bl true) [])
    (KX : K.In h) (G : h.Ns mainGlobals mg) (c : He.SaysX (faOf p) (fnOf' p) [] (tfOf p) (exB p) w h K) (hmg : mg ("law" : Str) = some (.ref fa)) : LamX.LawAtS l w K (L2N.CX l.prog w) (3 * N) 63 "script" mg fa h := by
  have hm : d ∈ p.df := List.mem_of_getElem? hd
  obtain ⟨fd, F⟩ := He.SaysD.defs c.t.d (d := ⟨(d.name, none), d.name, d.name, defArgs d.st, defBody d.st, defScope d.st, [], []⟩) (List.mem_map_of_mem (f := fun d : Df => (⟨(d.name, none), d.name, d.name, defArgs d.st, defBody d.st, defScope d.st, [], []⟩ : He.DefD)) hm)
  have hga : (gmOf p K).ad gl = He.ga K d.name := by
    unfold gmOf
    simp only [hd, Option.map_some, Option.getD_some]
  have hfa : fa = He.ga K d.name := by
    have q := He.glo_ok KX G (He.SaysD.facts c.t.d (f := .glo d.name) (List.mem_append_left _ (List.mem_map_of_mem (f := fun d : Df => He.Fa.glo d.name) hm)))
    rw [hn, hmg] at q
    rw [hn]
    cases q; rfl
  refine ⟨fd, (tfOf p).map (He.cT K), spF (gmOf p K) [false] false (Φ p.P N gl), fun q hq => ?_, fun q hq => ?_, fun q hq => ?_, fun s u => ?_, fun H a ns hl hbits hT hS => ?_, fun base KB GB tb => ?_⟩
  · obtain ⟨q0, h0, rfl⟩ := List.mem_map.mp hq
    exact c.empty q0 h0
  · obtain ⟨q0, h0, rfl⟩ := List.mem_map.mp hq
    exact c.out q0 h0
  · obtain ⟨q0, h0, rfl⟩ := List.mem_map.mp hq
    exact PySem.W.codeHd_of_K KX (c.hd q0 h0)
  · have q := FunD.bindsA (ps := d.ps) F (hb gl d hd) s [u] (by rw [hps]; rfl)
    rw [hps] at q
    exact q
  · refine ⟨fun _ => False, [.scr ns], fun _ z => z.elim, ⟨fun q hq => ?_, fun q hq => by cases hq⟩, ⟨.scr ns, [], .ref a, [], rfl, rfl, ⟨a, rfl, ?_⟩, rfl, rfl⟩, fun i j b h1 => ?_, ?_⟩
    · obtain ⟨q0, h0, rfl⟩ := List.mem_map.mp hq
      exact LamX.TabS.nil (hT _ (List.mem_map_of_mem h0))
    · rcases hS with hS | hS
      · exact .inl ⟨hS, fun z => z⟩
      · exact .inr hS
    · cases i with
      | zero => cases h1
      | succ i => simp at h1
    · rw [hΦ ns hl hbits]
      exact fun v H' _ _ hv => hv
  · have tb' : ∀ q ∈ tfOf p, LamX.TabB base mg (He.cT K q).1 (He.cT K q).2 := fun q hq => tb _ (List.mem_map_of_mem hq)
    have Y := hy_of hok hb KB GB c tb'
    have hchk : p.chk = true := by
      unfold Pg.okB at hok
      simp only [Bool.and_eq_true] at hok
      exact hok.1
    obtain ⟨fd', ps, q1, _, _, q4, oc, od, osl, q5⟩ := (prog_ok (P := l.prog) Y hchk N).1 gl hfn
    obtain ⟨oc2, od2, _, _, _, _, _, _, _, osl2, _, lk, _⟩ := F.ex
    have lk : K.lookup (He.ga K d.name) = some ⟨oc2, od2, .func fd, osl2⟩ := lk
    rw [hga, lk] at q5
    cases q5
    rw [q4 d hd, hps, hio, hfr, hga, ← hfa] at q1
    exact q1
end
end PI

set_option linter.all false
set_option maxRecDepth 100000
/-! M1: the small language, run by equations. -/
namespace PI
/-! ### choices -/
def condR {α : Type} (d : D) (x y : Res α) : Res α := match d with
  | .bl true => x
  | .bl false => y
  | _ => .bad
def condS (d : D) (x y : SR) : SR := match d with
  | .bl true => x
  | .bl false => y
  | _ => .bad
def notR (d : D) (s : Sl) : Res D := match d with
  | .bl b => .ok (.bl (!b)) s
  | _ => .bad
def andR (d : D) (x : Res D) (s : Sl) : Res D := match d with
  | .bl true => x
  | .bl false => .ok (.bl false) s
  | _ => .bad
def orR (d : D) (x : Res D) (s : Sl) : Res D := match d with
  | .bl true => .ok (.bl true) s
  | .bl false => x
  | _ => .bad
def condC (d : D) (x : Res Bool) (s : Sl) : Res Bool := match d with
  | .bl true => x
  | .bl false => .ok false s
  | _ => .bad
def chR (o : Option D) (x : Res D) (s : Sl) : Res D := match o with
  | some (.bl true) => x
  | some (.bl false) => .ok (.bl false) s
  | _ => .bad
section
variable {α β : Type} {c : Cn} {s : Sl} {b : Bool} {d : D}
theorem condR_bl {x y : Res α} : condR (.bl b) x y = if b = true then x else y := by cases b <;> rfl
theorem condS_bl {x y : SR} : condS (.bl b) x y = if b = true then x else y := by cases b <;> rfl
theorem notR_bl : notR (.bl b) s = .ok (.bl (!b)) s := rfl
theorem andR_bl {x : Res D} : andR (.bl b) x s = if b = true then x else .ok (.bl false) s := by cases b <;> rfl
theorem orR_bl {x : Res D} : orR (.bl b) x s = if b = true then .ok (.bl true) s else x := by cases b <;> rfl
theorem condC_bl {x : Res Bool} : condC (.bl b) x s = if b = true then x else .ok false s := by cases b <;> rfl
theorem chR_bl {x : Res D} : chR (some (.bl b)) x s = if b = true then x else .ok (.bl false) s := by cases b <;> rfl
/-! ### binding -/
theorem bind_ok {a : α} {f : α → Sl → Res β} : (Res.ok a s).bind f = f a s := rfl
theorem bind_err {x : Exn} {f : α → Sl → Res β} : (Res.err x s).bind f = .err x s := rfl
theorem bind_bad {f : α → Sl → Res β} : (Res.bad : Res α).bind f = .bad := rfl
theorem bind_if {p : Prop} [Decidable p] {x y : Res α} {f : α → Sl → Res β} : (if p then x else y).bind f = if p then x.bind f else y.bind f := by split <;> rfl
theorem toS_ok {a : α} {f : α → Sl → SR} : (Res.ok a s).toS f = f a s := rfl
theorem toS_err {x : Exn} {f : α → Sl → SR} : (Res.err x s).toS f = .er x s := rfl
theorem toS_if {p : Prop} [Decidable p] {x y : Res α} {f : α → Sl → SR} : (if p then x else y).toS f = if p then x.toS f else y.toS f := by split <;> rfl
theorem sbind_nx {f : Sl → SR} : (SR.nx s).bind f = f s := rfl
theorem sbind_rt {f : Sl → SR} : (SR.rt d s).bind f = .rt d s := rfl
theorem sbind_ct {f : Sl → SR} : (SR.ct s).bind f = .ct s := rfl
theorem sbind_er {x : Exn} {f : Sl → SR} : (SR.er x s).bind f = .er x s := rfl
theorem sbind_if {p : Prop} [Decidable p] {x y : SR} {f : Sl → SR} : (if p then x else y).bind f = if p then x.bind f else y.bind f := by split <;> rfl
theorem ofO_some {a : α} : ofO (some a) s = .ok a s := rfl
theorem ofO_if {p : Prop} [Decidable p] {x y : Option α} : ofO (if p then x else y) s = if p then ofO x s else ofO y s := by split <;> rfl
theorem ofO_none : ofO (none : Option α) s = .bad := rfl
theorem guardO_true : guardO true d = some d := rfl
/-! ### slots -/
theorem getS_z {a : Slot} : getS (a :: s) 0 = a := rfl
theorem getS_s {a : Slot} {i : Nat} : getS (a :: s) (i + 1) = getS s i := rfl
def vS' (x : Slot) (s : Sl) (i : Nat) : Res D := match x with
  | .fz d => .ok d s
  | .own d => .ok d (s.set i (.fz d))
  | _ => .bad
theorem vS_fz {i : Nat} : vS' (.fz d) s i = .ok d s := rfl
theorem vS_own {i : Nat} : vS' (.own d) s i = .ok d (s.set i (.fz d)) := rfl
/-! ### expressions -/
theorem ev_k : evalE c (.k d) s = .ok d s := by rw [evalE]
theorem ev_v {i : Nat} : evalE c (.v i) s = vS' (getS s i) s i := by rw [evalE]; rfl
theorem ev_op {o : Op} {a : As} : evalE c (.op o a) s = (evalAs c a s).bind fun ds s => ofO (opD o ds) s := by rw [evalE]
theorem ev_bop {a : Bool} {l : Es} : evalE c (.bop a l) s = evalB c a l s := by rw [evalE]
theorem evB_one {a : Bool} {x : E} : evalB c a (.cons x .nil) s = evalE c x s := by rw [evalB]
theorem evB_and {x y : E} {r : Es} : evalB c true (.cons x (.cons y r)) s = (evalE c x s).bind fun d s => andR d (evalB c true (.cons y r) s) s := by
  rw [evalB]
  · congr 1; funext d s; cases d <;> try rfl
    rename_i b; cases b <;> rfl
  · intro h; cases h
theorem evB_or {x y : E} {r : Es} : evalB c false (.cons x (.cons y r)) s = (evalE c x s).bind fun d s => orR d (evalB c false (.cons y r) s) s := by
  rw [evalB]
  · congr 1; funext d s; cases d <;> try rfl
    rename_i b; cases b <;> rfl
  · intro h; cases h
theorem ev_nt {x : E} : evalE c (.nt x) s = (evalE c x s).bind fun d s => notR d s := by
  rw [evalE]; congr 1
theorem ev_ite {q x y : E} : evalE c (.ite q x y) s = (evalE c q s).bind fun d s => condR d (evalE c x s) (evalE c y s) := by
  rw [evalE]; congr 1
theorem ev_chain {o p : Op} {x y z : E} : evalE c (.chain o p x y z) s = (evalE c x s).bind fun dx s => (evalE c y s).bind fun dy s => chR (opD o [dx, dy]) ((evalE c z s).bind fun dz s => ofO (opD p [dy, dz]) s) s := by
  rw [evalE]; congr 1
theorem ev_call {g : Nat} {a : As} : evalE c (.call g a) s = (evalAs c a s).bind fun ds s => if ((a.bs.all fun i => (getS s i).mut) && nodupB a.bs) = true then finC a.bs (c.call g ds) s else .bad := by rw [evalE]
theorem ev_fn {g : Nat} : evalE c (.fn g) s = .ok (.fn g) s := by rw [evalE]
theorem ev_as0 : evalAs c .nil s = .ok [] s := by rw [evalAs]
theorem ev_asE {x : E} {r : As} : evalAs c (.cons (.e x) r) s = (evalE c x s).bind fun d s => (evalAs c r s).bind fun ds s => .ok (d :: ds) s := by rw [evalAs]
theorem ev_asB {i : Nat} {r : As} : evalAs c (.cons (.b i) r) s = if (getS s i).val.isSome = true then (evalAs c r s).bind fun ds s => ofO ((getS s i).val.map (· :: ds)) s else .bad := by rw [evalAs]
theorem ev_cs0 : evalCs c .nil s = .ok true s := by rw [evalCs]
theorem ev_cs {x : E} {r : Es} : evalCs c (.cons x r) s = (evalE c x s).bind fun d s => condC d (evalCs c r s) s := by
  rw [evalCs]; congr 1
theorem ev_iE {x : E} : evalIt c (.e x) s = (evalE c x s).bind fun d s => ofO (iterD d) s := by rw [evalIt]
def lendR (o : Option (D × Sl)) : Res (List D) := match o with
  | some (d, s) => ofO (iterD d) s
  | none => .bad
theorem lendR_some : lendR (some (d, s)) = ofO (iterD d) s := rfl
theorem ev_iB {i : Nat} : evalIt c (.b i) s = lendR (lend s i) := by rw [evalIt]; rfl
theorem ev_iR {a : As} : evalIt c (.range a) s = (evalAs c a s).bind fun ds s => ofO (rangeD ds) s := by rw [evalIt]
theorem ev_iN {x : It} : evalIt c (.enum x) s = (evalIt c x s).bind fun ds s => .ok (enumL 0 ds) s := by rw [evalIt]
theorem ev_iZ {x y : It} : evalIt c (.zip x y) s = (evalIt c x s).bind fun xs s => (evalIt c y s).bind fun ys s => .ok (zipL xs ys) s := by rw [evalIt]
theorem ev_iV {x : It} : evalIt c (.rev x) s = (evalIt c x s).bind fun ds s => .ok ds.reverse s := by rw [evalIt]
def convR (t : Bool) (it : It) (s : Sl) (r : Res (List D)) : Res D := r.bind fun ds s1 => if ds.length ≤ lim then .ok (if t then .tup ds else .lst ds) (unlend s s1 s1 it.lends) else .bad
theorem ev_conv {t : Bool} {it : It} : evalE c (.conv t it) s = convR t it s (evalIt c it s) := by rw [evalE, convR]
theorem convR_range {t : Bool} {a : As} {ds : List D} {s1 : Sl} : convR t (.range a) s (.ok ds s1) = if ds.length ≤ lim then .ok (if t = true then .tup ds else .lst ds) s1 else .bad := rfl
/-- a comprehension's turn -/
def body (c : Cn) (tg : Tg) (cs : Es) (el : E) (d : D) (s : Sl) : Res (Option D) := match tg.put d s with
  | some s => (evalCs c cs s).bind fun b s => if b = true then (evalE c el s).bind fun y s => wipeR tg.slots s (some y) else wipeR tg.slots s none
  | none => .bad
def bodyP (c : Cn) (tg : Tg) (cs : Es) (el : E) (o : Option Sl) : Res (Option D) := match o with
  | some s => (evalCs c cs s).bind fun b s => if b = true then (evalE c el s).bind fun y s => wipeR tg.slots s (some y) else wipeR tg.slots s none
  | none => .bad
theorem body_eq {tg : Tg} {cs : Es} {el : E} : body c tg cs el d s = bodyP c tg cs el (tg.put d s) := rfl
theorem bodyP_some {tg : Tg} {cs : Es} {el : E} : bodyP c tg cs el (some s) = (evalCs c cs s).bind fun b s => if b = true then (evalE c el s).bind fun y s => wipeR tg.slots s (some y) else wipeR tg.slots s none := rfl
theorem ev_comp {tg : Tg} {it : It} {cs : Es} {el : E} : evalE c (.comp tg it cs el) s = (evalIt c it s).bind fun ds s1 => if (tg.slots.all fun i => (getS s1 i).loose) = true then
    (loopC (body c tg cs el) ds (wipeS s1 tg.slots) []).bind fun d s2 => .ok d (unlend s s1 (backS s1 s2 tg.slots) it.lends) else .bad := by
  rw [evalE]
  rfl
/-! ### statements -/
theorem ex_asg {i : Nat} {o : Bool} {e : E} : exec c (.asg i o e) s = (evalE c e s).toS fun d s => storeS s i (if o = true then .own d else .fz d) := by rw [exec]
theorem ex_par {is : List (Nat × Bool)} {a : As} : exec c (.par is a) s = (evalAs c a s).toS fun ds s => parS is ds s := by rw [exec]
def putR (o : Option Sl) : SR := match o with
  | some s => .nx s
  | none => .bad
theorem putR_some : putR (some s) = .nx s := rfl
theorem ex_tup {tg : Tg} {e : E} : exec c (.tup tg e) s = (evalE c e s).toS fun d s => putR (tg.put d s) := by rw [exec]; congr 1
theorem ex_ex {e : E} : exec c (.ex e) s = (evalE c e s).toS fun _ s => .nx s := by rw [exec]
theorem ex_ret {e : E} : exec c (.ret e) s = (evalE c e s).toS fun d s => .rt d s := by rw [exec]
theorem ex_retN : exec c .retN s = .rt .non s := by rw [exec]
theorem ex_ite {q : E} {x y : Ss} : exec c (.ite q x y) s = (evalE c q s).toS fun d s => condS d (execs c x s) (execs c y s) := by rw [exec]; congr 1
theorem ex_raise {k : Nat} : exec c (.raise k none) s = .er ⟨k, none⟩ s := by rw [exec]
theorem ex_pass : exec c .pass s = .nx s := by rw [exec]
theorem ex_cont : exec c .cont s = .ct s := by rw [exec]
def fbody (c : Cn) (tg : Tg) (b : Ss) (d : D) (s : Sl) : SR := match tg.put d s with
  | some s => execs c b s
  | none => .bad
def fbodyP (c : Cn) (b : Ss) (o : Option Sl) : SR := match o with
  | some s => execs c b s
  | none => .bad
theorem fbody_eq {tg : Tg} {b : Ss} : fbody c tg b d s = fbodyP c b (tg.put d s) := rfl
theorem fbodyP_some {b : Ss} : fbodyP c b (some s) = execs c b s := rfl
theorem ex_for {tg : Tg} {it : It} {b : Ss} : exec c (.for tg it b) s = (evalIt c it s).toS fun ds s1 => (loopF (fbody c tg b) ds s1).bind fun s2 => .nx (unlend s s1 s2 it.lends) := by
  rw [exec]; rfl
theorem ex_while {n : Nat} {q : E} {b : Ss} : exec c (.while n q b) s = loopW (fun s => evalE c q s) (fun s => execs c b s) n s := by rw [exec]
def appR (i : Nat) (x : Slot) (d : D) (s : Sl) : SR := match x with
  | .own (.lst ds) => if ds.length < lim then .nx (s.set i (.own (.lst (ds ++ [d])))) else .bad
  | .ino (.lst ds) => if ds.length < lim then .nx (s.set i (.ino (.lst (ds ++ [d])))) else .bad
  | _ => .bad
theorem ex_app {i : Nat} {e : E} : exec c (.app i e) s = if (getS s i).ml = true then (evalE c e s).toS fun d s => appR i (getS s i) d s else .bad := by
  rw [exec]; congr 1
theorem appR_own {i : Nat} {ds : List D} : appR i (.own (.lst ds)) d s = if ds.length < lim then .nx (s.set i (.own (.lst (ds ++ [d])))) else .bad := rfl
theorem appR_ino {i : Nat} {ds : List D} : appR i (.ino (.lst ds)) d s = if ds.length < lim then .nx (s.set i (.ino (.lst (ds ++ [d])))) else .bad := rfl
def subR (i : Nat) (x : Slot) (j d : D) (s : Sl) : SR := match x, j with
    | .own (.lst ds), .int j => (match setL ds j d with
      | some ds => .nx (s.set i (.own (.lst ds)))
      | none => .bad)
    | .ino (.lst ds), .int j => (match setL ds j d with
      | some ds => .nx (s.set i (.ino (.lst ds)))
      | none => .bad)
    | _, _ => .bad
theorem ex_sub {i : Nat} {k e : E} : exec c (.sub i k e) s = (evalE c e s).toS fun d s => if (getS s i).val.isSome = true then (evalE c k s).toS fun j s => subR i (getS s i) j d s else .bad := by
  rw [exec]; congr 1
theorem exs0 : execs c .nil s = .nx s := by rw [execs]
theorem exs {x : S} {r : Ss} : execs c (.cons x r) s = (exec c x s).bind fun s => execs c r s := by rw [execs]
end
/-! ### loops -/
theorem loopC_go {f : D → Sl → Res (Option D)} (J : List D → List D → Sl → Prop) : ∀ (ds pre acc : List D) (s : Sl), J pre acc.reverse s → (∀ (p : List D) (d : D) (q acc : List D) (s : Sl), pre ++ ds = p ++ d :: q → J p acc s → ∃ o s', f d s = .ok o s' ∧ J (p ++ [d]) (acc ++ o.toList) s') → acc.length + ds.length ≤ lim →
    ∃ r s', loopC f ds s acc = .ok (.lst r) s' ∧ J (pre ++ ds) r s'
  | [], pre, acc, s, h, _, _ => ⟨_, s, rfl, by rw [List.append_nil]; exact h⟩
  | d :: ds, pre, acc, s, h, hs, hl => by
    obtain ⟨o, s', e, h'⟩ := hs pre d ds acc.reverse s rfl h
    rw [loopC, e]
    have hs' : ∀ (p : List D) (d' : D) (q acc : List D) (s : Sl), (pre ++ [d]) ++ ds = p ++ d' :: q → J p acc s → ∃ o s', f d' s = .ok o s' ∧ J (p ++ [d']) (acc ++ o.toList) s' := fun p d' q acc s e1 => hs p d' q acc s (by rw [← e1]; simp)
    rw [List.length_cons] at hl
    have e2 : pre ++ d :: ds = (pre ++ [d]) ++ ds := by simp
    rw [e2]
    cases o with
    | none =>
      exact loopC_go J ds (pre ++ [d]) acc s' (by simpa using h') hs' (by omega)
    | some y =>
      show ∃ r s'', (if acc.length < lim then loopC f ds s' (y :: acc) else .bad) = _ ∧ _
      rw [if_pos (by omega)]
      exact loopC_go J ds (pre ++ [d]) (y :: acc) s' (by simpa using h') hs' (by rw [List.length_cons]; omega)
/-- by an invariant: what was drawn, what is made, the slots -/
theorem loopC_inv {f : D → Sl → Res (Option D)} {ds : List D} {s : Sl} (J : List D → List D → Sl → Prop) (h0 : J [] [] s) (hs : ∀ (p : List D) (d : D) (q acc : List D) (s : Sl), ds = p ++ d :: q → J p acc s → ∃ o s', f d s = .ok o s' ∧ J (p ++ [d]) (acc ++ o.toList) s') (hl : ds.length ≤ lim) :
    ∃ r s', loopC f ds s [] = .ok (.lst r) s' ∧ J ds r s' := loopC_go J ds [] [] s h0 hs (by simpa using hl)
theorem loopC_pure {f : D → Sl → Res (Option D)} (g : D → Option D) {s : Sl} : ∀ (ds acc : List D), (∀ d ∈ ds, f d s = .ok (g d) s) → acc.length + ds.length ≤ lim → loopC f ds s acc = .ok (.lst (acc.reverse ++ ds.filterMap g)) s
  | [], acc, _, _ => by rw [loopC]; simp
  | d :: ds, acc, h, hl => by
    rw [loopC, h d List.mem_cons_self]
    rw [List.length_cons] at hl
    cases e : g d with
    | none =>
      show loopC f ds s acc = _
      rw [loopC_pure g ds acc (fun x hx => h x (List.mem_cons_of_mem _ hx)) (by omega), List.filterMap_cons_none e]
    | some y =>
      show (if acc.length < lim then loopC f ds s (y :: acc) else .bad) = _
      rw [if_pos (by omega), loopC_pure g ds (y :: acc) (fun x hx => h x (List.mem_cons_of_mem _ hx)) (by rw [List.length_cons]; omega), List.filterMap_cons_some e]
      simp
theorem loopC_map {f : D → Sl → Res (Option D)} (g : D → D) {s : Sl} {ds : List D} (h : ∀ d ∈ ds, f d s = .ok (some (g d)) s) (hl : ds.length ≤ lim) : loopC f ds s [] = .ok (.lst (ds.map g)) s := by
  rw [loopC_pure (fun d => some (g d)) ds [] h (by simpa using hl)]
  simp
theorem loopF_go {f : D → Sl → SR} (J : List D → Sl → Prop) (R : D → Sl → Prop) : ∀ (ds pre : List D) (s : Sl), J pre s → (∀ (p : List D) (d : D) (q : List D) (s : Sl), pre ++ ds = p ++ d :: q → J p s → (∃ s', (f d s = .nx s' ∨ f d s = .ct s') ∧ J (p ++ [d]) s') ∨ ∃ r s', f d s = .rt r s' ∧ R r s') →
    (∃ s', loopF f ds s = .nx s' ∧ J (pre ++ ds) s') ∨ ∃ r s', loopF f ds s = .rt r s' ∧ R r s'
  | [], pre, s, h, _ => .inl ⟨s, rfl, by rw [List.append_nil]; exact h⟩
  | d :: ds, pre, s, h, hs => by
    have hs' : ∀ (p : List D) (d' : D) (q : List D) (s : Sl), (pre ++ [d]) ++ ds = p ++ d' :: q → J p s → (∃ s', (f d' s = .nx s' ∨ f d' s = .ct s') ∧ J (p ++ [d']) s') ∨ ∃ r s', f d' s = .rt r s' ∧ R r s' := fun p d' q s e1 => hs p d' q s (by rw [← e1]; simp)
    have e2 : pre ++ d :: ds = (pre ++ [d]) ++ ds := by simp
    rw [loopF]
    rcases hs pre d ds s rfl h with ⟨s', e, h'⟩ | ⟨r, s', e, h'⟩
    · rw [e2]
      rcases e with e | e <;> rw [e] <;> exact loopF_go J R ds (pre ++ [d]) s' h' hs'
    · rw [e]; exact .inr ⟨r, s', rfl, h'⟩
theorem loopF_inv {f : D → Sl → SR} {ds : List D} {s : Sl} (J : List D → Sl → Prop) (h0 : J [] s) (hs : ∀ (p : List D) (d : D) (q : List D) (s : Sl), ds = p ++ d :: q → J p s → ∃ s', (f d s = .nx s' ∨ f d s = .ct s') ∧ J (p ++ [d]) s') :
    ∃ s', loopF f ds s = .nx s' ∧ J ds s' := by
  rcases loopF_go J (fun _ _ => False) ds [] s h0 (fun p d q s e h => .inl (hs p d q s e h)) with h | ⟨_, _, _, h⟩
  · exact h
  · exact h.elim
theorem loopF_inv2 {f : D → Sl → SR} {ds : List D} {s : Sl} (J : List D → Sl → Prop) (R : D → Sl → Prop) (h0 : J [] s) (hs : ∀ (p : List D) (d : D) (q : List D) (s : Sl), ds = p ++ d :: q → J p s → (∃ s', (f d s = .nx s' ∨ f d s = .ct s') ∧ J (p ++ [d]) s') ∨ ∃ r s', f d s = .rt r s' ∧ R r s') :
    (∃ s', loopF f ds s = .nx s' ∧ J ds s') ∨ ∃ r s', loopF f ds s = .rt r s' ∧ R r s' := loopF_go J R ds [] s h0 hs
theorem loopW_inv {q : Sl → Res D} {f : Sl → SR} (J : Sl → Prop) (μ : Sl → Nat) (hs : ∀ s, J s → ∃ b s', q s = .ok (.bl b) s' ∧ J s' ∧ μ s' = μ s ∧ (b = true → ∃ s'', (f s' = .nx s'' ∨ f s' = .ct s'') ∧ J s'' ∧ μ s'' < μ s)) : ∀ (n : Nat) (s : Sl), J s → μ s < n → ∃ s' s'', loopW q f n s = .nx s'' ∧ J s' ∧ q s' = .ok (.bl false) s'' ∧ J s''
  | 0, s, _, h => absurd h (Nat.not_lt_zero _)
  | n + 1, s, h, hm => by
    obtain ⟨b, s', e, h1, h2, h3⟩ := hs s h
    rw [loopW, e]
    cases b with
    | false => exact ⟨s, s', rfl, h, e, h1⟩
    | true =>
      obtain ⟨s'', e2, h4, h5⟩ := h3 rfl
      obtain ⟨t, t', q1, q2⟩ := loopW_inv J μ hs n s'' h4 (by omega)
      refine ⟨t, t', ?_, q2⟩
      rcases e2 with e2 | e2 <;> simp only [e2] <;> exact q1
end PI
namespace PI
def cnx (P : Prog) (n : Nat) : Cn := ⟨Φ P n, Ψ P n, .bad, noioF P, P.nx, 3 * n⟩
theorem run_eq {P : Prog} {n g : Nat} {ds : List D} {f : Fn} {s : Sl} {io : List Bool} {fr : Bool} {k : Ss} (hf : P.fs[g]? = some f) (hl : f.lam = false) (hc : (decide (ds.length = f.io.length) && decide (f.io.length ≤ f.n)) = true) (hs : startS f ds = s) (hi : f.io = io) (hr : f.fr = fr) (hk : f.code = k) :
    Φ P (n + 1) g ds = endS io fr (execs (cnx P n) k s) := by
  rw [Φ, hf]
  subst hs hi hr hk
  simp only [hl, Bool.false_eq_true, if_false]
  rw [runFn, if_pos hc]
  rfl
end PI
namespace PI
section
variable {io r : List Bool} {fr : Bool} {d : D} {s : Sl}
def outE (o : Option (List D)) (f : List D → FRes) : FRes := match o with
  | some o => f o
  | none => .bad
theorem outE_some {o : List D} {f : List D → FRes} : outE (some o) f = f o := rfl
theorem endS_rt : endS io fr (.rt d s) = outE (outS io s) (.ok d) := rfl
theorem endS_nx : endS io false (.nx s) = outE (outS io s) (.ok .non) := rfl
theorem endS_er {x : Exn} : endS io fr (.er x s) = outE (outS io s) (.err x) := rfl
theorem endS_if {p : Prop} [Decidable p] {x y : SR} : endS io fr (if p then x else y) = if p then endS io fr x else endS io fr y := by split <;> rfl
theorem outS_nil : outS [] s = some [] := rfl
theorem outS_f {x : Slot} : outS (false :: r) (x :: s) = outS r s := rfl
theorem outS_t : outS (true :: r) (.ino d :: s) = (outS r s).map (d :: ·) := rfl
end
end PI
namespace PI
theorem loopC_mapL {α : Type} {f : D → Sl → Res (Option D)} {xs : List α} {h : α → D} {s : Sl} (g : α → D) (H : ∀ x ∈ xs, f (h x) s = .ok (some (g x)) s) (hl : xs.length ≤ lim) : loopC f (xs.map h) s [] = .ok (.lst (xs.map g)) s := by
  have : ∀ (ys : List α) (acc : List D), (∀ y ∈ ys, y ∈ xs) → acc.length + ys.length ≤ lim → loopC f (ys.map h) s acc = .ok (.lst (acc.reverse ++ ys.map g)) s := by
    intro ys
    induction ys with
    | nil => intro acc _ _; simp [loopC]
    | cons y ys ih =>
      intro acc hy hl
      rw [List.length_cons] at hl
      rw [List.map_cons, loopC, H y (hy y List.mem_cons_self)]
      show (if acc.length < lim then loopC f (ys.map h) s (g y :: acc) else .bad) = _
      rw [if_pos (by omega), ih (g y :: acc) (fun z hz => hy z (List.mem_cons_of_mem _ hz)) (by rw [List.length_cons]; omega)]
      simp
  have := this xs [] (fun _ h => h) (by simpa using hl)
  simpa using this
theorem loopC_filtL {α : Type} {f : D → Sl → Res (Option D)} {xs : List α} {h : α → D} {s : Sl} (p : α → Bool) (g : α → D) (H : ∀ x ∈ xs, f (h x) s = .ok (if p x = true then some (g x) else none) s) (hl : xs.length ≤ lim) : loopC f (xs.map h) s [] = .ok (.lst ((xs.filter p).map g)) s := by
  have : ∀ (ys : List α) (acc : List D), (∀ y ∈ ys, y ∈ xs) → acc.length + ys.length ≤ lim → loopC f (ys.map h) s acc = .ok (.lst (acc.reverse ++ (ys.filter p).map g)) s := by
    intro ys
    induction ys with
    | nil => intro acc _ _; simp [loopC]
    | cons y ys ih =>
      intro acc hy hl
      rw [List.length_cons] at hl
      rw [List.map_cons, loopC, H y (hy y List.mem_cons_self)]
      cases hp : p y with
      | false =>
        rw [List.filter_cons_of_neg (by simp [hp])]
        show loopC f (ys.map h) s acc = _
        exact ih acc (fun z hz => hy z (List.mem_cons_of_mem _ hz)) (by omega)
      | true =>
        rw [List.filter_cons_of_pos hp]
        show (if acc.length < lim then loopC f (ys.map h) s (g y :: acc) else .bad) = _
        rw [if_pos (by omega), ih (g y :: acc) (fun z hz => hy z (List.mem_cons_of_mem _ hz)) (by rw [List.length_cons]; omega)]
        simp
  have := this xs [] (fun _ h => h) (by simpa using hl)
  simpa using this
end PI

set_option linter.all false
set_option maxRecDepth 100000
/-! M2: operations by equations. -/
namespace PI
section
variable {i j : Int} {b c : Bool} {d x : D} {ds es : List D} {s t : List Nat} {k : Nat} {o : List D}
theorem guardO_if : guardO b d = if b = true then some d else none := rfl
theorem o_add_i : opD .add [.int i, .int j] = some (.int (i + j)) := rfl
theorem o_add_l : opD .add [.lst ds, .lst es] = if ds.length + es.length ≤ lim then some (.lst (ds ++ es)) else none := by simp [opD, addD, guardO]
theorem o_add_t : opD .add [.tup ds, .tup es] = if ds.length + es.length ≤ lim then some (.tup (ds ++ es)) else none := by simp [opD, addD, guardO]
theorem o_add_s : opD .add [.str s, .str t] = if s.length + t.length ≤ lim then some (.str (s ++ t)) else none := by simp [opD, addD, guardO]
theorem o_sub_i : opD .sub [.int i, .int j] = some (.int (i - j)) := rfl
theorem o_mul_i : opD .mul [.int i, .int j] = if cmul i j = true then some (.int (i * j)) else none := rfl
theorem o_fdiv : opD .fdiv [.int i, .int j] = if 0 < j ∧ j < 1073741824 then some (.int (i / j)) else none := by simp [opD, fdivD, guardO]
theorem o_mod : opD .mod [.int i, .int j] = if 0 < j then some (.int (i % j)) else none := by simp [opD, modD, guardO]
theorem o_pow : opD .pow [.int i, .int j] = if cpow i j = true then some (.int (i ^ j.toNat)) else none := rfl
theorem o_neg : opD .neg [.int i] = some (.int (-i)) := rfl
theorem o_inv : opD .inv [.int i] = some (.int (-i - 1)) := rfl
theorem o_band : opD .band [.int i, .int j] = some (.int (PySem.Builtin.bitAnd i j)) := rfl
theorem o_bor_i : opD .bor [.int i, .int j] = some (.int (PySem.Builtin.bitOr i j)) := rfl
theorem o_shl : opD .shl [.int i, .int j] = if cpow i j = true then some (.int (i * 2 ^ j.toNat)) else none := rfl
theorem o_shr : opD .shr [.int i, .int j] = if 0 ≤ j then some (.int (i / 2 ^ j.toNat)) else none := by simp [opD, shrD, guardO]
def okE (a b : D) : Bool := D.okd 60 a && D.okd 200 b || D.okd 60 b && D.okd 200 a
theorem o_eq : opD .eq [x, d] = if okE x d = true then some (.bl (D.eqv x d)) else none := rfl
theorem o_ne : opD .ne [x, d] = if okE x d = true then some (.bl (!D.eqv x d)) else none := rfl
theorem o_eq_i : opD .eq [.int i, .int j] = some (.bl (decide (i = j))) := by simp [o_eq, okE, D.okd, D.eqv]
theorem o_ne_i : opD .ne [.int i, .int j] = some (.bl (!decide (i = j))) := by simp [o_ne, okE, D.okd, D.eqv]
theorem o_eq_s : opD .eq [.str s, .str t] = some (.bl (decide (s = t))) := by simp [o_eq, okE, D.okd, D.eqv]
theorem o_ne_s : opD .ne [.str s, .str t] = some (.bl (!decide (s = t))) := by simp [o_ne, okE, D.okd, D.eqv]
theorem o_lt_i : opD .lt [.int i, .int j] = some (.bl (decide (i < j))) := rfl
theorem o_le_i : opD .le [.int i, .int j] = some (.bl (decide (i ≤ j))) := rfl
theorem o_gt_i : opD .gt [.int i, .int j] = some (.bl (decide (j < i))) := rfl
theorem o_ge_i : opD .ge [.int i, .int j] = some (.bl (decide (j ≤ i))) := rfl
theorem o_in_t : opD .isin [x, .tup ds] = if (D.okd 60 x && ds.all (D.okd 200)) = true then some (.bl (ds.any fun y => D.eqv y x)) else none := by
  show (inB x (.tup ds)).map _ = _
  rw [inB]; split <;> rfl
theorem o_in_l : opD .isin [x, .lst ds] = if (D.okd 60 x && ds.all (D.okd 200)) = true then some (.bl (ds.any fun y => D.eqv y x)) else none := by
  show (inB x (.lst ds)).map _ = _
  rw [inB]; split <;> rfl
theorem o_nin_t : opD .notin [x, .tup ds] = if (D.okd 60 x && ds.all (D.okd 200)) = true then some (.bl (!ds.any fun y => D.eqv y x)) else none := by
  show (inB x (.tup ds)).map _ = _
  rw [inB]; split <;> rfl
theorem o_nin_l : opD .notin [x, .lst ds] = if (D.okd 60 x && ds.all (D.okd 200)) = true then some (.bl (!ds.any fun y => D.eqv y x)) else none := by
  show (inB x (.lst ds)).map _ = _
  rw [inB]; split <;> rfl
theorem o_isn : opD .isn [d] = some (.bl d.isNon) := rfl
theorem o_isnn : opD .isnn [d] = some (.bl (!d.isNon)) := rfl
theorem o_isb : opD (.isb b) [.bl c] = some (.bl (c == b)) := rfl
theorem o_isnb : opD (.isnb b) [.bl c] = some (.bl (!(c == b))) := rfl
theorem o_tup : opD .tup ds = if ds.length ≤ lim then some (.tup ds) else none := by simp [opD, guardO]
theorem o_lst : opD .lst ds = if ds.length ≤ lim then some (.lst ds) else none := by simp [opD, guardO]
theorem o_item_l : opD .item [.lst ds, .int i] = L2.atI ds i := rfl
theorem o_item_t : opD .item [.tup ds, .int i] = L2.atI ds i := rfl
theorem o_sl00 : opD (.sl false false) [x] = slX x none none := rfl
theorem o_sl10 : opD (.sl true false) [x, .int i] = slX x (some i) none := rfl
theorem o_sl01 : opD (.sl false true) [x, .int i] = slX x none (some i) := rfl
theorem o_sl11 : opD (.sl true true) [x, .int i, .int j] = slX x (some i) (some j) := rfl
theorem slX_l {l h : Option Int} : slX (.lst ds) l h = some (.lst (cut ds l h)) := rfl
theorem slX_t {l h : Option Int} : slX (.tup ds) l h = some (.tup (cut ds l h)) := rfl
theorem o_rev_l : opD .rev [.lst ds] = some (.lst ds.reverse) := rfl
theorem o_rev_t : opD .rev [.tup ds] = some (.tup ds.reverse) := rfl
theorem o_len_l : opD .len [.lst ds] = some (.int ds.length) := rfl
theorem o_len_t : opD .len [.tup ds] = some (.int ds.length) := rfl
theorem o_len_s : opD .len [.str s] = if s.length ≤ lim then some (.int s.length) else none := by simp [opD, lenD, guardO]
theorem o_abs : opD .abs [.int i] = some (.int (if i < 0 then -i else i)) := rfl
theorem o_int_i : opD .int1 [.int i] = some (.int i) := rfl
theorem o_int_b : opD .int1 [.bl b] = some (.int (if b = true then 1 else 0)) := rfl
theorem o_sum : opD .sum [.lst ds] = (ints? ds).map fun l => .int l.sum := rfl
theorem o_max1 : opD .max1 [.lst ds] = (ints? ds).bind fun l => (maxI l).map D.int := rfl
theorem o_min1 : opD .min1 [.lst ds] = (ints? ds).bind fun l => (minI l).map D.int := rfl
theorem o_max2 : opD .max2 [.int i, .int j] = some (.int (if j > i then j else i)) := rfl
theorem o_min2 : opD .min2 [.int i, .int j] = some (.int (if j < i then j else i)) := rfl
theorem o_all : opD .all [.lst ds] = (bls? ds).map fun l => .bl (l.all id) := rfl
theorem o_any : opD .any [.lst ds] = (bls? ds).map fun l => .bl (l.any id) := rfl
theorem o_sorted_l : opD .sorted [.lst ds] = (ints? ds).map fun l => .lst ((sortI l).map D.int) := rfl
theorem o_sorted_t : opD .sorted [.tup ds] = (ints? ds).map fun l => .lst ((sortI l).map D.int) := rfl
theorem o_sorted_s {l : List Int} : opD .sorted [.set l] = some (.lst ((sortI l).map D.int)) := rfl
theorem o_set_l : opD .set [.lst ds] = (ints? ds).map fun l => .set (dedupI l) := rfl
theorem o_set_t : opD .set [.tup ds] = (ints? ds).map fun l => .set (dedupI l) := rfl
theorem o_bor_s {l m : List Int} : opD .bor [.set l, .set m] = some (.set (l ++ m.filter fun i => !l.elem i)) := rfl
theorem o_tuple_l : opD .tuple [.lst ds] = some (.tup ds) := rfl
theorem o_tuple_t : opD .tuple [.tup ds] = some (.tup ds) := rfl
theorem o_list_l : opD .list [.lst ds] = some (.lst ds) := rfl
theorem o_list_t : opD .list [.tup ds] = some (.lst ds) := rfl
theorem o_list_scr {l : List Int} : opD .list [.scr l] = some (.lst (l.map D.int)) := rfl
def isO (k : Nat) (d : D) : Option D := (sort? d).map fun n => .bl (n == k || (n == 1 && k == 2))
theorem o_isint : opD .isint [d] = isO 2 d := rfl
theorem o_isbool : opD .isbool [d] = isO 1 d := rfl
theorem o_isstr : opD .isstr [d] = isO 3 d := rfl
theorem o_istuple : opD .istuple [d] = isO 4 d := rfl
theorem o_islist : opD .islist [d] = isO 5 d := rfl
theorem isO_non : isO k .non = some (.bl (0 == k || (0 == 1 && k == 2))) := rfl
theorem isO_bl : isO k (.bl b) = some (.bl (1 == k || (1 == 1 && k == 2))) := rfl
theorem isO_int : isO k (.int i) = some (.bl (2 == k || (2 == 1 && k == 2))) := rfl
theorem isO_str : isO k (.str s) = some (.bl (3 == k || (3 == 1 && k == 2))) := rfl
theorem isO_tup : isO k (.tup ds) = some (.bl (4 == k || (4 == 1 && k == 2))) := rfl
theorem isO_lst : isO k (.lst ds) = some (.bl (5 == k || (5 == 1 && k == 2))) := rfl
theorem o_isexc {e : Nat} {z : Option Int} : opD (.isexc k) [.exc e z] = some (.bl (k == 0 || e == k)) := rfl
theorem o_tru_b : opD .tru [.bl b] = some (.bl b) := rfl
theorem o_tru_i : opD .tru [.int i] = some (.bl (decide (i ≠ 0))) := rfl
theorem o_tru_n : opD .tru [.non] = some (.bl false) := rfl
theorem o_tru_l : opD .tru [.lst ds] = some (.bl (!ds.isEmpty)) := rfl
theorem o_tru_t : opD .tru [.tup ds] = some (.bl (!ds.isEmpty)) := rfl
theorem iterD_l : iterD (.lst ds) = some ds := rfl
theorem iterD_t : iterD (.tup ds) = some ds := rfl
theorem range1 : rangeD [.int j] = if inR j = true then some (rangeL 0 j.toNat) else none := rfl
theorem range2 : rangeD [.int i, .int j] = if (inR i && inR j) = true then some (rangeL i (j - i).toNat) else none := rfl
/-! calls' ends -/
section
variable {σ : Sl} {is : List Nat} {outs : List D}
theorem fin_ok : finC [] (.ok d o) σ = .ok d σ := by simp [finC, putOuts]
theorem fin_err {x : Exn} : finC [] (.err x o) σ = .err x σ := by simp [finC, putOuts]
theorem fin_ok1 : finC [k] (.ok d [x]) σ = .ok d (σ.set k ((getS σ k).withD x)) := by simp [finC, putOuts]
theorem fin_err1 {e : Exn} : finC [k] (.err e [x]) σ = .err e (σ.set k ((getS σ k).withD x)) := by simp [finC, putOuts]
theorem fin_if {p : Prop} [Decidable p] {x y : FRes} : finC is (if p then x else y) σ = if p then finC is x σ else finC is y σ := by split <;> rfl
theorem withD_own : (Slot.own d).withD x = .own x := rfl
theorem withD_ino : (Slot.ino d).withD x = .ino x := rfl
theorem ml_own : (Slot.own (.lst ds)).ml = true := rfl
theorem ml_ino : (Slot.ino (.lst ds)).ml = true := rfl
theorem lend_z {r : Sl} : lend (.own d :: r) 0 = some (d, .lent true d :: r) := rfl
theorem unlend_nil {s0 s1 s2 : Sl} : unlend s0 s1 s2 [] = s2 := rfl
theorem back_nil {s0 s1 : Sl} : backS s0 s1 [] = s1 := rfl
theorem store_eq {x : Slot} : storeS σ k x = if ((getS σ k).open && decide (k < σ.length)) = true then .nx (σ.set k x) else .bad := rfl
theorem put_n : Tg.put (.n k) d σ = if ((getS σ k).open && decide (k < σ.length)) = true then some (σ.set k (.fz d)) else none := by rw [Tg.put]
theorem put_t {l : List Tg} : Tg.put (.t l) (.tup ds) σ = Tg.puts l ds σ := by rw [Tg.put]
theorem puts_nil : Tg.puts [] [] σ = some σ := by rw [Tg.puts]
theorem puts_cons {a : Tg} {r : List Tg} : Tg.puts (a :: r) (d :: ds) σ = (Tg.put a d σ).bind fun s => Tg.puts r ds s := by rw [Tg.puts]
theorem wipeR_eq {α : Type} {a : α} : wipeR is σ a = if (is.all fun i => (getS σ i).loose) = true then .ok a (wipeS σ is) else .bad := rfl
theorem wipe_nil : wipeS σ [] = σ := rfl
theorem wipe_cons {r : List Nat} : wipeS σ (k :: r) = (wipeS σ r).set k .no := rfl
theorem back_cons {s0 : Sl} {r : List Nat} : backS s0 σ (k :: r) = (backS s0 σ r).set k (getS s0 k) := rfl
end
end
end PI
namespace PI
theorem all_id {α : Type} (f : α → Bool) : ∀ l : List α, (l.map f).all id = l.all f
  | [] => rfl
  | a :: l => by rw [List.map_cons, List.all_cons, List.all_cons, all_id f l]; rfl
theorem any_id {α : Type} (f : α → Bool) : ∀ l : List α, (l.map f).any id = l.any f
  | [] => rfl
  | a :: l => by rw [List.map_cons, List.any_cons, List.any_cons, any_id f l]; rfl
theorem bls_map {α : Type} (f : α → Bool) : ∀ l : List α, bls? (l.map fun x => D.bl (f x)) = some (l.map f)
  | [] => rfl
  | a :: l => by simp [bls?, bls_map f l]
theorem ints_map (l : List Int) : ints? (l.map D.int) = some l := by
  induction l with
  | nil => rfl
  | cons a l ih => simp [ints?, ih]
theorem o_all_map {α : Type} (f : α → Bool) (l : List α) : opD .all [.lst (l.map fun x => D.bl (f x))] = some (.bl (l.all f)) := by
  rw [o_all, bls_map]; simp only [Option.map_some, all_id]
theorem o_any_map {α : Type} (f : α → Bool) (l : List α) : opD .any [.lst (l.map fun x => D.bl (f x))] = some (.bl (l.any f)) := by
  rw [o_any, bls_map]; simp only [Option.map_some, any_id]
theorem lim_lit : lim = 16777216 := rfl
end PI
namespace PI
/-- by the turn's number -/
theorem loopC_ix {f : D → Sl → Res (Option D)} {ds : List D} {s : Sl} (J : Nat → List D → Sl → Prop) (h0 : J 0 [] s) (hs : ∀ (i : Nat) (d : D) (acc : List D) (s : Sl), ds[i]? = some d → J i acc s → ∃ o s', f d s = .ok o s' ∧ J (i + 1) (acc ++ o.toList) s') (hl : ds.length ≤ 16777216) :
    ∃ r s', loopC f ds s [] = .ok (.lst r) s' ∧ J ds.length r s' :=
  loopC_inv (fun p acc s => J p.length acc s) h0 (fun p d q acc s e h => by
    have := hs p.length d acc s (by rw [e]; simp) h
    simpa using this) hl
theorem loopF_ix {f : D → Sl → SR} {ds : List D} {s : Sl} (J : Nat → Sl → Prop) (h0 : J 0 s) (hs : ∀ (i : Nat) (d : D) (s : Sl), ds[i]? = some d → J i s → ∃ s', (f d s = .nx s' ∨ f d s = .ct s') ∧ J (i + 1) s') :
    ∃ s', loopF f ds s = .nx s' ∧ J ds.length s' :=
  loopF_inv (fun p s => J p.length s) h0 fun p d q s e h => by
    have := hs p.length d s (by rw [e]; simp) h
    simpa using this
theorem loopF_ix2 {f : D → Sl → SR} {ds : List D} {s : Sl} (J : Nat → Sl → Prop) (R : D → Sl → Prop) (h0 : J 0 s) (hs : ∀ (i : Nat) (d : D) (s : Sl), ds[i]? = some d → J i s → (∃ s', (f d s = .nx s' ∨ f d s = .ct s') ∧ J (i + 1) s') ∨ ∃ r s', f d s = .rt r s' ∧ R r s') :
    (∃ s', loopF f ds s = .nx s' ∧ J ds.length s') ∨ ∃ r s', loopF f ds s = .rt r s' ∧ R r s' :=
  loopF_inv2 (fun p s => J p.length s) R h0 fun p d q s e h => by
    have := hs p.length d s (by rw [e]; simp) h
    simpa using this
abbrev nD (n : Nat) : D := .int n
theorem range_map {lo : Int} {n : Nat} : rangeL lo n = (List.range n).map fun (i : Nat) => D.int (lo + i) := rfl
theorem rangeL_len {lo : Int} {n : Nat} : (rangeL lo n).length = n := by rw [range_map, List.length_map, List.length_range]
theorem rangeL_get {lo : Int} {n i : Nat} {d : D} (h : (rangeL lo n)[i]? = some d) : i < n ∧ d = .int (lo + i) := by
  rw [range_map, List.getElem?_map] at h
  obtain ⟨j, h1, h2⟩ := Option.map_eq_some_iff.mp h
  have := List.getElem?_eq_some_iff.mp h1
  obtain ⟨h3, h4⟩ := this
  rw [List.length_range] at h3
  rw [List.getElem_range] at h4
  subst h4
  exact ⟨h3, h2.symm⟩
theorem rangeL0 {n : Nat} : rangeL 0 n = (List.range n).map nD := by
  rw [range_map]
  congr 1
  funext i
  show D.int (0 + i) = D.int i
  rw [Int.zero_add]
theorem inR_nat {n : Nat} (h : n < 4611686018427387904) : inR (n : Int) = true := by
  unfold inR
  simp only [Bool.and_eq_true, decide_eq_true_eq]
  omega
/-! ### items -/
theorem at_nat {α : Type} {xs : List α} {i : Nat} : L2.atI xs (i : Int) = xs[i]? := by
  unfold L2.atI L2.ixN
  rw [if_pos (by omega)]
  by_cases h : i < xs.length
  · rw [if_pos (by omega)]; simp
  · rw [if_neg (by omega), List.getElem?_eq_none (by omega)]; rfl
theorem at0 {α : Type} {a : α} {xs : List α} : L2.atI (a :: xs) 0 = some a := at_nat (i := 0)
theorem at1 {α : Type} {a b : α} {xs : List α} : L2.atI (a :: b :: xs) 1 = some b := at_nat (i := 1)
theorem at2 {α : Type} {a b c : α} {xs : List α} : L2.atI (a :: b :: c :: xs) 2 = some c := at_nat (i := 2)
theorem setL0 {a d : D} {ds : List D} : setL (a :: ds) 0 d = some (d :: ds) := by
  unfold setL L2.ixN
  rw [if_pos (by omega), if_pos (by rw [List.length_cons]; omega)]; rfl
theorem setL1 {a b d : D} {ds : List D} : setL (a :: b :: ds) 1 d = some (a :: d :: ds) := by
  unfold setL L2.ixN
  rw [if_pos (by omega), if_pos (by rw [List.length_cons, List.length_cons]; omega)]; rfl
theorem subR_ino {i : Nat} {ds es : List D} {j : Int} {d : D} {s : Sl} (h : setL ds j d = some es) : subR i (.ino (.lst ds)) (.int j) d s = .nx (s.set i (.ino (.lst es))) := by
  unfold subR; simp only [h]
theorem subR_own {i : Nat} {ds es : List D} {j : Int} {d : D} {s : Sl} (h : setL ds j d = some es) : subR i (.own (.lst ds)) (.int j) d s = .nx (s.set i (.own (.lst es))) := by
  unfold subR; simp only [h]
theorem subR_ino0 {i : Nat} {a d : D} {ds : List D} {s : Sl} : subR i (.ino (.lst (a :: ds))) (.int 0) d s = .nx (s.set i (.ino (.lst (d :: ds)))) := subR_ino setL0
theorem subR_ino1 {i : Nat} {a b d : D} {ds : List D} {s : Sl} : subR i (.ino (.lst (a :: b :: ds))) (.int 1) d s = .nx (s.set i (.ino (.lst (a :: d :: ds)))) := subR_ino setL1
end PI
namespace PI
section
variable {d : D} {b : Bool}
theorem open_no : Slot.no.open = true := rfl
theorem open_fz : (Slot.fz d).open = true := rfl
theorem open_own : (Slot.own d).open = true := rfl
theorem mut_own : (Slot.own d).mut = true := rfl
theorem mut_ino : (Slot.ino d).mut = true := rfl
theorem loose_no : Slot.no.loose = true := rfl
theorem loose_fz : (Slot.fz d).loose = true := rfl
theorem val_fz : (Slot.fz d).val = some d := rfl
theorem val_own : (Slot.own d).val = some d := rfl
theorem val_ino : (Slot.ino d).val = some d := rfl
theorem val_lent : (Slot.lent b d).val = some d := rfl
theorem ite_rfl {α : Type} {x y : α} : (if (true : Bool) = true then x else y) = x := rfl
end
end PI
namespace PI
theorem loopC_key {f : D → Sl → Res (Option D)} {ds : List D} {s : Sl} {z : Res D} (hz : loopC f ds s [] = z) (m : Nat) (J : Nat → List D → Sl → Prop) (hm : ds.length = m) (hl : m ≤ 16777216) (h0 : J 0 [] s) (hs : ∀ (i : Nat) (d : D) (acc : List D) (s : Sl), ds[i]? = some d → J i acc s → ∃ o s', f d s = .ok o s' ∧ J (i + 1) (acc ++ o.toList) s') :
    ∃ r s', z = .ok (.lst r) s' ∧ J m r s' := by
  subst hz hm
  exact loopC_ix J h0 hs hl
theorem loopF_key {f : D → Sl → SR} {ds : List D} {s : Sl} {z : SR} (hz : loopF f ds s = z) (m : Nat) (J : Nat → Sl → Prop) (hm : ds.length = m) (h0 : J 0 s) (hs : ∀ (i : Nat) (d : D) (s : Sl), ds[i]? = some d → J i s → ∃ s', (f d s = .nx s' ∨ f d s = .ct s') ∧ J (i + 1) s') :
    ∃ s', z = .nx s' ∧ J m s' := by
  subst hz hm
  exact loopF_ix J h0 hs
theorem loopF_key2 {f : D → Sl → SR} {ds : List D} {s : Sl} {z : SR} (hz : loopF f ds s = z) (m : Nat) (J : Nat → Sl → Prop) (R : D → Sl → Prop) (hm : ds.length = m) (h0 : J 0 s) (hs : ∀ (i : Nat) (d : D) (s : Sl), ds[i]? = some d → J i s → (∃ s', (f d s = .nx s' ∨ f d s = .ct s') ∧ J (i + 1) s') ∨ ∃ r s', f d s = .rt r s' ∧ R r s') :
    (∃ s', z = .nx s' ∧ J m s') ∨ ∃ r s', z = .rt r s' ∧ R r s' := by
  subst hz hm
  exact loopF_ix2 J R h0 hs
end PI
namespace PI
theorem loopF_keyN {f : D → Sl → SR} {ds : List D} {s : Sl} {z : SR} (hz : loopF f ds s = z) (m : Nat) (J : Nat → Sl → Prop) (hm : ds.length = m) (h0 : J 0 s) (hs : ∀ (i : Nat) (d : D) (s : Sl), ds[i]? = some d → J i s → ∃ s', f d s = .nx s' ∧ J (i + 1) s') :
    ∃ s', z = .nx s' ∧ J m s' :=
  loopF_key hz m J hm h0 fun i d s hd hJ => by
    obtain ⟨s', e, h⟩ := hs i d s hd hJ
    exact ⟨s', .inl e, h⟩
end PI
namespace PI
/-! ### slices -/
theorem cut_init {α : Type} (l : List α) (k : Nat) : cut l none (some (k : Int)) = l.take k := by
  unfold cut HT.sIx
  simp only [Int.toNat_natCast]
  rw [if_neg (by omega)]
  simp only [List.drop_zero, Nat.sub_zero]
  rw [List.take_eq_take_iff]; omega
theorem cut_from {α : Type} (l : List α) (k : Nat) : cut l (some (k : Int)) none = l.drop k := by
  unfold cut HT.sIx
  simp only [Int.toNat_natCast]
  rw [if_neg (by omega)]
  by_cases h : k ≤ l.length
  · rw [Nat.min_eq_left h]
    exact List.take_of_length_le (by rw [List.length_drop]; omega)
  · rw [Nat.min_eq_right (by omega), List.drop_of_length_le (Nat.le_refl _), List.drop_of_length_le (by omega), List.take_nil]
theorem cut_last {α : Type} (l : List α) : cut l (some (-1)) none = l.drop (l.length - 1) := by
  unfold cut HT.sIx
  simp only
  rw [if_pos (by omega), show ((-1 : Int) + (l.length : Int)).toNat = l.length - 1 by omega]
  exact List.take_of_length_le (by rw [List.length_drop]; omega)
theorem cut_but {α : Type} (l : List α) : cut l none (some (-1)) = l.take (l.length - 1) := by
  unfold cut HT.sIx
  simp only
  rw [if_pos (by omega), show ((-1 : Int) + (l.length : Int)).toNat = l.length - 1 by omega]
  simp
end PI
namespace PI
def AllP (P : D → Prop) : List D → Prop
  | [] => True
  | a :: l => P a ∧ AllP P l
theorem AllP.mem {P : D → Prop} : ∀ {l : List D}, AllP P l → ∀ x ∈ l, P x
  | _ :: _, h, x, hx => by
    rcases List.mem_cons.mp hx with rfl | hx
    · exact h.1
    · exact AllP.mem h.2 x hx
theorem loopC_allP {f : D → Sl → Res (Option D)} {s : Sl} {ds : List D} (P : D → Prop) (g : D → D) (h : AllP P ds) (H : ∀ d, P d → f d s = .ok (some (g d)) s) (hl : ds.length ≤ 16777216) : loopC f ds s [] = .ok (.lst (ds.map g)) s :=
  loopC_map g (fun d hd => H d (h.mem d hd)) hl
end PI
namespace PI
section
variable {f : D → Sl → Res (Option D)} {d y : D} {ds acc : List D} {s s' : Sl}
theorem loopC_none (h : f d s = .ok none s') : loopC f (d :: ds) s acc = loopC f ds s' acc := by rw [loopC, h]
theorem loopC_some (h : f d s = .ok (some y) s') : loopC f (d :: ds) s acc = if acc.length < lim then loopC f ds s' (y :: acc) else .bad := by rw [loopC, h]
theorem loopC_nil : loopC f [] s acc = .ok (.lst acc.reverse) s := rfl
end
end PI

namespace PI
/-- 0 is_whole(value, low, high); 0 value 1 low 2 high -/
def k0 : Ss := (.cons (.ret (.bop true (.cons (.op .isint (.cons (.e (.v 0)) .nil)) (.cons (.nt (.op .isbool (.cons (.e (.v 0)) .nil))) (.cons (.chain .le .le (.v 1) (.v 0) (.v 2)) .nil))))) .nil)
def c0 : Fn := { io := [false, false, false], n := 3, lam := false, fr := false, code := k0 }
/-- 1 need_whole(value, low, high); 0 value 1 low 2 high -/
def k1 : Ss := (.cons (.ite (.nt (.op .tru (.cons (.e (.call 0 (.cons (.e (.v 0)) (.cons (.e (.v 1)) (.cons (.e (.v 2)) .nil))))) .nil))) (.cons (.raise 1 none) .nil) .nil) .nil)
def c1 : Fn := { io := [false, false, false], n := 3, lam := false, fr := false, code := k1 }
/-- 2 is_tuple_of(value, low, high); 0 value 1 low 2 high -/
def k2 : Ss := (.cons (.ret (.bop true (.cons (.op .istuple (.cons (.e (.v 0)) .nil)) (.cons (.chain .le .le (.v 1) (.op .len (.cons (.e (.v 0)) .nil)) (.v 2)) .nil)))) .nil)
def c2 : Fn := { io := [false, false, false], n := 3, lam := false, fr := false, code := k2 }
/-- 3 is_ascending(values); 0 values 1 one 2 other -/
def k3 : Ss := (.cons (.ret (.op .all (.cons (.e (.comp (.t [(.n 1), (.n 2)]) (.zip (.e (.v 0)) (.e (.op (.sl true false) (.cons (.e (.v 0)) (.cons (.e (.k (.int 1))) .nil))))) .nil (.op .lt (.cons (.e (.v 1)) (.cons (.e (.v 2)) .nil))))) .nil))) .nil)
def c3 : Fn := { io := [false], n := 3, lam := false, fr := false, code := k3 }
/-- 4 is_set_below(value, many); 0 value 1 many 2 one -/
def k4 : Ss := (.cons (.ite (.bop false (.cons (.nt (.op .tru (.cons (.e (.op .istuple (.cons (.e (.v 0)) .nil))) .nil))) (.cons (.nt (.op .tru (.cons (.e (.op .all (.cons (.e (.comp (.n 2) (.e (.v 0)) .nil (.call 0 (.cons (.e (.v 2)) (.cons (.e (.k (.int 0))) (.cons (.e (.op .sub (.cons (.e (.v 1)) (.cons (.e (.k (.int 1))) .nil)))) .nil)))))) .nil))) .nil))) .nil))) (.cons (.ret (.k (.bl false))) .nil) .nil) (.cons (.ret (.call 3 (.cons (.e (.v 0)) .nil))) .nil))
def c4 : Fn := { io := [false, false], n := 3, lam := false, fr := false, code := k4 }
/-- 5 need_members(value); 0 value -/
def k5 : Ss := (.cons (.ex (.call 1 (.cons (.e (.v 0)) (.cons (.e (.k (.int 1))) (.cons (.e (.k (.int 12))) .nil))))) .nil)
def c5 : Fn := { io := [false], n := 1, lam := false, fr := false, code := k5 }
/-- 6 is_web_in(value); 0 value 1 own 2 heard -/
def k6 : Ss := (.cons (.ite (.nt (.op .tru (.cons (.e (.call 2 (.cons (.e (.v 0)) (.cons (.e (.k (.int 1))) (.cons (.e (.k (.int 12))) .nil))))) .nil))) (.cons (.ret (.k (.bl false))) .nil) .nil) (.cons (.ret (.op .all (.cons (.e (.comp (.t [(.n 1), (.n 2)]) (.enum (.e (.v 0))) .nil (.bop true (.cons (.call 4 (.cons (.e (.v 2)) (.cons (.e (.op .len (.cons (.e (.v 0)) .nil))) .nil))) (.cons (.op .isin (.cons (.e (.v 1)) (.cons (.e (.v 2)) .nil))) .nil))))) .nil))) .nil))
def c6 : Fn := { io := [false], n := 3, lam := false, fr := false, code := k6 }
/-- 7 need_web(value); 0 value -/
def k7 : Ss := (.cons (.ite (.nt (.op .tru (.cons (.e (.call 6 (.cons (.e (.v 0)) .nil))) .nil))) (.cons (.raise 2 none) .nil) .nil) .nil)
def c7 : Fn := { io := [false], n := 1, lam := false, fr := false, code := k7 }
/-- 8 hearers_in(web, member); 0 web 1 member 2 own 3 heard -/
def k8 : Ss := (.cons (.ret (.comp (.t [(.n 2), (.n 3)]) (.enum (.e (.v 0))) (.cons (.op .isin (.cons (.e (.v 1)) (.cons (.e (.v 3)) .nil))) .nil) (.v 2))) .nil)
def c8 : Fn := { io := [false, false], n := 4, lam := false, fr := false, code := k8 }
/-- 9 is_web(value); 0 value -/
def k9 : Ss := (.cons (.ret (.call 6 (.cons (.e (.v 0)) .nil))) .nil)
def c9 : Fn := { io := [false], n := 1, lam := false, fr := false, code := k9 }
/-- 10 is_lot(members, value); 0 members 1 value -/
def k10 : Ss := (.cons (.ex (.call 5 (.cons (.e (.v 0)) .nil))) (.cons (.ret (.call 4 (.cons (.e (.v 1)) (.cons (.e (.v 0)) .nil)))) .nil))
def c10 : Fn := { io := [false, false], n := 2, lam := false, fr := false, code := k10 }
/-- 11 heard_by(web, member); 0 web 1 member -/
def k11 : Ss := (.cons (.ex (.call 7 (.cons (.e (.v 0)) .nil))) (.cons (.ex (.call 1 (.cons (.e (.v 1)) (.cons (.e (.k (.int 0))) (.cons (.e (.op .sub (.cons (.e (.op .len (.cons (.e (.v 0)) .nil))) (.cons (.e (.k (.int 1))) .nil)))) .nil))))) (.cons (.ret (.op .item (.cons (.e (.v 0)) (.cons (.e (.v 1)) .nil)))) .nil)))
def c11 : Fn := { io := [false, false], n := 2, lam := false, fr := false, code := k11 }
/-- 12 hearers_of(web, member); 0 web 1 member -/
def k12 : Ss := (.cons (.ex (.call 7 (.cons (.e (.v 0)) .nil))) (.cons (.ex (.call 1 (.cons (.e (.v 1)) (.cons (.e (.k (.int 0))) (.cons (.e (.op .sub (.cons (.e (.op .len (.cons (.e (.v 0)) .nil))) (.cons (.e (.k (.int 1))) .nil)))) .nil))))) (.cons (.ret (.op .tuple (.cons (.e (.call 8 (.cons (.e (.v 0)) (.cons (.e (.v 1)) .nil)))) .nil))) .nil)))
def c12 : Fn := { io := [false, false], n := 2, lam := false, fr := false, code := k12 }
/-- 13 _law_cup(script); 0 script 1 cell -/
def k13 : Ss := (.cons (.asg 1 false (.op .abs (.cons (.e (.op .item (.cons (.e (.op .add (.cons (.e (.op .list (.cons (.e (.v 0)) .nil))) (.cons (.e (.op .lst (.cons (.e (.k (.int 0))) .nil))) .nil)))) (.cons (.e (.k (.int 0))) .nil)))) .nil))) (.cons (.ret (.op .lst (.cons (.e (.ite (.op .ge (.cons (.e (.v 1)) (.cons (.e (.op .pow (.cons (.e (.k (.int 10))) (.cons (.e (.k (.int 18))) .nil)))) .nil))) (.op .fdiv (.cons (.e (.v 1)) (.cons (.e (.k (.int 353))) .nil))) (.k (.int 0)))) (.cons (.e (.op .mod (.cons (.e (.op .int1 (.cons (.e (.op .add (.cons (.e (.op .mul (.cons (.e (.v 1)) (.cons (.e (.k (.int 1129))) .nil)))) (.cons (.e (.k (.int 109139))) .nil)))) .nil))) (.cons (.e (.k (.int 1048576))) .nil)))) .nil)))) .nil))
def c13 : Fn := { io := [false], n := 2, lam := false, fr := true, code := k13 }
/-- 14 _law_roll(cup, many); 0 cup 1 many 2 found -/
def k14 : Ss := (.cons (.ite (.op .gt (.cons (.e (.op .item (.cons (.b 0) (.cons (.e (.k (.int 0))) .nil)))) (.cons (.e (.k (.int 0))) .nil))) (.cons (.asg 2 false (.op .mod (.cons (.e (.op .int1 (.cons (.e (.op .item (.cons (.b 0) (.cons (.e (.k (.int 0))) .nil)))) .nil))) (.cons (.e (.v 1)) .nil)))) (.cons (.sub 0 (.k (.int 0)) (.op .fdiv (.cons (.e (.op .item (.cons (.b 0) (.cons (.e (.k (.int 0))) .nil)))) (.cons (.e (.v 1)) .nil)))) (.cons (.ret (.v 2)) .nil))) .nil) (.cons (.sub 0 (.k (.int 1)) (.op .mod (.cons (.e (.op .int1 (.cons (.e (.op .add (.cons (.e (.op .mul (.cons (.e (.op .item (.cons (.b 0) (.cons (.e (.k (.int 1))) .nil)))) (.cons (.e (.k (.int 29573))) .nil)))) (.cons (.e (.k (.int 66877))) .nil)))) .nil))) (.cons (.e (.k (.int 1048576))) .nil)))) (.cons (.ret (.op .mod (.cons (.e (.op .int1 (.cons (.e (.op .fdiv (.cons (.e (.op .item (.cons (.b 0) (.cons (.e (.k (.int 1))) .nil)))) (.cons (.e (.k (.int 167))) .nil)))) .nil))) (.cons (.e (.v 1)) .nil)))) .nil)))
def c14 : Fn := { io := [true, false], n := 3, lam := false, fr := false, code := k14 }
/-- 15 _law_sort(value); 0 value -/
def k15 : Ss := (.cons (.ite (.bop false (.cons (.op .isn (.cons (.e (.v 0)) .nil)) (.cons (.op .tru (.cons (.e (.op .isbool (.cons (.e (.v 0)) .nil))) .nil)) .nil))) (.cons (.ret (.ite (.op .isn (.cons (.e (.v 0)) .nil)) (.k (.int 0)) (.k (.int 1)))) .nil) .nil) (.cons (.ite (.bop false (.cons (.op .tru (.cons (.e (.op .isint (.cons (.e (.v 0)) .nil))) .nil)) (.cons (.op .tru (.cons (.e (.op .isstr (.cons (.e (.v 0)) .nil))) .nil)) .nil))) (.cons (.ret (.ite (.op .tru (.cons (.e (.op .isint (.cons (.e (.v 0)) .nil))) .nil)) (.k (.int 2)) (.k (.int 3)))) .nil) .nil) (.cons (.ret (.ite (.op .tru (.cons (.e (.op .istuple (.cons (.e (.v 0)) .nil))) .nil)) (.k (.int 4)) (.ite (.op .tru (.cons (.e (.op .islist (.cons (.e (.v 0)) .nil))) .nil)) (.k (.int 5)) (.k (.int 6))))) .nil)))
def c15 : Fn := { io := [false], n := 1, lam := false, fr := false, code := k15 }
/-- 16 _law_like(one, other); 0 one 1 other 2 sort 3 first 4 second -/
def k16 : Ss := (.cons (.asg 2 false (.call 15 (.cons (.e (.v 1)) .nil))) (.cons (.ite (.bop false (.cons (.op .ne (.cons (.e (.call 15 (.cons (.e (.v 0)) .nil))) (.cons (.e (.v 2)) .nil))) (.cons (.op .eq (.cons (.e (.v 2)) (.cons (.e (.k (.int 6))) .nil))) .nil))) (.cons (.ret (.k (.bl false))) .nil) .nil) (.cons (.ite (.op .isin (.cons (.e (.v 2)) (.cons (.e (.op .tup (.cons (.e (.k (.int 4))) (.cons (.e (.k (.int 5))) .nil)))) .nil))) (.cons (.ret (.bop true (.cons (.op .eq (.cons (.e (.op .len (.cons (.e (.v 0)) .nil))) (.cons (.e (.op .len (.cons (.e (.v 1)) .nil))) .nil))) (.cons (.op .eq (.cons (.e (.comp (.t [(.n 3), (.n 4)]) (.zip (.e (.v 0)) (.e (.v 1))) (.cons (.nt (.op .tru (.cons (.e (.call 16 (.cons (.e (.v 3)) (.cons (.e (.v 4)) .nil)))) .nil))) .nil) (.k (.int 1)))) (.cons (.e (.op .lst .nil)) .nil))) .nil)))) .nil) .nil) (.cons (.ret (.op .eq (.cons (.e (.v 0)) (.cons (.e (.v 1)) .nil)))) .nil))))
def c16 : Fn := { io := [false, false], n := 5, lam := false, fr := false, code := k16 }
/-- 17 _law_error(call); 0 call 1 e 2 word 3 is_so -/
def k17 : Ss := (.cons (.tryE (.cons (.ex .thunk) .nil) 0 (some 1) (.cons (.ret (.op .join (.cons (.e (.k (.str []))) (.cons (.e (.comp (.t [(.n 2), (.n 3)]) (.e (.op .lst (.cons (.e (.op .tup (.cons (.e (.k (.str [110, 117, 109, 98, 101, 114]))) (.cons (.e (.op (.isexc 1) (.cons (.e (.v 1)) .nil))) .nil)))) (.cons (.e (.op .tup (.cons (.e (.k (.str [119, 101, 98]))) (.cons (.e (.op (.isexc 2) (.cons (.e (.v 1)) .nil))) .nil)))) .nil)))) (.cons (.op .tru (.cons (.e (.v 3)) .nil)) .nil) (.v 2))) .nil)))) .nil)) (.cons (.ret (.k (.str []))) .nil))
def c17 : Fn := { io := [], n := 4, lam := true, fr := false, code := k17 }
/-- 18 _law_lots(many); 0 many 1 found 2 own 3 lot -/
def k18 : Ss := (.cons (.asg 1 false (.op .lst (.cons (.e (.op .tup .nil)) .nil))) (.cons (.for (.n 2) (.range (.cons (.e (.v 0)) .nil)) (.cons (.asg 1 false (.op .add (.cons (.e (.v 1)) (.cons (.e (.comp (.n 3) (.e (.v 1)) .nil (.op .add (.cons (.e (.v 3)) (.cons (.e (.op .tup (.cons (.e (.v 2)) .nil))) .nil))))) .nil)))) .nil)) (.cons (.ret (.v 1)) .nil)))
def c18 : Fn := { io := [false], n := 4, lam := false, fr := false, code := k18 }
/-- 19 _law_small_right(many); 0 many 1 lots 2 rows 3 own 4 longer 5 row 6 bad 7 due 8 lot 9 heard -/
def k19 : Ss := (.cons (.par [(1, false), (2, false)] (.cons (.e (.call 18 (.cons (.e (.op .add (.cons (.e (.v 0)) (.cons (.e (.k (.int 1))) .nil)))) .nil))) (.cons (.e (.op .lst (.cons (.e (.op .tup .nil)) .nil))) .nil))) (.cons (.for (.n 3) (.range (.cons (.e (.v 0)) .nil)) (.cons (.asg 4 false (.op .lst .nil)) (.cons (.for (.n 5) (.e (.v 2)) (.cons (.asg 4 false (.op .add (.cons (.e (.v 4)) (.cons (.e (.comp (.n 8) (.e (.v 1)) .nil (.op .add (.cons (.e (.v 5)) (.cons (.e (.op .tup (.cons (.e (.v 8)) .nil))) .nil))))) .nil)))) .nil)) (.cons (.asg 2 false (.v 4)) .nil)))) (.cons (.for (.n 5) (.e (.v 2)) (.cons (.asg 6 false (.comp (.t [(.n 3), (.n 9)]) (.enum (.e (.v 5))) (.cons (.bop false (.cons (.op .notin (.cons (.e (.v 3)) (.cons (.e (.v 9)) .nil))) (.cons (.op .isin (.cons (.e (.v 0)) (.cons (.e (.v 9)) .nil))) .nil))) .nil) (.v 3))) (.cons (.ite (.nt (.op .tru (.cons (.e (.call 16 (.cons (.e (.call 9 (.cons (.e (.v 5)) .nil))) (.cons (.e (.op .eq (.cons (.e (.v 6)) (.cons (.e (.op .lst .nil)) .nil)))) .nil)))) .nil))) (.cons (.ret (.k (.bl false))) .nil) .nil) .nil))) (.cons (.asg 7 false (.comp (.n 8) (.e (.v 1)) .nil (.op .eq (.cons (.e (.op .len (.cons (.e (.comp (.n 3) (.e (.v 8)) (.cons (.op .ge (.cons (.e (.v 3)) (.cons (.e (.v 0)) .nil))) .nil) (.k (.int 1)))) .nil))) (.cons (.e (.k (.int 0))) .nil))))) (.cons (.ret (.call 16 (.cons (.e (.comp (.n 8) (.e (.v 1)) .nil (.call 10 (.cons (.e (.v 0)) (.cons (.e (.v 8)) .nil))))) (.cons (.e (.v 7)) .nil)))) .nil)))))
def c19 : Fn := { io := [false], n := 10, lam := false, fr := false, code := k19 }
/-- 20 _law_web(cup, many); 0 cup 1 many 2 part 3 own 4 far -/
def k20 : Ss := (.cons (.asg 2 false (.op .add (.cons (.e (.k (.int 1))) (.cons (.e (.call 14 (.cons (.b 0) (.cons (.e (.k (.int 4))) .nil)))) .nil)))) (.cons (.ret (.op .tuple (.cons (.e (.comp (.n 3) (.range (.cons (.e (.v 1)) .nil)) .nil (.op .tuple (.cons (.e (.comp (.n 4) (.range (.cons (.e (.v 1)) .nil)) (.cons (.bop false (.cons (.op .eq (.cons (.e (.v 4)) (.cons (.e (.v 3)) .nil))) (.cons (.op .lt (.cons (.e (.call 14 (.cons (.b 0) (.cons (.e (.k (.int 5))) .nil)))) (.cons (.e (.v 2)) .nil))) .nil))) .nil) (.v 4))) .nil)))) .nil))) .nil))
def c20 : Fn := { io := [true, false], n := 5, lam := false, fr := false, code := k20 }
/-- 21 _law_drawn_right(cup); 0 cup 1 many 2 web 3 own 4 heard 5 less 6 odds 7 told 8 far 9 odd -/
def k21 : Ss := (.cons (.asg 1 false (.op .add (.cons (.e (.k (.int 1))) (.cons (.e (.call 14 (.cons (.b 0) (.cons (.e (.k (.int 12))) .nil)))) .nil)))) (.cons (.asg 2 false (.call 20 (.cons (.b 0) (.cons (.e (.v 1)) .nil)))) (.cons (.for (.n 3) (.range (.cons (.e (.v 1)) .nil)) (.cons (.asg 4 false (.comp (.n 8) (.range (.cons (.e (.v 1)) .nil)) (.cons (.op .isin (.cons (.e (.v 3)) (.cons (.e (.op .item (.cons (.e (.v 2)) (.cons (.e (.v 8)) .nil)))) .nil))) .nil) (.v 8))) (.cons (.ite (.nt (.op .tru (.cons (.e (.call 16 (.cons (.e (.op .lst (.cons (.e (.call 11 (.cons (.e (.v 2)) (.cons (.e (.v 3)) .nil)))) (.cons (.e (.call 12 (.cons (.e (.v 2)) (.cons (.e (.v 3)) .nil)))) .nil)))) (.cons (.e (.op .lst (.cons (.e (.op .item (.cons (.e (.v 2)) (.cons (.e (.v 3)) .nil)))) (.cons (.e (.op .tuple (.cons (.e (.v 4)) .nil))) .nil)))) .nil)))) .nil))) (.cons (.ret (.k (.bl false))) .nil) .nil) .nil))) (.cons (.asg 3 false (.call 14 (.cons (.b 0) (.cons (.e (.v 1)) .nil)))) (.cons (.asg 4 false (.op .item (.cons (.e (.v 2)) (.cons (.e (.v 3)) .nil)))) (.cons (.asg 5 false (.op .tuple (.cons (.e (.comp (.n 8) (.e (.v 4)) (.cons (.op .ne (.cons (.e (.v 8)) (.cons (.e (.v 3)) .nil))) .nil) (.v 8))) .nil))) (.cons (.asg 6 false (.op .lst (.cons (.e (.v 5)) (.cons (.e (.op .add (.cons (.e (.v 4)) (.cons (.e (.op .tup (.cons (.e (.v 1)) .nil))) .nil)))) (.cons (.e (.op .add (.cons (.e (.op .tup (.cons (.e (.op .neg (.cons (.e (.k (.int 1))) .nil))) .nil))) (.cons (.e (.v 4)) .nil)))) (.cons (.e (.op .add (.cons (.e (.v 4)) (.cons (.e (.op (.sl true false) (.cons (.e (.v 4)) (.cons (.e (.op .neg (.cons (.e (.k (.int 1))) .nil))) .nil)))) .nil)))) (.cons (.e (.op .list (.cons (.e (.v 4)) .nil))) (.cons (.e (.k .non)) (.cons (.e (.ite (.op .gt (.cons (.e (.op .len (.cons (.e (.v 4)) .nil))) (.cons (.e (.k (.int 1))) .nil))) (.op .add (.cons (.e (.op (.sl true false) (.cons (.e (.v 4)) (.cons (.e (.op .neg (.cons (.e (.k (.int 1))) .nil))) .nil)))) (.cons (.e (.op (.sl false true) (.cons (.e (.v 4)) (.cons (.e (.op .neg (.cons (.e (.k (.int 1))) .nil))) .nil)))) .nil))) (.op .tup (.cons (.e (.v 3)) (.cons (.e (.v 3)) .nil))))) (.cons (.e (.op .tuple (.cons (.e (.op .add (.cons (.e (.op .lst (.cons (.e (.k .non)) .nil))) (.cons (.e (.op .list (.cons (.e (.v 4)) .nil))) .nil)))) .nil))) .nil)))))))))) (.cons (.asg 7 false (.op .add (.cons (.e (.op .add (.cons (.e (.op .lst (.cons (.e (.call 9 (.cons (.e (.v 2)) .nil))) .nil))) (.cons (.e (.comp (.n 9) (.e (.v 6)) .nil (.call 9 (.cons (.e (.op .add (.cons (.e (.op .add (.cons (.e (.op (.sl false true) (.cons (.e (.v 2)) (.cons (.e (.v 3)) .nil)))) (.cons (.e (.op .tup (.cons (.e (.v 9)) .nil))) .nil)))) (.cons (.e (.op (.sl true false) (.cons (.e (.v 2)) (.cons (.e (.op .add (.cons (.e (.v 3)) (.cons (.e (.k (.int 1))) .nil)))) .nil)))) .nil)))) .nil)))) .nil)))) (.cons (.e (.op .lst (.cons (.e (.call 9 (.cons (.e (.op .add (.cons (.e (.v 2)) (.cons (.e (.op .tup (.cons (.e (.v 4)) .nil))) .nil)))) .nil))) (.cons (.e (.call 9 (.cons (.e (.op .list (.cons (.e (.v 2)) .nil))) .nil))) .nil)))) .nil)))) (.cons (.ret (.call 16 (.cons (.e (.v 7)) (.cons (.e (.op .add (.cons (.e (.op .lst (.cons (.e (.k (.bl true))) .nil))) (.cons (.e (.op .mul (.cons (.e (.op .lst (.cons (.e (.k (.bl false))) .nil))) (.cons (.e (.k (.int 10))) .nil)))) .nil)))) .nil)))) .nil)))))))))
def c21 : Fn := { io := [true], n := 10, lam := false, fr := false, code := k21 }
/-- 22 _law_lots_right(cup); 0 cup 1 many 2 lot 3 told 4 own -/
def k22 : Ss := (.cons (.asg 1 false (.op .add (.cons (.e (.k (.int 1))) (.cons (.e (.call 14 (.cons (.b 0) (.cons (.e (.k (.int 12))) .nil)))) .nil)))) (.cons (.asg 2 false (.op .tuple (.cons (.e (.comp (.n 4) (.range (.cons (.e (.v 1)) .nil)) (.cons (.op .eq (.cons (.e (.call 14 (.cons (.b 0) (.cons (.e (.k (.int 2))) .nil)))) (.cons (.e (.k (.int 1))) .nil))) .nil) (.v 4))) .nil))) (.cons (.asg 3 false (.op .lst (.cons (.e (.call 10 (.cons (.e (.v 1)) (.cons (.e (.v 2)) .nil)))) (.cons (.e (.call 10 (.cons (.e (.v 1)) (.cons (.e (.op .add (.cons (.e (.v 2)) (.cons (.e (.op .tup (.cons (.e (.v 1)) .nil))) .nil)))) .nil)))) (.cons (.e (.call 10 (.cons (.e (.v 1)) (.cons (.e (.op .add (.cons (.e (.op .tup (.cons (.e (.k (.int 0))) .nil))) (.cons (.e (.v 2)) .nil)))) .nil)))) (.cons (.e (.call 10 (.cons (.e (.v 1)) (.cons (.e (.op .list (.cons (.e (.v 2)) .nil))) .nil)))) (.cons (.e (.call 10 (.cons (.e (.v 1)) (.cons (.e (.op .add (.cons (.e (.op .tup (.cons (.e (.op .neg (.cons (.e (.k (.int 1))) .nil))) .nil))) (.cons (.e (.v 2)) .nil)))) .nil)))) (.cons (.e (.call 10 (.cons (.e (.v 1)) (.cons (.e (.op .rev (.cons (.e (.v 2)) .nil))) .nil)))) .nil)))))))) (.cons (.ite (.nt (.op .tru (.cons (.e (.call 16 (.cons (.e (.v 3)) (.cons (.e (.op .lst (.cons (.e (.k (.bl true))) (.cons (.e (.k (.bl false))) (.cons (.e (.op .notin (.cons (.e (.k (.int 0))) (.cons (.e (.v 2)) .nil)))) (.cons (.e (.k (.bl false))) (.cons (.e (.k (.bl false))) (.cons (.e (.op .lt (.cons (.e (.op .len (.cons (.e (.v 2)) .nil))) (.cons (.e (.k (.int 2))) .nil)))) .nil)))))))) .nil)))) .nil))) (.cons (.ret (.k (.bl false))) .nil) .nil) (.cons (.ret (.call 16 (.cons (.e (.op .lst (.cons (.e (.call 10 (.cons (.e (.k (.int 12))) (.cons (.e (.conv true (.range (.cons (.e (.k (.int 12))) .nil)))) .nil)))) (.cons (.e (.call 10 (.cons (.e (.k (.int 12))) (.cons (.e (.conv true (.range (.cons (.e (.k (.int 13))) .nil)))) .nil)))) (.cons (.e (.call 10 (.cons (.e (.v 1)) (.cons (.e (.op .tup (.cons (.e (.k (.bl false))) .nil))) .nil)))) (.cons (.e (.call 10 (.cons (.e (.v 1)) (.cons (.e (.op .tup (.cons (.e (.k (.str [48]))) .nil))) .nil)))) .nil)))))) (.cons (.e (.op .lst (.cons (.e (.k (.bl true))) (.cons (.e (.k (.bl false))) (.cons (.e (.k (.bl false))) (.cons (.e (.k (.bl false))) .nil)))))) .nil)))) .nil)))))
def c22 : Fn := { io := [true], n := 5, lam := false, fr := false, code := k22 }
/-- 23 _law_errors_right(); 0 odds 1 good 2 words 3 odd 4 own 5 call -/
def k23 : Ss := (.cons (.tup (.t [(.n 0), (.n 1)]) (.op .tup (.cons (.e (.op .lst (.cons (.e (.k .non)) (.cons (.e (.op .tup .nil)) (.cons (.e (.k (.int 0))) (.cons (.e (.k (.str [119, 101, 98]))) (.cons (.e (.op .lst (.cons (.e (.op .tup (.cons (.e (.k (.int 0))) .nil))) .nil))) (.cons (.e (.op .tup (.cons (.e (.op .tup (.cons (.e (.k (.int 1))) .nil))) (.cons (.e (.op .tup (.cons (.e (.k (.int 1))) .nil))) .nil)))) (.cons (.e (.op .tup (.cons (.e (.op .tup (.cons (.e (.k (.int 0))) .nil))) (.cons (.e (.op .tup (.cons (.e (.k (.int 0))) .nil))) .nil)))) (.cons (.e (.op .tup (.cons (.e (.op .tup (.cons (.e (.k (.int 0))) (.cons (.e (.k (.int 0))) .nil)))) .nil))) (.cons (.e (.op .tup (.cons (.e (.op .tup (.cons (.e (.k (.bl true))) .nil))) .nil))) (.cons (.e (.op .tup (.cons (.e (.op .tup (.cons (.e (.k (.bl false))) .nil))) .nil))) (.cons (.e (.op .tup (.cons (.e (.op .tup (.cons (.e (.k (.int 0))) .nil))) (.cons (.e (.op .tup (.cons (.e (.k (.int 1))) (.cons (.e (.k (.int 0))) .nil)))) .nil)))) (.cons (.e (.op .tup (.cons (.e (.op .tup (.cons (.e (.k (.int 0))) (.cons (.e (.k (.int 1))) .nil)))) .nil))) (.cons (.e (.op .tuple (.cons (.e (.comp (.n 4) (.range (.cons (.e (.k (.int 13))) .nil)) .nil (.op .tup (.cons (.e (.v 4)) .nil)))) .nil))) .nil))))))))))))))) (.cons (.e (.op .tup (.cons (.e (.op .tup (.cons (.e (.k (.int 0))) (.cons (.e (.k (.int 1))) .nil)))) (.cons (.e (.op .tup (.cons (.e (.k (.int 1))) .nil))) .nil)))) .nil)))) (.cons (.asg 2 false (.op .lst .nil)) (.cons (.for (.n 3) (.e (.v 0)) (.cons (.asg 2 false (.op .add (.cons (.e (.v 2)) (.cons (.e (.comp (.n 5) (.e (.op .tup (.cons (.e (.fn 11)) (.cons (.e (.fn 12)) .nil)))) .nil (.lamc 17 (.callv 5 (.cons (.e (.v 3)) (.cons (.e (.k .non)) .nil)))))) .nil)))) .nil)) (.cons (.ite (.bop false (.cons (.op .ne (.cons (.e (.v 2)) (.cons (.e (.op .mul (.cons (.e (.op .lst (.cons (.e (.k (.str [119, 101, 98]))) .nil))) (.cons (.e (.k (.int 26))) .nil)))) .nil))) (.cons (.op .ne (.cons (.e (.comp (.n 3) (.e (.v 0)) (.cons (.op (.isnb false) (.cons (.e (.call 9 (.cons (.e (.v 3)) .nil))) .nil)) .nil) (.v 3))) (.cons (.e (.op .lst .nil)) .nil))) .nil))) (.cons (.ret (.k (.bl false))) .nil) .nil) (.cons (.asg 2 false (.op .lst .nil)) (.cons (.for (.n 3) (.e (.op .tup (.cons (.e (.k .non)) (.cons (.e (.op .neg (.cons (.e (.k (.int 1))) .nil))) (.cons (.e (.k (.int 2))) (.cons (.e (.k (.bl true))) (.cons (.e (.k (.str [48]))) (.cons (.e (.op .tup (.cons (.e (.k (.int 0))) .nil))) .nil)))))))) (.cons (.asg 2 false (.op .add (.cons (.e (.v 2)) (.cons (.e (.comp (.n 5) (.e (.op .tup (.cons (.e (.fn 11)) (.cons (.e (.fn 12)) .nil)))) .nil (.lamc 17 (.callv 5 (.cons (.e (.v 1)) (.cons (.e (.v 3)) .nil)))))) .nil)))) .nil)) (.cons (.asg 2 false (.op .add (.cons (.e (.v 2)) (.cons (.e (.comp (.n 3) (.e (.op .tup (.cons (.e (.k .non)) (.cons (.e (.k (.int 0))) (.cons (.e (.k (.int 13))) (.cons (.e (.k (.bl true))) (.cons (.e (.k (.str [51]))) (.cons (.e (.op .neg (.cons (.e (.k (.int 1))) .nil))) .nil)))))))) .nil (.lamc 17 (.call 10 (.cons (.e (.v 3)) (.cons (.e (.op .tup .nil)) .nil)))))) .nil)))) (.cons (.ret (.bop true (.cons (.op .eq (.cons (.e (.v 2)) (.cons (.e (.op .mul (.cons (.e (.op .lst (.cons (.e (.k (.str [110, 117, 109, 98, 101, 114]))) .nil))) (.cons (.e (.k (.int 18))) .nil)))) .nil))) (.cons (.op (.isb true) (.cons (.e (.call 9 (.cons (.e (.op .tuple (.cons (.e (.comp (.n 4) (.range (.cons (.e (.k (.int 12))) .nil)) .nil (.op .tup (.cons (.e (.v 4)) .nil)))) .nil))) .nil))) .nil)) .nil)))) .nil))))))))
def c23 : Fn := { io := [], n := 6, lam := false, fr := false, code := k23 }
/-- 24 law(script); 0 script 1 web 2 told 3 cup 4 turn 5 many -/
def k24 : Ss := (.cons (.asg 1 false (.op .tup (.cons (.e (.op .tup (.cons (.e (.k (.int 0))) (.cons (.e (.k (.int 1))) .nil)))) (.cons (.e (.op .tup (.cons (.e (.k (.int 1))) .nil))) (.cons (.e (.op .tup (.cons (.e (.k (.int 0))) (.cons (.e (.k (.int 1))) (.cons (.e (.k (.int 2))) .nil))))) .nil))))) (.cons (.asg 2 false (.op .lst (.cons (.e (.call 9 (.cons (.e (.v 1)) .nil))) (.cons (.e (.call 9 (.cons (.e (.op .tup (.cons (.e (.op .tup (.cons (.e (.k (.int 0))) .nil))) .nil))) .nil))) (.cons (.e (.call 9 (.cons (.e (.op .tup (.cons (.e (.op .tup (.cons (.e (.k (.int 1))) (.cons (.e (.k (.int 0))) .nil)))) (.cons (.e (.op .tup (.cons (.e (.k (.int 1))) .nil))) .nil)))) .nil))) (.cons (.e (.call 10 (.cons (.e (.k (.int 3))) (.cons (.e (.op .tup (.cons (.e (.k (.int 0))) (.cons (.e (.k (.int 2))) .nil)))) .nil)))) (.cons (.e (.call 10 (.cons (.e (.k (.int 3))) (.cons (.e (.op .tup .nil)) .nil)))) (.cons (.e (.call 10 (.cons (.e (.k (.int 3))) (.cons (.e (.op .tup (.cons (.e (.k (.int 3))) .nil))) .nil)))) (.cons (.e (.call 11 (.cons (.e (.v 1)) (.cons (.e (.k (.int 2))) .nil)))) (.cons (.e (.call 12 (.cons (.e (.v 1)) (.cons (.e (.k (.int 1))) .nil)))) (.cons (.e (.call 12 (.cons (.e (.v 1)) (.cons (.e (.k (.int 2))) .nil)))) .nil))))))))))) (.cons (.ite (.nt (.op .tru (.cons (.e (.call 16 (.cons (.e (.v 2)) (.cons (.e (.op .lst (.cons (.e (.k (.bl true))) (.cons (.e (.k (.bl true))) (.cons (.e (.k (.bl false))) (.cons (.e (.k (.bl true))) (.cons (.e (.k (.bl true))) (.cons (.e (.k (.bl false))) (.cons (.e (.op .tup (.cons (.e (.k (.int 0))) (.cons (.e (.k (.int 1))) (.cons (.e (.k (.int 2))) .nil))))) (.cons (.e (.op .tup (.cons (.e (.k (.int 0))) (.cons (.e (.k (.int 1))) (.cons (.e (.k (.int 2))) .nil))))) (.cons (.e (.op .tup (.cons (.e (.k (.int 2))) .nil))) .nil))))))))))) .nil)))) .nil))) (.cons (.ret (.k (.bl false))) .nil) .nil) (.cons (.ite (.bop false (.cons (.nt (.op .tru (.cons (.e (.call 23 .nil)) .nil))) (.cons (.op .ne (.cons (.e (.comp (.n 5) (.e (.op .tup (.cons (.e (.k (.int 1))) (.cons (.e (.k (.int 2))) (.cons (.e (.k (.int 3))) .nil))))) (.cons (.nt (.op .tru (.cons (.e (.call 19 (.cons (.e (.v 5)) .nil))) .nil))) .nil) (.v 5))) (.cons (.e (.op .lst .nil)) .nil))) .nil))) (.cons (.ret (.k (.bl false))) .nil) .nil) (.cons (.asg 3 true (.call 13 (.cons (.e (.v 0)) .nil))) (.cons (.for (.n 4) (.range (.cons (.e (.k (.int 12))) .nil)) (.cons (.ite (.bop false (.cons (.nt (.op .tru (.cons (.e (.call 21 (.cons (.b 3) .nil))) .nil))) (.cons (.nt (.op .tru (.cons (.e (.call 22 (.cons (.b 3) .nil))) .nil))) .nil))) (.cons (.ret (.k (.bl false))) .nil) .nil) .nil)) (.cons (.ret (.k (.bl true))) .nil)))))))
def c24 : Fn := { io := [false], n := 6, lam := false, fr := false, code := k24 }
def prog : Prog := ⟨[c0, c1, c2, c3, c4, c5, c6, c7, c8, c9, c10, c11, c12, c13, c14, c15, c16, c17, c18, c19, c20, c21, c22, c23, c24], 3⟩

def cx (n : Nat) : Cn := cnx prog n
theorem cx_call {n : Nat} : (cx n).call = Φ prog n := rfl
theorem cx_lam {n : Nat} : (cx n).lam = Ψ prog n := rfl
theorem cx_noio {n : Nat} : (cx n).noio = noioF prog := rfl
def cxl (n : Nat) (t : TR) : Cn := ⟨fun _ _ => .bad, fun _ _ => .bad, t, fun _ _ => false, prog.nx, 3 * n⟩
theorem u0 {n : Nat} {a0 a1 a2 : D} : Φ prog (n + 1) 0 [a0, a1, a2] = endS [false, false, false] false (execs (cx n) k0 [.fz a0, .fz a1, .fz a2]) := run_eq (f := c0) rfl rfl rfl rfl rfl rfl rfl
theorem u1 {n : Nat} {a0 a1 a2 : D} : Φ prog (n + 1) 1 [a0, a1, a2] = endS [false, false, false] false (execs (cx n) k1 [.fz a0, .fz a1, .fz a2]) := run_eq (f := c1) rfl rfl rfl rfl rfl rfl rfl
theorem u2 {n : Nat} {a0 a1 a2 : D} : Φ prog (n + 1) 2 [a0, a1, a2] = endS [false, false, false] false (execs (cx n) k2 [.fz a0, .fz a1, .fz a2]) := run_eq (f := c2) rfl rfl rfl rfl rfl rfl rfl
theorem u3 {n : Nat} {a0 : D} : Φ prog (n + 1) 3 [a0] = endS [false] false (execs (cx n) k3 [.fz a0, .no, .no]) := run_eq (f := c3) rfl rfl rfl rfl rfl rfl rfl
theorem u4 {n : Nat} {a0 a1 : D} : Φ prog (n + 1) 4 [a0, a1] = endS [false, false] false (execs (cx n) k4 [.fz a0, .fz a1, .no]) := run_eq (f := c4) rfl rfl rfl rfl rfl rfl rfl
theorem u5 {n : Nat} {a0 : D} : Φ prog (n + 1) 5 [a0] = endS [false] false (execs (cx n) k5 [.fz a0]) := run_eq (f := c5) rfl rfl rfl rfl rfl rfl rfl
theorem u6 {n : Nat} {a0 : D} : Φ prog (n + 1) 6 [a0] = endS [false] false (execs (cx n) k6 [.fz a0, .no, .no]) := run_eq (f := c6) rfl rfl rfl rfl rfl rfl rfl
theorem u7 {n : Nat} {a0 : D} : Φ prog (n + 1) 7 [a0] = endS [false] false (execs (cx n) k7 [.fz a0]) := run_eq (f := c7) rfl rfl rfl rfl rfl rfl rfl
theorem u8 {n : Nat} {a0 a1 : D} : Φ prog (n + 1) 8 [a0, a1] = endS [false, false] false (execs (cx n) k8 [.fz a0, .fz a1, .no, .no]) := run_eq (f := c8) rfl rfl rfl rfl rfl rfl rfl
theorem u9 {n : Nat} {a0 : D} : Φ prog (n + 1) 9 [a0] = endS [false] false (execs (cx n) k9 [.fz a0]) := run_eq (f := c9) rfl rfl rfl rfl rfl rfl rfl
theorem u10 {n : Nat} {a0 a1 : D} : Φ prog (n + 1) 10 [a0, a1] = endS [false, false] false (execs (cx n) k10 [.fz a0, .fz a1]) := run_eq (f := c10) rfl rfl rfl rfl rfl rfl rfl
theorem u11 {n : Nat} {a0 a1 : D} : Φ prog (n + 1) 11 [a0, a1] = endS [false, false] false (execs (cx n) k11 [.fz a0, .fz a1]) := run_eq (f := c11) rfl rfl rfl rfl rfl rfl rfl
theorem u12 {n : Nat} {a0 a1 : D} : Φ prog (n + 1) 12 [a0, a1] = endS [false, false] false (execs (cx n) k12 [.fz a0, .fz a1]) := run_eq (f := c12) rfl rfl rfl rfl rfl rfl rfl
theorem u13 {n : Nat} {a0 : D} : Φ prog (n + 1) 13 [a0] = endS [false] true (execs (cx n) k13 [.fz a0, .no]) := run_eq (f := c13) rfl rfl rfl rfl rfl rfl rfl
theorem u14 {n : Nat} {a0 a1 : D} : Φ prog (n + 1) 14 [a0, a1] = endS [true, false] false (execs (cx n) k14 [.ino a0, .fz a1, .no]) := run_eq (f := c14) rfl rfl rfl rfl rfl rfl rfl
theorem u15 {n : Nat} {a0 : D} : Φ prog (n + 1) 15 [a0] = endS [false] false (execs (cx n) k15 [.fz a0]) := run_eq (f := c15) rfl rfl rfl rfl rfl rfl rfl
theorem u16 {n : Nat} {a0 a1 : D} : Φ prog (n + 1) 16 [a0, a1] = endS [false, false] false (execs (cx n) k16 [.fz a0, .fz a1, .no, .no, .no]) := run_eq (f := c16) rfl rfl rfl rfl rfl rfl rfl
theorem u18 {n : Nat} {a0 : D} : Φ prog (n + 1) 18 [a0] = endS [false] false (execs (cx n) k18 [.fz a0, .no, .no, .no]) := run_eq (f := c18) rfl rfl rfl rfl rfl rfl rfl
theorem u19 {n : Nat} {a0 : D} : Φ prog (n + 1) 19 [a0] = endS [false] false (execs (cx n) k19 [.fz a0, .no, .no, .no, .no, .no, .no, .no, .no, .no]) := run_eq (f := c19) rfl rfl rfl rfl rfl rfl rfl
theorem u20 {n : Nat} {a0 a1 : D} : Φ prog (n + 1) 20 [a0, a1] = endS [true, false] false (execs (cx n) k20 [.ino a0, .fz a1, .no, .no, .no]) := run_eq (f := c20) rfl rfl rfl rfl rfl rfl rfl
theorem u21 {n : Nat} {a0 : D} : Φ prog (n + 1) 21 [a0] = endS [true] false (execs (cx n) k21 [.ino a0, .no, .no, .no, .no, .no, .no, .no, .no, .no]) := run_eq (f := c21) rfl rfl rfl rfl rfl rfl rfl
theorem u22 {n : Nat} {a0 : D} : Φ prog (n + 1) 22 [a0] = endS [true] false (execs (cx n) k22 [.ino a0, .no, .no, .no, .no]) := run_eq (f := c22) rfl rfl rfl rfl rfl rfl rfl
theorem u23 {n : Nat} : Φ prog (n + 1) 23 [] = endS [] false (execs (cx n) k23 [.no, .no, .no, .no, .no, .no]) := run_eq (f := c23) rfl rfl rfl rfl rfl rfl rfl
theorem u24 {n : Nat} {a0 : D} : Φ prog (n + 1) 24 [a0] = endS [false] false (execs (cx n) k24 [.fz a0, .no, .no, .no, .no, .no]) := run_eq (f := c24) rfl rfl rfl rfl rfl rfl rfl

/-! ### judges of plain values -/
def isWh (lo hi : Int) : D → Bool
  | .int i => decide (lo ≤ i) && decide (i ≤ hi)
  | _ => false
theorem okd_kn {k : Nat} {d : D} (h : D.okd k d = true) : (sort? d).isSome = true := by
  cases d <;> cases k <;> simp [D.okd, sort?] at h ⊢
theorem okd_le : ∀ {k j : Nat} {d : D}, k ≤ j → D.okd k d = true → D.okd j d = true
  | k, j, .non, _, _ => by cases j <;> rfl
  | k, j, .bl _, _, _ => by cases j <;> rfl
  | k, j, .int _, _, _ => by cases j <;> rfl
  | k, j, .str _, _, _ => by cases j <;> rfl
  | 0, j, .tup ds, _, h => by simp [D.okd] at h
  | 0, j, .lst ds, _, h => by simp [D.okd] at h
  | k + 1, 0, .tup ds, q, h => by omega
  | k + 1, 0, .lst ds, q, h => by omega
  | k + 1, j + 1, .tup ds, q, h => by
    rw [D.okd, List.all_eq_true] at h ⊢
    exact fun x hx => okd_le (by omega) (h x hx)
  | k + 1, j + 1, .lst ds, q, h => by
    rw [D.okd, List.all_eq_true] at h ⊢
    exact fun x hx => okd_le (by omega) (h x hx)
  | k, j, .set _, _, h => by cases k <;> simp [D.okd] at h
  | k, j, .dic _ _, _, h => by cases k <;> simp [D.okd] at h
  | k, j, .fn _, _, h => by cases k <;> simp [D.okd] at h
  | k, j, .exc _ _, _, h => by cases k <;> simp [D.okd] at h
  | k, j, .scr _, _, h => by cases k <;> simp [D.okd] at h
  | k, j, .lam, _, h => by cases k <;> simp [D.okd] at h
theorem is_whole_ok {n : Nat} {d : D} {lo hi : Int} (h : (sort? d).isSome = true) : Φ prog (n + 1) 0 [d, .int lo, .int hi] = .ok (.bl (isWh lo hi d)) [] := by
  rw [u0, k0]
  cases d <;> simp [ev_k, ev_v, ev_op, ev_bop, evB_one, evB_and, evB_or, ev_nt, ev_ite, ev_chain, ev_call, ev_fn, ev_as0, ev_asE, ev_asB, ev_cs0, ev_cs, ev_iE, ev_iB, ev_iR, ev_iN, ev_iZ, ev_iV, ev_comp, ex_for, ev_conv, convR_range, lendR_some, ex_asg, ex_par, ex_tup, ex_ex, ex_ret, ex_retN, ex_ite, ex_raise, ex_pass, ex_cont, ex_app, ex_sub, exs0, exs, condR_bl, condS_bl, notR_bl, andR_bl, orR_bl, condC_bl, chR_bl, bind_ok, bind_err, bind_bad, bind_if, toS_ok, toS_err, toS_if, sbind_nx, sbind_rt, sbind_ct, sbind_er, sbind_if, ofO_some, ofO_if, ofO_none, putR_some, getS_z, getS_s, vS_fz, vS_own, appR_own, appR_ino, parS, open_no, open_fz, open_own, mut_own, mut_ino, loose_no, loose_fz, val_fz, val_own, val_ino, val_lent, As.bs, As.mask, nodupB, endS_rt, endS_nx, endS_er, endS_if, outE_some, outS_nil, outS_f, outS_t, Tg.slots, Tg.slotss, Option.bind_some, It.lends, bodyP_some, body_eq, fbody_eq, fbodyP_some, D.isNon, o_add_i, o_add_l, o_add_t, o_add_s, o_sub_i, o_mul_i, o_fdiv, o_mod, o_pow, o_neg, o_inv, o_band, o_bor_i, o_shl, o_shr, o_eq_i, o_ne_i, o_eq_s, o_ne_s, o_lt_i, o_le_i, o_gt_i, o_ge_i, o_in_t, o_in_l, o_nin_t, o_nin_l, o_isn, o_isnn, o_isb, o_isnb, o_tup, o_lst, o_item_l, o_item_t, o_sl00, o_sl10, o_sl01, o_sl11, slX_l, slX_t, o_rev_l, o_rev_t, o_len_l, o_len_t, o_len_s, o_abs, o_int_i, o_int_b, o_sum, o_max1, o_min1, o_max2, o_min2, o_all_map, o_any_map, o_sorted_l, o_sorted_t, o_sorted_s, o_set_l, o_set_t, o_bor_s, o_tuple_l, o_tuple_t, o_list_l, o_list_t, o_list_scr, o_isint, o_isbool, o_isstr, o_istuple, o_islist, isO_non, isO_bl, isO_int, isO_str, isO_tup, isO_lst, o_isexc, o_tru_b, o_tru_i, o_tru_n, o_tru_l, o_tru_t, iterD_l, iterD_t, range1, range2, fin_ok, fin_err, fin_ok1, fin_err1, fin_if, withD_own, withD_ino, ml_own, ml_ino, unlend_nil, back_nil, store_eq, put_n, put_t, puts_nil, puts_cons, wipeR_eq, wipe_nil, wipe_cons, back_cons, cx_call, cx_lam, cx_noio, lim_lit, Int.toNat_natCast, cut_init, cut_from, cut_last, cut_but, at0, at1, at2, subR_ino0, subR_ino1, List.set_cons_zero, List.set_cons_succ, List.length_cons, List.length_nil, List.all_cons, List.all_nil, List.nil_append, List.cons_append, List.append_nil, List.map_cons, List.map_nil, List.elem_nil, not_true_eq_false, not_false_eq_true, Bool.and_true, Bool.true_and, Bool.and_self, Bool.not_true, Bool.not_false, Bool.and_false, Bool.false_and, Bool.or_true, Bool.true_or, Bool.or_false, Bool.false_or, Bool.or_self, decide_true, decide_false, decide_eq_true_eq, Bool.false_eq_true, if_true, if_false, ite_true, ite_false, Option.map_some, Option.map_none, Option.isSome_some, Nat.zero_add, Nat.reduceAdd, Nat.reduceLT, Nat.reduceLeDiff, Nat.reduceEqDiff, Nat.reduceBEq, Nat.reduceSub, Nat.reduceMul, Int.reduceLT, Int.reduceLE, Int.reduceAdd, Int.reduceSub, Int.reduceNeg, Int.reduceEq, Int.reduceMul, Int.reduceToNat, reduceIte, isWh, sort?] at h ⊢
  split <;> simp_all <;> omega
theorem need_whole_ok {n : Nat} {d : D} {lo hi : Int} (h : (sort? d).isSome = true) : Φ prog (n + 2) 1 [d, .int lo, .int hi] = if isWh lo hi d = true then .ok .non [] else .err ⟨1, none⟩ [] := by
  rw [u1, k1]
  simp [ev_k, ev_v, ev_op, ev_bop, evB_one, evB_and, evB_or, ev_nt, ev_ite, ev_chain, ev_call, ev_fn, ev_as0, ev_asE, ev_asB, ev_cs0, ev_cs, ev_iE, ev_iB, ev_iR, ev_iN, ev_iZ, ev_iV, ev_comp, ex_for, ev_conv, convR_range, lendR_some, ex_asg, ex_par, ex_tup, ex_ex, ex_ret, ex_retN, ex_ite, ex_raise, ex_pass, ex_cont, ex_app, ex_sub, exs0, exs, condR_bl, condS_bl, notR_bl, andR_bl, orR_bl, condC_bl, chR_bl, bind_ok, bind_err, bind_bad, bind_if, toS_ok, toS_err, toS_if, sbind_nx, sbind_rt, sbind_ct, sbind_er, sbind_if, ofO_some, ofO_if, ofO_none, putR_some, getS_z, getS_s, vS_fz, vS_own, appR_own, appR_ino, parS, open_no, open_fz, open_own, mut_own, mut_ino, loose_no, loose_fz, val_fz, val_own, val_ino, val_lent, As.bs, As.mask, nodupB, endS_rt, endS_nx, endS_er, endS_if, outE_some, outS_nil, outS_f, outS_t, Tg.slots, Tg.slotss, Option.bind_some, It.lends, bodyP_some, body_eq, fbody_eq, fbodyP_some, D.isNon, o_add_i, o_add_l, o_add_t, o_add_s, o_sub_i, o_mul_i, o_fdiv, o_mod, o_pow, o_neg, o_inv, o_band, o_bor_i, o_shl, o_shr, o_eq_i, o_ne_i, o_eq_s, o_ne_s, o_lt_i, o_le_i, o_gt_i, o_ge_i, o_in_t, o_in_l, o_nin_t, o_nin_l, o_isn, o_isnn, o_isb, o_isnb, o_tup, o_lst, o_item_l, o_item_t, o_sl00, o_sl10, o_sl01, o_sl11, slX_l, slX_t, o_rev_l, o_rev_t, o_len_l, o_len_t, o_len_s, o_abs, o_int_i, o_int_b, o_sum, o_max1, o_min1, o_max2, o_min2, o_all_map, o_any_map, o_sorted_l, o_sorted_t, o_sorted_s, o_set_l, o_set_t, o_bor_s, o_tuple_l, o_tuple_t, o_list_l, o_list_t, o_list_scr, o_isint, o_isbool, o_isstr, o_istuple, o_islist, isO_non, isO_bl, isO_int, isO_str, isO_tup, isO_lst, o_isexc, o_tru_b, o_tru_i, o_tru_n, o_tru_l, o_tru_t, iterD_l, iterD_t, range1, range2, fin_ok, fin_err, fin_ok1, fin_err1, fin_if, withD_own, withD_ino, ml_own, ml_ino, unlend_nil, back_nil, store_eq, put_n, put_t, puts_nil, puts_cons, wipeR_eq, wipe_nil, wipe_cons, back_cons, cx_call, cx_lam, cx_noio, lim_lit, Int.toNat_natCast, cut_init, cut_from, cut_last, cut_but, at0, at1, at2, subR_ino0, subR_ino1, List.set_cons_zero, List.set_cons_succ, List.length_cons, List.length_nil, List.all_cons, List.all_nil, List.nil_append, List.cons_append, List.append_nil, List.map_cons, List.map_nil, List.elem_nil, not_true_eq_false, not_false_eq_true, Bool.and_true, Bool.true_and, Bool.and_self, Bool.not_true, Bool.not_false, Bool.and_false, Bool.false_and, Bool.or_true, Bool.true_or, Bool.or_false, Bool.false_or, Bool.or_self, decide_true, decide_false, decide_eq_true_eq, Bool.false_eq_true, if_true, if_false, ite_true, ite_false, Option.map_some, Option.map_none, Option.isSome_some, Nat.zero_add, Nat.reduceAdd, Nat.reduceLT, Nat.reduceLeDiff, Nat.reduceEqDiff, Nat.reduceBEq, Nat.reduceSub, Nat.reduceMul, Int.reduceLT, Int.reduceLE, Int.reduceAdd, Int.reduceSub, Int.reduceNeg, Int.reduceEq, Int.reduceMul, Int.reduceToNat, reduceIte, is_whole_ok h]
  cases isWh lo hi d <;> simp
def isTupOf (lo hi : Int) : D → Bool
  | .tup ds => decide (lo ≤ ds.length) && decide (ds.length ≤ hi)
  | _ => false
theorem is_tuple_of_ok {n : Nat} {d : D} {lo hi : Int} (h : (sort? d).isSome = true) : Φ prog (n + 1) 2 [d, .int lo, .int hi] = .ok (.bl (isTupOf lo hi d)) [] := by
  rw [u2, k2]
  cases d <;> simp [ev_k, ev_v, ev_op, ev_bop, evB_one, evB_and, evB_or, ev_nt, ev_ite, ev_chain, ev_call, ev_fn, ev_as0, ev_asE, ev_asB, ev_cs0, ev_cs, ev_iE, ev_iB, ev_iR, ev_iN, ev_iZ, ev_iV, ev_comp, ex_for, ev_conv, convR_range, lendR_some, ex_asg, ex_par, ex_tup, ex_ex, ex_ret, ex_retN, ex_ite, ex_raise, ex_pass, ex_cont, ex_app, ex_sub, exs0, exs, condR_bl, condS_bl, notR_bl, andR_bl, orR_bl, condC_bl, chR_bl, bind_ok, bind_err, bind_bad, bind_if, toS_ok, toS_err, toS_if, sbind_nx, sbind_rt, sbind_ct, sbind_er, sbind_if, ofO_some, ofO_if, ofO_none, putR_some, getS_z, getS_s, vS_fz, vS_own, appR_own, appR_ino, parS, open_no, open_fz, open_own, mut_own, mut_ino, loose_no, loose_fz, val_fz, val_own, val_ino, val_lent, As.bs, As.mask, nodupB, endS_rt, endS_nx, endS_er, endS_if, outE_some, outS_nil, outS_f, outS_t, Tg.slots, Tg.slotss, Option.bind_some, It.lends, bodyP_some, body_eq, fbody_eq, fbodyP_some, D.isNon, o_add_i, o_add_l, o_add_t, o_add_s, o_sub_i, o_mul_i, o_fdiv, o_mod, o_pow, o_neg, o_inv, o_band, o_bor_i, o_shl, o_shr, o_eq_i, o_ne_i, o_eq_s, o_ne_s, o_lt_i, o_le_i, o_gt_i, o_ge_i, o_in_t, o_in_l, o_nin_t, o_nin_l, o_isn, o_isnn, o_isb, o_isnb, o_tup, o_lst, o_item_l, o_item_t, o_sl00, o_sl10, o_sl01, o_sl11, slX_l, slX_t, o_rev_l, o_rev_t, o_len_l, o_len_t, o_len_s, o_abs, o_int_i, o_int_b, o_sum, o_max1, o_min1, o_max2, o_min2, o_all_map, o_any_map, o_sorted_l, o_sorted_t, o_sorted_s, o_set_l, o_set_t, o_bor_s, o_tuple_l, o_tuple_t, o_list_l, o_list_t, o_list_scr, o_isint, o_isbool, o_isstr, o_istuple, o_islist, isO_non, isO_bl, isO_int, isO_str, isO_tup, isO_lst, o_isexc, o_tru_b, o_tru_i, o_tru_n, o_tru_l, o_tru_t, iterD_l, iterD_t, range1, range2, fin_ok, fin_err, fin_ok1, fin_err1, fin_if, withD_own, withD_ino, ml_own, ml_ino, unlend_nil, back_nil, store_eq, put_n, put_t, puts_nil, puts_cons, wipeR_eq, wipe_nil, wipe_cons, back_cons, cx_call, cx_lam, cx_noio, lim_lit, Int.toNat_natCast, cut_init, cut_from, cut_last, cut_but, at0, at1, at2, subR_ino0, subR_ino1, List.set_cons_zero, List.set_cons_succ, List.length_cons, List.length_nil, List.all_cons, List.all_nil, List.nil_append, List.cons_append, List.append_nil, List.map_cons, List.map_nil, List.elem_nil, not_true_eq_false, not_false_eq_true, Bool.and_true, Bool.true_and, Bool.and_self, Bool.not_true, Bool.not_false, Bool.and_false, Bool.false_and, Bool.or_true, Bool.true_or, Bool.or_false, Bool.false_or, Bool.or_self, decide_true, decide_false, decide_eq_true_eq, Bool.false_eq_true, if_true, if_false, ite_true, ite_false, Option.map_some, Option.map_none, Option.isSome_some, Nat.zero_add, Nat.reduceAdd, Nat.reduceLT, Nat.reduceLeDiff, Nat.reduceEqDiff, Nat.reduceBEq, Nat.reduceSub, Nat.reduceMul, Int.reduceLT, Int.reduceLE, Int.reduceAdd, Int.reduceSub, Int.reduceNeg, Int.reduceEq, Int.reduceMul, Int.reduceToNat, reduceIte, isTupOf, sort?] at h ⊢
  split <;> simp_all <;> omega
def asc : List Int → Bool
  | [] => true
  | [_] => true
  | a :: b :: r => decide (a < b) && asc (b :: r)
theorem cut_tail {α : Type} (l : List α) : cut l (some 1) none = l.drop 1 := by
  unfold cut HT.sIx
  simp
  cases l <;> simp
theorem zipL_ints : ∀ (a b : List Int), zipL (a.map D.int) (b.map D.int) = (a.zip b).map fun p => .tup [.int p.1, .int p.2]
  | [], b => by cases b <;> rfl
  | a :: as, [] => rfl
  | a :: as, b :: bs => by simp [zipL, zipL_ints as bs]
theorem asc_zip : ∀ l : List Int, ((l.zip (l.drop 1)).all fun p => decide (p.1 < p.2)) = asc l
  | [] => rfl
  | [_] => rfl
  | a :: b :: r => by
    have h := asc_zip (b :: r)
    simp [asc] at h ⊢
    rw [← h]
theorem is_ascending_ok {n : Nat} {l : List Int} (h : l.length ≤ 16777216) : Φ prog (n + 1) 3 [.tup (l.map D.int)] = .ok (.bl (asc l)) [] := by
  rw [u3, k3]
  simp -implicitDefEqProofs only [ev_k, ev_v, ev_op, ev_bop, evB_one, evB_and, evB_or, ev_nt, ev_ite, ev_chain, ev_call, ev_fn, ev_as0, ev_asE, ev_asB, ev_cs0, ev_cs, ev_iE, ev_iB, ev_iR, ev_iN, ev_iZ, ev_iV, ev_comp, ex_for, ev_conv, convR_range, lendR_some, ex_asg, ex_par, ex_tup, ex_ex, ex_ret, ex_retN, ex_ite, ex_raise, ex_pass, ex_cont, ex_app, ex_sub, exs0, exs, condR_bl, condS_bl, notR_bl, andR_bl, orR_bl, condC_bl, chR_bl, bind_ok, bind_err, bind_bad, bind_if, toS_ok, toS_err, toS_if, sbind_nx, sbind_rt, sbind_ct, sbind_er, sbind_if, ofO_some, ofO_if, ofO_none, putR_some, getS_z, getS_s, vS_fz, vS_own, appR_own, appR_ino, parS, open_no, open_fz, open_own, mut_own, mut_ino, loose_no, loose_fz, val_fz, val_own, val_ino, val_lent, As.bs, As.mask, nodupB, endS_rt, endS_nx, endS_er, endS_if, outE_some, outS_nil, outS_f, outS_t, Tg.slots, Tg.slotss, Option.bind_some, It.lends, bodyP_some, body_eq, fbody_eq, fbodyP_some, D.isNon, o_add_i, o_add_l, o_add_t, o_add_s, o_sub_i, o_mul_i, o_fdiv, o_mod, o_pow, o_neg, o_inv, o_band, o_bor_i, o_shl, o_shr, o_eq_i, o_ne_i, o_eq_s, o_ne_s, o_lt_i, o_le_i, o_gt_i, o_ge_i, o_in_t, o_in_l, o_nin_t, o_nin_l, o_isn, o_isnn, o_isb, o_isnb, o_tup, o_lst, o_item_l, o_item_t, o_sl00, o_sl10, o_sl01, o_sl11, slX_l, slX_t, o_rev_l, o_rev_t, o_len_l, o_len_t, o_len_s, o_abs, o_int_i, o_int_b, o_sum, o_max1, o_min1, o_max2, o_min2, o_all_map, o_any_map, o_sorted_l, o_sorted_t, o_sorted_s, o_set_l, o_set_t, o_bor_s, o_tuple_l, o_tuple_t, o_list_l, o_list_t, o_list_scr, o_isint, o_isbool, o_isstr, o_istuple, o_islist, isO_non, isO_bl, isO_int, isO_str, isO_tup, isO_lst, o_isexc, o_tru_b, o_tru_i, o_tru_n, o_tru_l, o_tru_t, iterD_l, iterD_t, range1, range2, fin_ok, fin_err, fin_ok1, fin_err1, fin_if, withD_own, withD_ino, ml_own, ml_ino, unlend_nil, back_nil, store_eq, put_n, put_t, puts_nil, puts_cons, wipeR_eq, wipe_nil, wipe_cons, back_cons, cx_call, cx_lam, cx_noio, lim_lit, Int.toNat_natCast, cut_init, cut_from, cut_last, cut_but, at0, at1, at2, subR_ino0, subR_ino1, List.set_cons_zero, List.set_cons_succ, List.length_cons, List.length_nil, List.all_cons, List.all_nil, List.nil_append, List.cons_append, List.append_nil, List.map_cons, List.map_nil, List.elem_nil, not_true_eq_false, not_false_eq_true, Bool.and_true, Bool.true_and, Bool.and_self, Bool.not_true, Bool.not_false, Bool.and_false, Bool.false_and, Bool.or_true, Bool.true_or, Bool.or_false, Bool.false_or, Bool.or_self, decide_true, decide_false, decide_eq_true_eq, Bool.false_eq_true, if_true, if_false, ite_true, ite_false, Option.map_some, Option.map_none, Option.isSome_some, Nat.zero_add, Nat.reduceAdd, Nat.reduceLT, Nat.reduceLeDiff, Nat.reduceEqDiff, Nat.reduceBEq, Nat.reduceSub, Nat.reduceMul, Int.reduceLT, Int.reduceLE, Int.reduceAdd, Int.reduceSub, Int.reduceNeg, Int.reduceEq, Int.reduceMul, Int.reduceToNat, reduceIte]
  rw [cut_tail, ← List.map_drop, zipL_ints, loopC_mapL (fun p => .bl (decide (p.1 < p.2))) (fun x _ => by simp -implicitDefEqProofs only [ev_k, ev_v, ev_op, ev_bop, evB_one, evB_and, evB_or, ev_nt, ev_ite, ev_chain, ev_call, ev_fn, ev_as0, ev_asE, ev_asB, ev_cs0, ev_cs, ev_iE, ev_iB, ev_iR, ev_iN, ev_iZ, ev_iV, ev_comp, ex_for, ev_conv, convR_range, lendR_some, ex_asg, ex_par, ex_tup, ex_ex, ex_ret, ex_retN, ex_ite, ex_raise, ex_pass, ex_cont, ex_app, ex_sub, exs0, exs, condR_bl, condS_bl, notR_bl, andR_bl, orR_bl, condC_bl, chR_bl, bind_ok, bind_err, bind_bad, bind_if, toS_ok, toS_err, toS_if, sbind_nx, sbind_rt, sbind_ct, sbind_er, sbind_if, ofO_some, ofO_if, ofO_none, putR_some, getS_z, getS_s, vS_fz, vS_own, appR_own, appR_ino, parS, open_no, open_fz, open_own, mut_own, mut_ino, loose_no, loose_fz, val_fz, val_own, val_ino, val_lent, As.bs, As.mask, nodupB, endS_rt, endS_nx, endS_er, endS_if, outE_some, outS_nil, outS_f, outS_t, Tg.slots, Tg.slotss, Option.bind_some, It.lends, bodyP_some, body_eq, fbody_eq, fbodyP_some, D.isNon, o_add_i, o_add_l, o_add_t, o_add_s, o_sub_i, o_mul_i, o_fdiv, o_mod, o_pow, o_neg, o_inv, o_band, o_bor_i, o_shl, o_shr, o_eq_i, o_ne_i, o_eq_s, o_ne_s, o_lt_i, o_le_i, o_gt_i, o_ge_i, o_in_t, o_in_l, o_nin_t, o_nin_l, o_isn, o_isnn, o_isb, o_isnb, o_tup, o_lst, o_item_l, o_item_t, o_sl00, o_sl10, o_sl01, o_sl11, slX_l, slX_t, o_rev_l, o_rev_t, o_len_l, o_len_t, o_len_s, o_abs, o_int_i, o_int_b, o_sum, o_max1, o_min1, o_max2, o_min2, o_all_map, o_any_map, o_sorted_l, o_sorted_t, o_sorted_s, o_set_l, o_set_t, o_bor_s, o_tuple_l, o_tuple_t, o_list_l, o_list_t, o_list_scr, o_isint, o_isbool, o_isstr, o_istuple, o_islist, isO_non, isO_bl, isO_int, isO_str, isO_tup, isO_lst, o_isexc, o_tru_b, o_tru_i, o_tru_n, o_tru_l, o_tru_t, iterD_l, iterD_t, range1, range2, fin_ok, fin_err, fin_ok1, fin_err1, fin_if, withD_own, withD_ino, ml_own, ml_ino, unlend_nil, back_nil, store_eq, put_n, put_t, puts_nil, puts_cons, wipeR_eq, wipe_nil, wipe_cons, back_cons, cx_call, cx_lam, cx_noio, lim_lit, Int.toNat_natCast, cut_init, cut_from, cut_last, cut_but, at0, at1, at2, subR_ino0, subR_ino1, List.set_cons_zero, List.set_cons_succ, List.length_cons, List.length_nil, List.all_cons, List.all_nil, List.nil_append, List.cons_append, List.append_nil, List.map_cons, List.map_nil, List.elem_nil, not_true_eq_false, not_false_eq_true, Bool.and_true, Bool.true_and, Bool.and_self, Bool.not_true, Bool.not_false, Bool.and_false, Bool.false_and, Bool.or_true, Bool.true_or, Bool.or_false, Bool.false_or, Bool.or_self, decide_true, decide_false, decide_eq_true_eq, Bool.false_eq_true, if_true, if_false, ite_true, ite_false, Option.map_some, Option.map_none, Option.isSome_some, Nat.zero_add, Nat.reduceAdd, Nat.reduceLT, Nat.reduceLeDiff, Nat.reduceEqDiff, Nat.reduceBEq, Nat.reduceSub, Nat.reduceMul, Int.reduceLT, Int.reduceLE, Int.reduceAdd, Int.reduceSub, Int.reduceNeg, Int.reduceEq, Int.reduceMul, Int.reduceToNat, reduceIte]) (by rw [List.length_zip, lim_lit]; omega)]
  simp -implicitDefEqProofs only [ev_k, ev_v, ev_op, ev_bop, evB_one, evB_and, evB_or, ev_nt, ev_ite, ev_chain, ev_call, ev_fn, ev_as0, ev_asE, ev_asB, ev_cs0, ev_cs, ev_iE, ev_iB, ev_iR, ev_iN, ev_iZ, ev_iV, ev_comp, ex_for, ev_conv, convR_range, lendR_some, ex_asg, ex_par, ex_tup, ex_ex, ex_ret, ex_retN, ex_ite, ex_raise, ex_pass, ex_cont, ex_app, ex_sub, exs0, exs, condR_bl, condS_bl, notR_bl, andR_bl, orR_bl, condC_bl, chR_bl, bind_ok, bind_err, bind_bad, bind_if, toS_ok, toS_err, toS_if, sbind_nx, sbind_rt, sbind_ct, sbind_er, sbind_if, ofO_some, ofO_if, ofO_none, putR_some, getS_z, getS_s, vS_fz, vS_own, appR_own, appR_ino, parS, open_no, open_fz, open_own, mut_own, mut_ino, loose_no, loose_fz, val_fz, val_own, val_ino, val_lent, As.bs, As.mask, nodupB, endS_rt, endS_nx, endS_er, endS_if, outE_some, outS_nil, outS_f, outS_t, Tg.slots, Tg.slotss, Option.bind_some, It.lends, bodyP_some, body_eq, fbody_eq, fbodyP_some, D.isNon, o_add_i, o_add_l, o_add_t, o_add_s, o_sub_i, o_mul_i, o_fdiv, o_mod, o_pow, o_neg, o_inv, o_band, o_bor_i, o_shl, o_shr, o_eq_i, o_ne_i, o_eq_s, o_ne_s, o_lt_i, o_le_i, o_gt_i, o_ge_i, o_in_t, o_in_l, o_nin_t, o_nin_l, o_isn, o_isnn, o_isb, o_isnb, o_tup, o_lst, o_item_l, o_item_t, o_sl00, o_sl10, o_sl01, o_sl11, slX_l, slX_t, o_rev_l, o_rev_t, o_len_l, o_len_t, o_len_s, o_abs, o_int_i, o_int_b, o_sum, o_max1, o_min1, o_max2, o_min2, o_all_map, o_any_map, o_sorted_l, o_sorted_t, o_sorted_s, o_set_l, o_set_t, o_bor_s, o_tuple_l, o_tuple_t, o_list_l, o_list_t, o_list_scr, o_isint, o_isbool, o_isstr, o_istuple, o_islist, isO_non, isO_bl, isO_int, isO_str, isO_tup, isO_lst, o_isexc, o_tru_b, o_tru_i, o_tru_n, o_tru_l, o_tru_t, iterD_l, iterD_t, range1, range2, fin_ok, fin_err, fin_ok1, fin_err1, fin_if, withD_own, withD_ino, ml_own, ml_ino, unlend_nil, back_nil, store_eq, put_n, put_t, puts_nil, puts_cons, wipeR_eq, wipe_nil, wipe_cons, back_cons, cx_call, cx_lam, cx_noio, lim_lit, Int.toNat_natCast, cut_init, cut_from, cut_last, cut_but, at0, at1, at2, subR_ino0, subR_ino1, List.set_cons_zero, List.set_cons_succ, List.length_cons, List.length_nil, List.all_cons, List.all_nil, List.nil_append, List.cons_append, List.append_nil, List.map_cons, List.map_nil, List.elem_nil, not_true_eq_false, not_false_eq_true, Bool.and_true, Bool.true_and, Bool.and_self, Bool.not_true, Bool.not_false, Bool.and_false, Bool.false_and, Bool.or_true, Bool.true_or, Bool.or_false, Bool.false_or, Bool.or_self, decide_true, decide_false, decide_eq_true_eq, Bool.false_eq_true, if_true, if_false, ite_true, ite_false, Option.map_some, Option.map_none, Option.isSome_some, Nat.zero_add, Nat.reduceAdd, Nat.reduceLT, Nat.reduceLeDiff, Nat.reduceEqDiff, Nat.reduceBEq, Nat.reduceSub, Nat.reduceMul, Int.reduceLT, Int.reduceLE, Int.reduceAdd, Int.reduceSub, Int.reduceNeg, Int.reduceEq, Int.reduceMul, Int.reduceToNat, reduceIte, asc_zip]
/-- the ints of a list -/
def intsOf (ds : List D) : List Int := (ints? ds).getD []
def isLot (m : Int) : D → Bool
  | .tup ds => ds.all (isWh 0 (m - 1)) && asc (intsOf ds)
  | _ => false
theorem all_wh {lo hi : Int} : ∀ {ds : List D}, ds.all (isWh lo hi) = true → ds = (intsOf ds).map D.int
  | [], _ => rfl
  | d :: ds, h => by
    rw [List.all_cons, Bool.and_eq_true] at h
    have q := all_wh h.2
    cases d <;> simp [isWh] at h
    rename_i i
    generalize intsOf ds = l at q
    subst q
    simp [intsOf, ints?, ints_map]
theorem is_set_below_ok {n : Nat} {d : D} {m : Int} (h : D.okd 2 d = true) (hl : ∀ ds, d = .tup ds → ds.length ≤ 16777216) : Φ prog (n + 3) 4 [d, .int m] = .ok (.bl (isLot m d)) [] := by
  rw [u4, k4]
  cases d with
  | tup ds =>
    have hl := hl ds rfl
    have h : ∀ x ∈ ds, D.okd 1 x = true := by simpa [D.okd] using h
    simp -implicitDefEqProofs only [ev_k, ev_v, ev_op, ev_bop, evB_one, evB_and, evB_or, ev_nt, ev_ite, ev_chain, ev_call, ev_fn, ev_as0, ev_asE, ev_asB, ev_cs0, ev_cs, ev_iE, ev_iB, ev_iR, ev_iN, ev_iZ, ev_iV, ev_comp, ex_for, ev_conv, convR_range, lendR_some, ex_asg, ex_par, ex_tup, ex_ex, ex_ret, ex_retN, ex_ite, ex_raise, ex_pass, ex_cont, ex_app, ex_sub, exs0, exs, condR_bl, condS_bl, notR_bl, andR_bl, orR_bl, condC_bl, chR_bl, bind_ok, bind_err, bind_bad, bind_if, toS_ok, toS_err, toS_if, sbind_nx, sbind_rt, sbind_ct, sbind_er, sbind_if, ofO_some, ofO_if, ofO_none, putR_some, getS_z, getS_s, vS_fz, vS_own, appR_own, appR_ino, parS, open_no, open_fz, open_own, mut_own, mut_ino, loose_no, loose_fz, val_fz, val_own, val_ino, val_lent, As.bs, As.mask, nodupB, endS_rt, endS_nx, endS_er, endS_if, outE_some, outS_nil, outS_f, outS_t, Tg.slots, Tg.slotss, Option.bind_some, It.lends, bodyP_some, body_eq, fbody_eq, fbodyP_some, D.isNon, o_add_i, o_add_l, o_add_t, o_add_s, o_sub_i, o_mul_i, o_fdiv, o_mod, o_pow, o_neg, o_inv, o_band, o_bor_i, o_shl, o_shr, o_eq_i, o_ne_i, o_eq_s, o_ne_s, o_lt_i, o_le_i, o_gt_i, o_ge_i, o_in_t, o_in_l, o_nin_t, o_nin_l, o_isn, o_isnn, o_isb, o_isnb, o_tup, o_lst, o_item_l, o_item_t, o_sl00, o_sl10, o_sl01, o_sl11, slX_l, slX_t, o_rev_l, o_rev_t, o_len_l, o_len_t, o_len_s, o_abs, o_int_i, o_int_b, o_sum, o_max1, o_min1, o_max2, o_min2, o_all_map, o_any_map, o_sorted_l, o_sorted_t, o_sorted_s, o_set_l, o_set_t, o_bor_s, o_tuple_l, o_tuple_t, o_list_l, o_list_t, o_list_scr, o_isint, o_isbool, o_isstr, o_istuple, o_islist, isO_non, isO_bl, isO_int, isO_str, isO_tup, isO_lst, o_isexc, o_tru_b, o_tru_i, o_tru_n, o_tru_l, o_tru_t, iterD_l, iterD_t, range1, range2, fin_ok, fin_err, fin_ok1, fin_err1, fin_if, withD_own, withD_ino, ml_own, ml_ino, unlend_nil, back_nil, store_eq, put_n, put_t, puts_nil, puts_cons, wipeR_eq, wipe_nil, wipe_cons, back_cons, cx_call, cx_lam, cx_noio, lim_lit, Int.toNat_natCast, cut_init, cut_from, cut_last, cut_but, at0, at1, at2, subR_ino0, subR_ino1, List.set_cons_zero, List.set_cons_succ, List.length_cons, List.length_nil, List.all_cons, List.all_nil, List.nil_append, List.cons_append, List.append_nil, List.map_cons, List.map_nil, List.elem_nil, not_true_eq_false, not_false_eq_true, Bool.and_true, Bool.true_and, Bool.and_self, Bool.not_true, Bool.not_false, Bool.and_false, Bool.false_and, Bool.or_true, Bool.true_or, Bool.or_false, Bool.false_or, Bool.or_self, decide_true, decide_false, decide_eq_true_eq, Bool.false_eq_true, if_true, if_false, ite_true, ite_false, Option.map_some, Option.map_none, Option.isSome_some, Nat.zero_add, Nat.reduceAdd, Nat.reduceLT, Nat.reduceLeDiff, Nat.reduceEqDiff, Nat.reduceBEq, Nat.reduceSub, Nat.reduceMul, Int.reduceLT, Int.reduceLE, Int.reduceAdd, Int.reduceSub, Int.reduceNeg, Int.reduceEq, Int.reduceMul, Int.reduceToNat, reduceIte]
    rw [loopC_map (fun x => .bl (isWh 0 (m - 1) x)) (fun x hx => by simp -implicitDefEqProofs only [ev_k, ev_v, ev_op, ev_bop, evB_one, evB_and, evB_or, ev_nt, ev_ite, ev_chain, ev_call, ev_fn, ev_as0, ev_asE, ev_asB, ev_cs0, ev_cs, ev_iE, ev_iB, ev_iR, ev_iN, ev_iZ, ev_iV, ev_comp, ex_for, ev_conv, convR_range, lendR_some, ex_asg, ex_par, ex_tup, ex_ex, ex_ret, ex_retN, ex_ite, ex_raise, ex_pass, ex_cont, ex_app, ex_sub, exs0, exs, condR_bl, condS_bl, notR_bl, andR_bl, orR_bl, condC_bl, chR_bl, bind_ok, bind_err, bind_bad, bind_if, toS_ok, toS_err, toS_if, sbind_nx, sbind_rt, sbind_ct, sbind_er, sbind_if, ofO_some, ofO_if, ofO_none, putR_some, getS_z, getS_s, vS_fz, vS_own, appR_own, appR_ino, parS, open_no, open_fz, open_own, mut_own, mut_ino, loose_no, loose_fz, val_fz, val_own, val_ino, val_lent, As.bs, As.mask, nodupB, endS_rt, endS_nx, endS_er, endS_if, outE_some, outS_nil, outS_f, outS_t, Tg.slots, Tg.slotss, Option.bind_some, It.lends, bodyP_some, body_eq, fbody_eq, fbodyP_some, D.isNon, o_add_i, o_add_l, o_add_t, o_add_s, o_sub_i, o_mul_i, o_fdiv, o_mod, o_pow, o_neg, o_inv, o_band, o_bor_i, o_shl, o_shr, o_eq_i, o_ne_i, o_eq_s, o_ne_s, o_lt_i, o_le_i, o_gt_i, o_ge_i, o_in_t, o_in_l, o_nin_t, o_nin_l, o_isn, o_isnn, o_isb, o_isnb, o_tup, o_lst, o_item_l, o_item_t, o_sl00, o_sl10, o_sl01, o_sl11, slX_l, slX_t, o_rev_l, o_rev_t, o_len_l, o_len_t, o_len_s, o_abs, o_int_i, o_int_b, o_sum, o_max1, o_min1, o_max2, o_min2, o_all_map, o_any_map, o_sorted_l, o_sorted_t, o_sorted_s, o_set_l, o_set_t, o_bor_s, o_tuple_l, o_tuple_t, o_list_l, o_list_t, o_list_scr, o_isint, o_isbool, o_isstr, o_istuple, o_islist, isO_non, isO_bl, isO_int, isO_str, isO_tup, isO_lst, o_isexc, o_tru_b, o_tru_i, o_tru_n, o_tru_l, o_tru_t, iterD_l, iterD_t, range1, range2, fin_ok, fin_err, fin_ok1, fin_err1, fin_if, withD_own, withD_ino, ml_own, ml_ino, unlend_nil, back_nil, store_eq, put_n, put_t, puts_nil, puts_cons, wipeR_eq, wipe_nil, wipe_cons, back_cons, cx_call, cx_lam, cx_noio, lim_lit, Int.toNat_natCast, cut_init, cut_from, cut_last, cut_but, at0, at1, at2, subR_ino0, subR_ino1, List.set_cons_zero, List.set_cons_succ, List.length_cons, List.length_nil, List.all_cons, List.all_nil, List.nil_append, List.cons_append, List.append_nil, List.map_cons, List.map_nil, List.elem_nil, not_true_eq_false, not_false_eq_true, Bool.and_true, Bool.true_and, Bool.and_self, Bool.not_true, Bool.not_false, Bool.and_false, Bool.false_and, Bool.or_true, Bool.true_or, Bool.or_false, Bool.false_or, Bool.or_self, decide_true, decide_false, decide_eq_true_eq, Bool.false_eq_true, if_true, if_false, ite_true, ite_false, Option.map_some, Option.map_none, Option.isSome_some, Nat.zero_add, Nat.reduceAdd, Nat.reduceLT, Nat.reduceLeDiff, Nat.reduceEqDiff, Nat.reduceBEq, Nat.reduceSub, Nat.reduceMul, Int.reduceLT, Int.reduceLE, Int.reduceAdd, Int.reduceSub, Int.reduceNeg, Int.reduceEq, Int.reduceMul, Int.reduceToNat, reduceIte, is_whole_ok (okd_kn (h x hx))]) hl]
    simp -implicitDefEqProofs only [ev_k, ev_v, ev_op, ev_bop, evB_one, evB_and, evB_or, ev_nt, ev_ite, ev_chain, ev_call, ev_fn, ev_as0, ev_asE, ev_asB, ev_cs0, ev_cs, ev_iE, ev_iB, ev_iR, ev_iN, ev_iZ, ev_iV, ev_comp, ex_for, ev_conv, convR_range, lendR_some, ex_asg, ex_par, ex_tup, ex_ex, ex_ret, ex_retN, ex_ite, ex_raise, ex_pass, ex_cont, ex_app, ex_sub, exs0, exs, condR_bl, condS_bl, notR_bl, andR_bl, orR_bl, condC_bl, chR_bl, bind_ok, bind_err, bind_bad, bind_if, toS_ok, toS_err, toS_if, sbind_nx, sbind_rt, sbind_ct, sbind_er, sbind_if, ofO_some, ofO_if, ofO_none, putR_some, getS_z, getS_s, vS_fz, vS_own, appR_own, appR_ino, parS, open_no, open_fz, open_own, mut_own, mut_ino, loose_no, loose_fz, val_fz, val_own, val_ino, val_lent, As.bs, As.mask, nodupB, endS_rt, endS_nx, endS_er, endS_if, outE_some, outS_nil, outS_f, outS_t, Tg.slots, Tg.slotss, Option.bind_some, It.lends, bodyP_some, body_eq, fbody_eq, fbodyP_some, D.isNon, o_add_i, o_add_l, o_add_t, o_add_s, o_sub_i, o_mul_i, o_fdiv, o_mod, o_pow, o_neg, o_inv, o_band, o_bor_i, o_shl, o_shr, o_eq_i, o_ne_i, o_eq_s, o_ne_s, o_lt_i, o_le_i, o_gt_i, o_ge_i, o_in_t, o_in_l, o_nin_t, o_nin_l, o_isn, o_isnn, o_isb, o_isnb, o_tup, o_lst, o_item_l, o_item_t, o_sl00, o_sl10, o_sl01, o_sl11, slX_l, slX_t, o_rev_l, o_rev_t, o_len_l, o_len_t, o_len_s, o_abs, o_int_i, o_int_b, o_sum, o_max1, o_min1, o_max2, o_min2, o_all_map, o_any_map, o_sorted_l, o_sorted_t, o_sorted_s, o_set_l, o_set_t, o_bor_s, o_tuple_l, o_tuple_t, o_list_l, o_list_t, o_list_scr, o_isint, o_isbool, o_isstr, o_istuple, o_islist, isO_non, isO_bl, isO_int, isO_str, isO_tup, isO_lst, o_isexc, o_tru_b, o_tru_i, o_tru_n, o_tru_l, o_tru_t, iterD_l, iterD_t, range1, range2, fin_ok, fin_err, fin_ok1, fin_err1, fin_if, withD_own, withD_ino, ml_own, ml_ino, unlend_nil, back_nil, store_eq, put_n, put_t, puts_nil, puts_cons, wipeR_eq, wipe_nil, wipe_cons, back_cons, cx_call, cx_lam, cx_noio, lim_lit, Int.toNat_natCast, cut_init, cut_from, cut_last, cut_but, at0, at1, at2, subR_ino0, subR_ino1, List.set_cons_zero, List.set_cons_succ, List.length_cons, List.length_nil, List.all_cons, List.all_nil, List.nil_append, List.cons_append, List.append_nil, List.map_cons, List.map_nil, List.elem_nil, not_true_eq_false, not_false_eq_true, Bool.and_true, Bool.true_and, Bool.and_self, Bool.not_true, Bool.not_false, Bool.and_false, Bool.false_and, Bool.or_true, Bool.true_or, Bool.or_false, Bool.false_or, Bool.or_self, decide_true, decide_false, decide_eq_true_eq, Bool.false_eq_true, if_true, if_false, ite_true, ite_false, Option.map_some, Option.map_none, Option.isSome_some, Nat.zero_add, Nat.reduceAdd, Nat.reduceLT, Nat.reduceLeDiff, Nat.reduceEqDiff, Nat.reduceBEq, Nat.reduceSub, Nat.reduceMul, Int.reduceLT, Int.reduceLE, Int.reduceAdd, Int.reduceSub, Int.reduceNeg, Int.reduceEq, Int.reduceMul, Int.reduceToNat, reduceIte, isLot]
    cases q : ds.all (isWh 0 (m - 1)) with
    | false => simp -implicitDefEqProofs only [ev_k, ev_v, ev_op, ev_bop, evB_one, evB_and, evB_or, ev_nt, ev_ite, ev_chain, ev_call, ev_fn, ev_as0, ev_asE, ev_asB, ev_cs0, ev_cs, ev_iE, ev_iB, ev_iR, ev_iN, ev_iZ, ev_iV, ev_comp, ex_for, ev_conv, convR_range, lendR_some, ex_asg, ex_par, ex_tup, ex_ex, ex_ret, ex_retN, ex_ite, ex_raise, ex_pass, ex_cont, ex_app, ex_sub, exs0, exs, condR_bl, condS_bl, notR_bl, andR_bl, orR_bl, condC_bl, chR_bl, bind_ok, bind_err, bind_bad, bind_if, toS_ok, toS_err, toS_if, sbind_nx, sbind_rt, sbind_ct, sbind_er, sbind_if, ofO_some, ofO_if, ofO_none, putR_some, getS_z, getS_s, vS_fz, vS_own, appR_own, appR_ino, parS, open_no, open_fz, open_own, mut_own, mut_ino, loose_no, loose_fz, val_fz, val_own, val_ino, val_lent, As.bs, As.mask, nodupB, endS_rt, endS_nx, endS_er, endS_if, outE_some, outS_nil, outS_f, outS_t, Tg.slots, Tg.slotss, Option.bind_some, It.lends, bodyP_some, body_eq, fbody_eq, fbodyP_some, D.isNon, o_add_i, o_add_l, o_add_t, o_add_s, o_sub_i, o_mul_i, o_fdiv, o_mod, o_pow, o_neg, o_inv, o_band, o_bor_i, o_shl, o_shr, o_eq_i, o_ne_i, o_eq_s, o_ne_s, o_lt_i, o_le_i, o_gt_i, o_ge_i, o_in_t, o_in_l, o_nin_t, o_nin_l, o_isn, o_isnn, o_isb, o_isnb, o_tup, o_lst, o_item_l, o_item_t, o_sl00, o_sl10, o_sl01, o_sl11, slX_l, slX_t, o_rev_l, o_rev_t, o_len_l, o_len_t, o_len_s, o_abs, o_int_i, o_int_b, o_sum, o_max1, o_min1, o_max2, o_min2, o_all_map, o_any_map, o_sorted_l, o_sorted_t, o_sorted_s, o_set_l, o_set_t, o_bor_s, o_tuple_l, o_tuple_t, o_list_l, o_list_t, o_list_scr, o_isint, o_isbool, o_isstr, o_istuple, o_islist, isO_non, isO_bl, isO_int, isO_str, isO_tup, isO_lst, o_isexc, o_tru_b, o_tru_i, o_tru_n, o_tru_l, o_tru_t, iterD_l, iterD_t, range1, range2, fin_ok, fin_err, fin_ok1, fin_err1, fin_if, withD_own, withD_ino, ml_own, ml_ino, unlend_nil, back_nil, store_eq, put_n, put_t, puts_nil, puts_cons, wipeR_eq, wipe_nil, wipe_cons, back_cons, cx_call, cx_lam, cx_noio, lim_lit, Int.toNat_natCast, cut_init, cut_from, cut_last, cut_but, at0, at1, at2, subR_ino0, subR_ino1, List.set_cons_zero, List.set_cons_succ, List.length_cons, List.length_nil, List.all_cons, List.all_nil, List.nil_append, List.cons_append, List.append_nil, List.map_cons, List.map_nil, List.elem_nil, not_true_eq_false, not_false_eq_true, Bool.and_true, Bool.true_and, Bool.and_self, Bool.not_true, Bool.not_false, Bool.and_false, Bool.false_and, Bool.or_true, Bool.true_or, Bool.or_false, Bool.false_or, Bool.or_self, decide_true, decide_false, decide_eq_true_eq, Bool.false_eq_true, if_true, if_false, ite_true, ite_false, Option.map_some, Option.map_none, Option.isSome_some, Nat.zero_add, Nat.reduceAdd, Nat.reduceLT, Nat.reduceLeDiff, Nat.reduceEqDiff, Nat.reduceBEq, Nat.reduceSub, Nat.reduceMul, Int.reduceLT, Int.reduceLE, Int.reduceAdd, Int.reduceSub, Int.reduceNeg, Int.reduceEq, Int.reduceMul, Int.reduceToNat, reduceIte]
    | true =>
      have e := all_wh q
      have q2 : Φ prog (n + 2) 3 [.tup ds] = .ok (.bl (asc (intsOf ds))) [] := by
        have := is_ascending_ok (n := n + 1) (l := intsOf ds) (by
          have : ds.length = (intsOf ds).length := by conv => lhs; rw [e, List.length_map]
          omega)
        rw [← e] at this
        exact this
      simp -implicitDefEqProofs only [ev_k, ev_v, ev_op, ev_bop, evB_one, evB_and, evB_or, ev_nt, ev_ite, ev_chain, ev_call, ev_fn, ev_as0, ev_asE, ev_asB, ev_cs0, ev_cs, ev_iE, ev_iB, ev_iR, ev_iN, ev_iZ, ev_iV, ev_comp, ex_for, ev_conv, convR_range, lendR_some, ex_asg, ex_par, ex_tup, ex_ex, ex_ret, ex_retN, ex_ite, ex_raise, ex_pass, ex_cont, ex_app, ex_sub, exs0, exs, condR_bl, condS_bl, notR_bl, andR_bl, orR_bl, condC_bl, chR_bl, bind_ok, bind_err, bind_bad, bind_if, toS_ok, toS_err, toS_if, sbind_nx, sbind_rt, sbind_ct, sbind_er, sbind_if, ofO_some, ofO_if, ofO_none, putR_some, getS_z, getS_s, vS_fz, vS_own, appR_own, appR_ino, parS, open_no, open_fz, open_own, mut_own, mut_ino, loose_no, loose_fz, val_fz, val_own, val_ino, val_lent, As.bs, As.mask, nodupB, endS_rt, endS_nx, endS_er, endS_if, outE_some, outS_nil, outS_f, outS_t, Tg.slots, Tg.slotss, Option.bind_some, It.lends, bodyP_some, body_eq, fbody_eq, fbodyP_some, D.isNon, o_add_i, o_add_l, o_add_t, o_add_s, o_sub_i, o_mul_i, o_fdiv, o_mod, o_pow, o_neg, o_inv, o_band, o_bor_i, o_shl, o_shr, o_eq_i, o_ne_i, o_eq_s, o_ne_s, o_lt_i, o_le_i, o_gt_i, o_ge_i, o_in_t, o_in_l, o_nin_t, o_nin_l, o_isn, o_isnn, o_isb, o_isnb, o_tup, o_lst, o_item_l, o_item_t, o_sl00, o_sl10, o_sl01, o_sl11, slX_l, slX_t, o_rev_l, o_rev_t, o_len_l, o_len_t, o_len_s, o_abs, o_int_i, o_int_b, o_sum, o_max1, o_min1, o_max2, o_min2, o_all_map, o_any_map, o_sorted_l, o_sorted_t, o_sorted_s, o_set_l, o_set_t, o_bor_s, o_tuple_l, o_tuple_t, o_list_l, o_list_t, o_list_scr, o_isint, o_isbool, o_isstr, o_istuple, o_islist, isO_non, isO_bl, isO_int, isO_str, isO_tup, isO_lst, o_isexc, o_tru_b, o_tru_i, o_tru_n, o_tru_l, o_tru_t, iterD_l, iterD_t, range1, range2, fin_ok, fin_err, fin_ok1, fin_err1, fin_if, withD_own, withD_ino, ml_own, ml_ino, unlend_nil, back_nil, store_eq, put_n, put_t, puts_nil, puts_cons, wipeR_eq, wipe_nil, wipe_cons, back_cons, cx_call, cx_lam, cx_noio, lim_lit, Int.toNat_natCast, cut_init, cut_from, cut_last, cut_but, at0, at1, at2, subR_ino0, subR_ino1, List.set_cons_zero, List.set_cons_succ, List.length_cons, List.length_nil, List.all_cons, List.all_nil, List.nil_append, List.cons_append, List.append_nil, List.map_cons, List.map_nil, List.elem_nil, not_true_eq_false, not_false_eq_true, Bool.and_true, Bool.true_and, Bool.and_self, Bool.not_true, Bool.not_false, Bool.and_false, Bool.false_and, Bool.or_true, Bool.true_or, Bool.or_false, Bool.false_or, Bool.or_self, decide_true, decide_false, decide_eq_true_eq, Bool.false_eq_true, if_true, if_false, ite_true, ite_false, Option.map_some, Option.map_none, Option.isSome_some, Nat.zero_add, Nat.reduceAdd, Nat.reduceLT, Nat.reduceLeDiff, Nat.reduceEqDiff, Nat.reduceBEq, Nat.reduceSub, Nat.reduceMul, Int.reduceLT, Int.reduceLE, Int.reduceAdd, Int.reduceSub, Int.reduceNeg, Int.reduceEq, Int.reduceMul, Int.reduceToNat, reduceIte, q2]
  | _ => simp [D.okd, ev_k, ev_v, ev_op, ev_bop, evB_one, evB_and, evB_or, ev_nt, ev_ite, ev_chain, ev_call, ev_fn, ev_as0, ev_asE, ev_asB, ev_cs0, ev_cs, ev_iE, ev_iB, ev_iR, ev_iN, ev_iZ, ev_iV, ev_comp, ex_for, ev_conv, convR_range, lendR_some, ex_asg, ex_par, ex_tup, ex_ex, ex_ret, ex_retN, ex_ite, ex_raise, ex_pass, ex_cont, ex_app, ex_sub, exs0, exs, condR_bl, condS_bl, notR_bl, andR_bl, orR_bl, condC_bl, chR_bl, bind_ok, bind_err, bind_bad, bind_if, toS_ok, toS_err, toS_if, sbind_nx, sbind_rt, sbind_ct, sbind_er, sbind_if, ofO_some, ofO_if, ofO_none, putR_some, getS_z, getS_s, vS_fz, vS_own, appR_own, appR_ino, parS, open_no, open_fz, open_own, mut_own, mut_ino, loose_no, loose_fz, val_fz, val_own, val_ino, val_lent, As.bs, As.mask, nodupB, endS_rt, endS_nx, endS_er, endS_if, outE_some, outS_nil, outS_f, outS_t, Tg.slots, Tg.slotss, Option.bind_some, It.lends, bodyP_some, body_eq, fbody_eq, fbodyP_some, D.isNon, o_add_i, o_add_l, o_add_t, o_add_s, o_sub_i, o_mul_i, o_fdiv, o_mod, o_pow, o_neg, o_inv, o_band, o_bor_i, o_shl, o_shr, o_eq_i, o_ne_i, o_eq_s, o_ne_s, o_lt_i, o_le_i, o_gt_i, o_ge_i, o_in_t, o_in_l, o_nin_t, o_nin_l, o_isn, o_isnn, o_isb, o_isnb, o_tup, o_lst, o_item_l, o_item_t, o_sl00, o_sl10, o_sl01, o_sl11, slX_l, slX_t, o_rev_l, o_rev_t, o_len_l, o_len_t, o_len_s, o_abs, o_int_i, o_int_b, o_sum, o_max1, o_min1, o_max2, o_min2, o_all_map, o_any_map, o_sorted_l, o_sorted_t, o_sorted_s, o_set_l, o_set_t, o_bor_s, o_tuple_l, o_tuple_t, o_list_l, o_list_t, o_list_scr, o_isint, o_isbool, o_isstr, o_istuple, o_islist, isO_non, isO_bl, isO_int, isO_str, isO_tup, isO_lst, o_isexc, o_tru_b, o_tru_i, o_tru_n, o_tru_l, o_tru_t, iterD_l, iterD_t, range1, range2, fin_ok, fin_err, fin_ok1, fin_err1, fin_if, withD_own, withD_ino, ml_own, ml_ino, unlend_nil, back_nil, store_eq, put_n, put_t, puts_nil, puts_cons, wipeR_eq, wipe_nil, wipe_cons, back_cons, cx_call, cx_lam, cx_noio, lim_lit, Int.toNat_natCast, cut_init, cut_from, cut_last, cut_but, at0, at1, at2, subR_ino0, subR_ino1, List.set_cons_zero, List.set_cons_succ, List.length_cons, List.length_nil, List.all_cons, List.all_nil, List.nil_append, List.cons_append, List.append_nil, List.map_cons, List.map_nil, List.elem_nil, not_true_eq_false, not_false_eq_true, Bool.and_true, Bool.true_and, Bool.and_self, Bool.not_true, Bool.not_false, Bool.and_false, Bool.false_and, Bool.or_true, Bool.true_or, Bool.or_false, Bool.false_or, Bool.or_self, decide_true, decide_false, decide_eq_true_eq, Bool.false_eq_true, if_true, if_false, ite_true, ite_false, Option.map_some, Option.map_none, Option.isSome_some, Nat.zero_add, Nat.reduceAdd, Nat.reduceLT, Nat.reduceLeDiff, Nat.reduceEqDiff, Nat.reduceBEq, Nat.reduceSub, Nat.reduceMul, Int.reduceLT, Int.reduceLE, Int.reduceAdd, Int.reduceSub, Int.reduceNeg, Int.reduceEq, Int.reduceMul, Int.reduceToNat, reduceIte, isLot, sort?] at h ⊢

theorem need_members_ok {n : Nat} {d : D} (h : (sort? d).isSome = true) : Φ prog (n + 3) 5 [d] = if isWh 1 12 d = true then .ok .non [] else .err ⟨1, none⟩ [] := by
  rw [u5, k5]
  simp -implicitDefEqProofs only [ev_k, ev_v, ev_op, ev_bop, evB_one, evB_and, evB_or, ev_nt, ev_ite, ev_chain, ev_call, ev_fn, ev_as0, ev_asE, ev_asB, ev_cs0, ev_cs, ev_iE, ev_iB, ev_iR, ev_iN, ev_iZ, ev_iV, ev_comp, ex_for, ev_conv, convR_range, lendR_some, ex_asg, ex_par, ex_tup, ex_ex, ex_ret, ex_retN, ex_ite, ex_raise, ex_pass, ex_cont, ex_app, ex_sub, exs0, exs, condR_bl, condS_bl, notR_bl, andR_bl, orR_bl, condC_bl, chR_bl, bind_ok, bind_err, bind_bad, bind_if, toS_ok, toS_err, toS_if, sbind_nx, sbind_rt, sbind_ct, sbind_er, sbind_if, ofO_some, ofO_if, ofO_none, putR_some, getS_z, getS_s, vS_fz, vS_own, appR_own, appR_ino, parS, open_no, open_fz, open_own, mut_own, mut_ino, loose_no, loose_fz, val_fz, val_own, val_ino, val_lent, As.bs, As.mask, nodupB, endS_rt, endS_nx, endS_er, endS_if, outE_some, outS_nil, outS_f, outS_t, Tg.slots, Tg.slotss, Option.bind_some, It.lends, bodyP_some, body_eq, fbody_eq, fbodyP_some, D.isNon, o_add_i, o_add_l, o_add_t, o_add_s, o_sub_i, o_mul_i, o_fdiv, o_mod, o_pow, o_neg, o_inv, o_band, o_bor_i, o_shl, o_shr, o_eq_i, o_ne_i, o_eq_s, o_ne_s, o_lt_i, o_le_i, o_gt_i, o_ge_i, o_in_t, o_in_l, o_nin_t, o_nin_l, o_isn, o_isnn, o_isb, o_isnb, o_tup, o_lst, o_item_l, o_item_t, o_sl00, o_sl10, o_sl01, o_sl11, slX_l, slX_t, o_rev_l, o_rev_t, o_len_l, o_len_t, o_len_s, o_abs, o_int_i, o_int_b, o_sum, o_max1, o_min1, o_max2, o_min2, o_all_map, o_any_map, o_sorted_l, o_sorted_t, o_sorted_s, o_set_l, o_set_t, o_bor_s, o_tuple_l, o_tuple_t, o_list_l, o_list_t, o_list_scr, o_isint, o_isbool, o_isstr, o_istuple, o_islist, isO_non, isO_bl, isO_int, isO_str, isO_tup, isO_lst, o_isexc, o_tru_b, o_tru_i, o_tru_n, o_tru_l, o_tru_t, iterD_l, iterD_t, range1, range2, fin_ok, fin_err, fin_ok1, fin_err1, fin_if, withD_own, withD_ino, ml_own, ml_ino, unlend_nil, back_nil, store_eq, put_n, put_t, puts_nil, puts_cons, wipeR_eq, wipe_nil, wipe_cons, back_cons, cx_call, cx_lam, cx_noio, lim_lit, Int.toNat_natCast, cut_init, cut_from, cut_last, cut_but, at0, at1, at2, subR_ino0, subR_ino1, List.set_cons_zero, List.set_cons_succ, List.length_cons, List.length_nil, List.all_cons, List.all_nil, List.nil_append, List.cons_append, List.append_nil, List.map_cons, List.map_nil, List.elem_nil, not_true_eq_false, not_false_eq_true, Bool.and_true, Bool.true_and, Bool.and_self, Bool.not_true, Bool.not_false, Bool.and_false, Bool.false_and, Bool.or_true, Bool.true_or, Bool.or_false, Bool.false_or, Bool.or_self, decide_true, decide_false, decide_eq_true_eq, Bool.false_eq_true, if_true, if_false, ite_true, ite_false, Option.map_some, Option.map_none, Option.isSome_some, Nat.zero_add, Nat.reduceAdd, Nat.reduceLT, Nat.reduceLeDiff, Nat.reduceEqDiff, Nat.reduceBEq, Nat.reduceSub, Nat.reduceMul, Int.reduceLT, Int.reduceLE, Int.reduceAdd, Int.reduceSub, Int.reduceNeg, Int.reduceEq, Int.reduceMul, Int.reduceToNat, reduceIte, need_whole_ok h]
/-- membership -/
def memD (x : D) (ds : List D) : Bool := ds.any fun y => D.eqv y x
def isWeb : D → Bool
  | .tup ds => isTupOf 1 12 (.tup ds) && ds.zipIdx.all fun p => isLot ds.length p.1 && (match p.1 with
    | .tup es => memD (.int p.2) es
    | _ => false)
  | _ => false
theorem enumL_zip : ∀ (n : Nat) (ds : List D), enumL n ds = (ds.zipIdx n).map fun p => .tup [.int p.2, p.1]
  | _, [] => rfl
  | n, d :: ds => by rw [enumL, List.zipIdx_cons, List.map_cons, enumL_zip (n + 1) ds]
theorem okd_all {k : Nat} {ds : List D} (h : D.okd (k + 1) (.tup ds) = true) : ds.all (D.okd k) = true := by simpa [D.okd] using h
theorem all_okd {k j : Nat} {ds : List D} (q : k ≤ j) (h : ds.all (D.okd k) = true) : ds.all (D.okd j) = true := by
  rw [List.all_eq_true] at h ⊢
  exact fun x hx => okd_le q (h x hx)
theorem isLot_tup {m : Int} {d : D} (h : isLot m d = true) : ∃ es, d = .tup es ∧ es.all (isWh 0 (m - 1)) = true ∧ asc (intsOf es) = true := by
  cases d <;> simp only [isLot, Bool.and_eq_true, Bool.false_eq_true] at h
  exact ⟨_, rfl, h⟩
theorem is_web_in_ok {n : Nat} {d : D} (h : D.okd 3 d = true) (hl : ∀ ds, d = .tup ds → ∀ es, .tup es ∈ ds → es.length ≤ 16777216) : Φ prog (n + 4) 6 [d] = .ok (.bl (isWeb d)) [] := by
  rw [u6, k6]
  simp -implicitDefEqProofs only [ev_k, ev_v, ev_op, ev_bop, evB_one, evB_and, evB_or, ev_nt, ev_ite, ev_chain, ev_call, ev_fn, ev_as0, ev_asE, ev_asB, ev_cs0, ev_cs, ev_iE, ev_iB, ev_iR, ev_iN, ev_iZ, ev_iV, ev_comp, ex_for, ev_conv, convR_range, lendR_some, ex_asg, ex_par, ex_tup, ex_ex, ex_ret, ex_retN, ex_ite, ex_raise, ex_pass, ex_cont, ex_app, ex_sub, exs0, exs, condR_bl, condS_bl, notR_bl, andR_bl, orR_bl, condC_bl, chR_bl, bind_ok, bind_err, bind_bad, bind_if, toS_ok, toS_err, toS_if, sbind_nx, sbind_rt, sbind_ct, sbind_er, sbind_if, ofO_some, ofO_if, ofO_none, putR_some, getS_z, getS_s, vS_fz, vS_own, appR_own, appR_ino, parS, open_no, open_fz, open_own, mut_own, mut_ino, loose_no, loose_fz, val_fz, val_own, val_ino, val_lent, As.bs, As.mask, nodupB, endS_rt, endS_nx, endS_er, endS_if, outE_some, outS_nil, outS_f, outS_t, Tg.slots, Tg.slotss, Option.bind_some, It.lends, bodyP_some, body_eq, fbody_eq, fbodyP_some, D.isNon, o_add_i, o_add_l, o_add_t, o_add_s, o_sub_i, o_mul_i, o_fdiv, o_mod, o_pow, o_neg, o_inv, o_band, o_bor_i, o_shl, o_shr, o_eq_i, o_ne_i, o_eq_s, o_ne_s, o_lt_i, o_le_i, o_gt_i, o_ge_i, o_in_t, o_in_l, o_nin_t, o_nin_l, o_isn, o_isnn, o_isb, o_isnb, o_tup, o_lst, o_item_l, o_item_t, o_sl00, o_sl10, o_sl01, o_sl11, slX_l, slX_t, o_rev_l, o_rev_t, o_len_l, o_len_t, o_len_s, o_abs, o_int_i, o_int_b, o_sum, o_max1, o_min1, o_max2, o_min2, o_all_map, o_any_map, o_sorted_l, o_sorted_t, o_sorted_s, o_set_l, o_set_t, o_bor_s, o_tuple_l, o_tuple_t, o_list_l, o_list_t, o_list_scr, o_isint, o_isbool, o_isstr, o_istuple, o_islist, isO_non, isO_bl, isO_int, isO_str, isO_tup, isO_lst, o_isexc, o_tru_b, o_tru_i, o_tru_n, o_tru_l, o_tru_t, iterD_l, iterD_t, range1, range2, fin_ok, fin_err, fin_ok1, fin_err1, fin_if, withD_own, withD_ino, ml_own, ml_ino, unlend_nil, back_nil, store_eq, put_n, put_t, puts_nil, puts_cons, wipeR_eq, wipe_nil, wipe_cons, back_cons, cx_call, cx_lam, cx_noio, lim_lit, Int.toNat_natCast, cut_init, cut_from, cut_last, cut_but, at0, at1, at2, subR_ino0, subR_ino1, List.set_cons_zero, List.set_cons_succ, List.length_cons, List.length_nil, List.all_cons, List.all_nil, List.nil_append, List.cons_append, List.append_nil, List.map_cons, List.map_nil, List.elem_nil, not_true_eq_false, not_false_eq_true, Bool.and_true, Bool.true_and, Bool.and_self, Bool.not_true, Bool.not_false, Bool.and_false, Bool.false_and, Bool.or_true, Bool.true_or, Bool.or_false, Bool.false_or, Bool.or_self, decide_true, decide_false, decide_eq_true_eq, Bool.false_eq_true, if_true, if_false, ite_true, ite_false, Option.map_some, Option.map_none, Option.isSome_some, Nat.zero_add, Nat.reduceAdd, Nat.reduceLT, Nat.reduceLeDiff, Nat.reduceEqDiff, Nat.reduceBEq, Nat.reduceSub, Nat.reduceMul, Int.reduceLT, Int.reduceLE, Int.reduceAdd, Int.reduceSub, Int.reduceNeg, Int.reduceEq, Int.reduceMul, Int.reduceToNat, reduceIte, is_tuple_of_ok (okd_kn h)]
  cases q : isTupOf 1 12 d with
  | false =>
    have : isWeb d = false := by cases d <;> first | rfl | (rw [isWeb, q]; rfl)
    simp -implicitDefEqProofs only [ev_k, ev_v, ev_op, ev_bop, evB_one, evB_and, evB_or, ev_nt, ev_ite, ev_chain, ev_call, ev_fn, ev_as0, ev_asE, ev_asB, ev_cs0, ev_cs, ev_iE, ev_iB, ev_iR, ev_iN, ev_iZ, ev_iV, ev_comp, ex_for, ev_conv, convR_range, lendR_some, ex_asg, ex_par, ex_tup, ex_ex, ex_ret, ex_retN, ex_ite, ex_raise, ex_pass, ex_cont, ex_app, ex_sub, exs0, exs, condR_bl, condS_bl, notR_bl, andR_bl, orR_bl, condC_bl, chR_bl, bind_ok, bind_err, bind_bad, bind_if, toS_ok, toS_err, toS_if, sbind_nx, sbind_rt, sbind_ct, sbind_er, sbind_if, ofO_some, ofO_if, ofO_none, putR_some, getS_z, getS_s, vS_fz, vS_own, appR_own, appR_ino, parS, open_no, open_fz, open_own, mut_own, mut_ino, loose_no, loose_fz, val_fz, val_own, val_ino, val_lent, As.bs, As.mask, nodupB, endS_rt, endS_nx, endS_er, endS_if, outE_some, outS_nil, outS_f, outS_t, Tg.slots, Tg.slotss, Option.bind_some, It.lends, bodyP_some, body_eq, fbody_eq, fbodyP_some, D.isNon, o_add_i, o_add_l, o_add_t, o_add_s, o_sub_i, o_mul_i, o_fdiv, o_mod, o_pow, o_neg, o_inv, o_band, o_bor_i, o_shl, o_shr, o_eq_i, o_ne_i, o_eq_s, o_ne_s, o_lt_i, o_le_i, o_gt_i, o_ge_i, o_in_t, o_in_l, o_nin_t, o_nin_l, o_isn, o_isnn, o_isb, o_isnb, o_tup, o_lst, o_item_l, o_item_t, o_sl00, o_sl10, o_sl01, o_sl11, slX_l, slX_t, o_rev_l, o_rev_t, o_len_l, o_len_t, o_len_s, o_abs, o_int_i, o_int_b, o_sum, o_max1, o_min1, o_max2, o_min2, o_all_map, o_any_map, o_sorted_l, o_sorted_t, o_sorted_s, o_set_l, o_set_t, o_bor_s, o_tuple_l, o_tuple_t, o_list_l, o_list_t, o_list_scr, o_isint, o_isbool, o_isstr, o_istuple, o_islist, isO_non, isO_bl, isO_int, isO_str, isO_tup, isO_lst, o_isexc, o_tru_b, o_tru_i, o_tru_n, o_tru_l, o_tru_t, iterD_l, iterD_t, range1, range2, fin_ok, fin_err, fin_ok1, fin_err1, fin_if, withD_own, withD_ino, ml_own, ml_ino, unlend_nil, back_nil, store_eq, put_n, put_t, puts_nil, puts_cons, wipeR_eq, wipe_nil, wipe_cons, back_cons, cx_call, cx_lam, cx_noio, lim_lit, Int.toNat_natCast, cut_init, cut_from, cut_last, cut_but, at0, at1, at2, subR_ino0, subR_ino1, List.set_cons_zero, List.set_cons_succ, List.length_cons, List.length_nil, List.all_cons, List.all_nil, List.nil_append, List.cons_append, List.append_nil, List.map_cons, List.map_nil, List.elem_nil, not_true_eq_false, not_false_eq_true, Bool.and_true, Bool.true_and, Bool.and_self, Bool.not_true, Bool.not_false, Bool.and_false, Bool.false_and, Bool.or_true, Bool.true_or, Bool.or_false, Bool.false_or, Bool.or_self, decide_true, decide_false, decide_eq_true_eq, Bool.false_eq_true, if_true, if_false, ite_true, ite_false, Option.map_some, Option.map_none, Option.isSome_some, Nat.zero_add, Nat.reduceAdd, Nat.reduceLT, Nat.reduceLeDiff, Nat.reduceEqDiff, Nat.reduceBEq, Nat.reduceSub, Nat.reduceMul, Int.reduceLT, Int.reduceLE, Int.reduceAdd, Int.reduceSub, Int.reduceNeg, Int.reduceEq, Int.reduceMul, Int.reduceToNat, reduceIte, this]
  | true =>
    cases d with
    | tup ds =>
      have hl := hl ds rfl
      have ha := okd_all h
      simp -implicitDefEqProofs only [ev_k, ev_v, ev_op, ev_bop, evB_one, evB_and, evB_or, ev_nt, ev_ite, ev_chain, ev_call, ev_fn, ev_as0, ev_asE, ev_asB, ev_cs0, ev_cs, ev_iE, ev_iB, ev_iR, ev_iN, ev_iZ, ev_iV, ev_comp, ex_for, ev_conv, convR_range, lendR_some, ex_asg, ex_par, ex_tup, ex_ex, ex_ret, ex_retN, ex_ite, ex_raise, ex_pass, ex_cont, ex_app, ex_sub, exs0, exs, condR_bl, condS_bl, notR_bl, andR_bl, orR_bl, condC_bl, chR_bl, bind_ok, bind_err, bind_bad, bind_if, toS_ok, toS_err, toS_if, sbind_nx, sbind_rt, sbind_ct, sbind_er, sbind_if, ofO_some, ofO_if, ofO_none, putR_some, getS_z, getS_s, vS_fz, vS_own, appR_own, appR_ino, parS, open_no, open_fz, open_own, mut_own, mut_ino, loose_no, loose_fz, val_fz, val_own, val_ino, val_lent, As.bs, As.mask, nodupB, endS_rt, endS_nx, endS_er, endS_if, outE_some, outS_nil, outS_f, outS_t, Tg.slots, Tg.slotss, Option.bind_some, It.lends, bodyP_some, body_eq, fbody_eq, fbodyP_some, D.isNon, o_add_i, o_add_l, o_add_t, o_add_s, o_sub_i, o_mul_i, o_fdiv, o_mod, o_pow, o_neg, o_inv, o_band, o_bor_i, o_shl, o_shr, o_eq_i, o_ne_i, o_eq_s, o_ne_s, o_lt_i, o_le_i, o_gt_i, o_ge_i, o_in_t, o_in_l, o_nin_t, o_nin_l, o_isn, o_isnn, o_isb, o_isnb, o_tup, o_lst, o_item_l, o_item_t, o_sl00, o_sl10, o_sl01, o_sl11, slX_l, slX_t, o_rev_l, o_rev_t, o_len_l, o_len_t, o_len_s, o_abs, o_int_i, o_int_b, o_sum, o_max1, o_min1, o_max2, o_min2, o_all_map, o_any_map, o_sorted_l, o_sorted_t, o_sorted_s, o_set_l, o_set_t, o_bor_s, o_tuple_l, o_tuple_t, o_list_l, o_list_t, o_list_scr, o_isint, o_isbool, o_isstr, o_istuple, o_islist, isO_non, isO_bl, isO_int, isO_str, isO_tup, isO_lst, o_isexc, o_tru_b, o_tru_i, o_tru_n, o_tru_l, o_tru_t, iterD_l, iterD_t, range1, range2, fin_ok, fin_err, fin_ok1, fin_err1, fin_if, withD_own, withD_ino, ml_own, ml_ino, unlend_nil, back_nil, store_eq, put_n, put_t, puts_nil, puts_cons, wipeR_eq, wipe_nil, wipe_cons, back_cons, cx_call, cx_lam, cx_noio, lim_lit, Int.toNat_natCast, cut_init, cut_from, cut_last, cut_but, at0, at1, at2, subR_ino0, subR_ino1, List.set_cons_zero, List.set_cons_succ, List.length_cons, List.length_nil, List.all_cons, List.all_nil, List.nil_append, List.cons_append, List.append_nil, List.map_cons, List.map_nil, List.elem_nil, not_true_eq_false, not_false_eq_true, Bool.and_true, Bool.true_and, Bool.and_self, Bool.not_true, Bool.not_false, Bool.and_false, Bool.false_and, Bool.or_true, Bool.true_or, Bool.or_false, Bool.false_or, Bool.or_self, decide_true, decide_false, decide_eq_true_eq, Bool.false_eq_true, if_true, if_false, ite_true, ite_false, Option.map_some, Option.map_none, Option.isSome_some, Nat.zero_add, Nat.reduceAdd, Nat.reduceLT, Nat.reduceLeDiff, Nat.reduceEqDiff, Nat.reduceBEq, Nat.reduceSub, Nat.reduceMul, Int.reduceLT, Int.reduceLE, Int.reduceAdd, Int.reduceSub, Int.reduceNeg, Int.reduceEq, Int.reduceMul, Int.reduceToNat, reduceIte]
      have hle : ds.length ≤ 12 := by
        simp only [isTupOf, Bool.and_eq_true, decide_eq_true_eq] at q
        omega
      rw [enumL_zip, loopC_mapL (fun p => .bl (isLot ds.length p.1 && (match p.1 with
        | .tup es => memD (.int p.2) es
        | _ => false))) (fun p hp => ?_) (by rw [List.length_zipIdx, lim_lit]; omega)]
      · simp -implicitDefEqProofs only [ev_k, ev_v, ev_op, ev_bop, evB_one, evB_and, evB_or, ev_nt, ev_ite, ev_chain, ev_call, ev_fn, ev_as0, ev_asE, ev_asB, ev_cs0, ev_cs, ev_iE, ev_iB, ev_iR, ev_iN, ev_iZ, ev_iV, ev_comp, ex_for, ev_conv, convR_range, lendR_some, ex_asg, ex_par, ex_tup, ex_ex, ex_ret, ex_retN, ex_ite, ex_raise, ex_pass, ex_cont, ex_app, ex_sub, exs0, exs, condR_bl, condS_bl, notR_bl, andR_bl, orR_bl, condC_bl, chR_bl, bind_ok, bind_err, bind_bad, bind_if, toS_ok, toS_err, toS_if, sbind_nx, sbind_rt, sbind_ct, sbind_er, sbind_if, ofO_some, ofO_if, ofO_none, putR_some, getS_z, getS_s, vS_fz, vS_own, appR_own, appR_ino, parS, open_no, open_fz, open_own, mut_own, mut_ino, loose_no, loose_fz, val_fz, val_own, val_ino, val_lent, As.bs, As.mask, nodupB, endS_rt, endS_nx, endS_er, endS_if, outE_some, outS_nil, outS_f, outS_t, Tg.slots, Tg.slotss, Option.bind_some, It.lends, bodyP_some, body_eq, fbody_eq, fbodyP_some, D.isNon, o_add_i, o_add_l, o_add_t, o_add_s, o_sub_i, o_mul_i, o_fdiv, o_mod, o_pow, o_neg, o_inv, o_band, o_bor_i, o_shl, o_shr, o_eq_i, o_ne_i, o_eq_s, o_ne_s, o_lt_i, o_le_i, o_gt_i, o_ge_i, o_in_t, o_in_l, o_nin_t, o_nin_l, o_isn, o_isnn, o_isb, o_isnb, o_tup, o_lst, o_item_l, o_item_t, o_sl00, o_sl10, o_sl01, o_sl11, slX_l, slX_t, o_rev_l, o_rev_t, o_len_l, o_len_t, o_len_s, o_abs, o_int_i, o_int_b, o_sum, o_max1, o_min1, o_max2, o_min2, o_all_map, o_any_map, o_sorted_l, o_sorted_t, o_sorted_s, o_set_l, o_set_t, o_bor_s, o_tuple_l, o_tuple_t, o_list_l, o_list_t, o_list_scr, o_isint, o_isbool, o_isstr, o_istuple, o_islist, isO_non, isO_bl, isO_int, isO_str, isO_tup, isO_lst, o_isexc, o_tru_b, o_tru_i, o_tru_n, o_tru_l, o_tru_t, iterD_l, iterD_t, range1, range2, fin_ok, fin_err, fin_ok1, fin_err1, fin_if, withD_own, withD_ino, ml_own, ml_ino, unlend_nil, back_nil, store_eq, put_n, put_t, puts_nil, puts_cons, wipeR_eq, wipe_nil, wipe_cons, back_cons, cx_call, cx_lam, cx_noio, lim_lit, Int.toNat_natCast, cut_init, cut_from, cut_last, cut_but, at0, at1, at2, subR_ino0, subR_ino1, List.set_cons_zero, List.set_cons_succ, List.length_cons, List.length_nil, List.all_cons, List.all_nil, List.nil_append, List.cons_append, List.append_nil, List.map_cons, List.map_nil, List.elem_nil, not_true_eq_false, not_false_eq_true, Bool.and_true, Bool.true_and, Bool.and_self, Bool.not_true, Bool.not_false, Bool.and_false, Bool.false_and, Bool.or_true, Bool.true_or, Bool.or_false, Bool.false_or, Bool.or_self, decide_true, decide_false, decide_eq_true_eq, Bool.false_eq_true, if_true, if_false, ite_true, ite_false, Option.map_some, Option.map_none, Option.isSome_some, Nat.zero_add, Nat.reduceAdd, Nat.reduceLT, Nat.reduceLeDiff, Nat.reduceEqDiff, Nat.reduceBEq, Nat.reduceSub, Nat.reduceMul, Int.reduceLT, Int.reduceLE, Int.reduceAdd, Int.reduceSub, Int.reduceNeg, Int.reduceEq, Int.reduceMul, Int.reduceToNat, reduceIte, isWeb, q]
      · have hm : p.1 ∈ ds := List.fst_mem_of_mem_zipIdx hp
        have ho : D.okd 2 p.1 = true := List.all_eq_true.mp ha _ hm
        obtain ⟨d, i⟩ := p
        simp -implicitDefEqProofs only [ev_k, ev_v, ev_op, ev_bop, evB_one, evB_and, evB_or, ev_nt, ev_ite, ev_chain, ev_call, ev_fn, ev_as0, ev_asE, ev_asB, ev_cs0, ev_cs, ev_iE, ev_iB, ev_iR, ev_iN, ev_iZ, ev_iV, ev_comp, ex_for, ev_conv, convR_range, lendR_some, ex_asg, ex_par, ex_tup, ex_ex, ex_ret, ex_retN, ex_ite, ex_raise, ex_pass, ex_cont, ex_app, ex_sub, exs0, exs, condR_bl, condS_bl, notR_bl, andR_bl, orR_bl, condC_bl, chR_bl, bind_ok, bind_err, bind_bad, bind_if, toS_ok, toS_err, toS_if, sbind_nx, sbind_rt, sbind_ct, sbind_er, sbind_if, ofO_some, ofO_if, ofO_none, putR_some, getS_z, getS_s, vS_fz, vS_own, appR_own, appR_ino, parS, open_no, open_fz, open_own, mut_own, mut_ino, loose_no, loose_fz, val_fz, val_own, val_ino, val_lent, As.bs, As.mask, nodupB, endS_rt, endS_nx, endS_er, endS_if, outE_some, outS_nil, outS_f, outS_t, Tg.slots, Tg.slotss, Option.bind_some, It.lends, bodyP_some, body_eq, fbody_eq, fbodyP_some, D.isNon, o_add_i, o_add_l, o_add_t, o_add_s, o_sub_i, o_mul_i, o_fdiv, o_mod, o_pow, o_neg, o_inv, o_band, o_bor_i, o_shl, o_shr, o_eq_i, o_ne_i, o_eq_s, o_ne_s, o_lt_i, o_le_i, o_gt_i, o_ge_i, o_in_t, o_in_l, o_nin_t, o_nin_l, o_isn, o_isnn, o_isb, o_isnb, o_tup, o_lst, o_item_l, o_item_t, o_sl00, o_sl10, o_sl01, o_sl11, slX_l, slX_t, o_rev_l, o_rev_t, o_len_l, o_len_t, o_len_s, o_abs, o_int_i, o_int_b, o_sum, o_max1, o_min1, o_max2, o_min2, o_all_map, o_any_map, o_sorted_l, o_sorted_t, o_sorted_s, o_set_l, o_set_t, o_bor_s, o_tuple_l, o_tuple_t, o_list_l, o_list_t, o_list_scr, o_isint, o_isbool, o_isstr, o_istuple, o_islist, isO_non, isO_bl, isO_int, isO_str, isO_tup, isO_lst, o_isexc, o_tru_b, o_tru_i, o_tru_n, o_tru_l, o_tru_t, iterD_l, iterD_t, range1, range2, fin_ok, fin_err, fin_ok1, fin_err1, fin_if, withD_own, withD_ino, ml_own, ml_ino, unlend_nil, back_nil, store_eq, put_n, put_t, puts_nil, puts_cons, wipeR_eq, wipe_nil, wipe_cons, back_cons, cx_call, cx_lam, cx_noio, lim_lit, Int.toNat_natCast, cut_init, cut_from, cut_last, cut_but, at0, at1, at2, subR_ino0, subR_ino1, List.set_cons_zero, List.set_cons_succ, List.length_cons, List.length_nil, List.all_cons, List.all_nil, List.nil_append, List.cons_append, List.append_nil, List.map_cons, List.map_nil, List.elem_nil, not_true_eq_false, not_false_eq_true, Bool.and_true, Bool.true_and, Bool.and_self, Bool.not_true, Bool.not_false, Bool.and_false, Bool.false_and, Bool.or_true, Bool.true_or, Bool.or_false, Bool.false_or, Bool.or_self, decide_true, decide_false, decide_eq_true_eq, Bool.false_eq_true, if_true, if_false, ite_true, ite_false, Option.map_some, Option.map_none, Option.isSome_some, Nat.zero_add, Nat.reduceAdd, Nat.reduceLT, Nat.reduceLeDiff, Nat.reduceEqDiff, Nat.reduceBEq, Nat.reduceSub, Nat.reduceMul, Int.reduceLT, Int.reduceLE, Int.reduceAdd, Int.reduceSub, Int.reduceNeg, Int.reduceEq, Int.reduceMul, Int.reduceToNat, reduceIte, is_set_below_ok ho (fun es he => hl es (by rw [← he]; exact hm))]
        cases q2 : isLot ds.length d with
        | false => simp -implicitDefEqProofs only [ev_k, ev_v, ev_op, ev_bop, evB_one, evB_and, evB_or, ev_nt, ev_ite, ev_chain, ev_call, ev_fn, ev_as0, ev_asE, ev_asB, ev_cs0, ev_cs, ev_iE, ev_iB, ev_iR, ev_iN, ev_iZ, ev_iV, ev_comp, ex_for, ev_conv, convR_range, lendR_some, ex_asg, ex_par, ex_tup, ex_ex, ex_ret, ex_retN, ex_ite, ex_raise, ex_pass, ex_cont, ex_app, ex_sub, exs0, exs, condR_bl, condS_bl, notR_bl, andR_bl, orR_bl, condC_bl, chR_bl, bind_ok, bind_err, bind_bad, bind_if, toS_ok, toS_err, toS_if, sbind_nx, sbind_rt, sbind_ct, sbind_er, sbind_if, ofO_some, ofO_if, ofO_none, putR_some, getS_z, getS_s, vS_fz, vS_own, appR_own, appR_ino, parS, open_no, open_fz, open_own, mut_own, mut_ino, loose_no, loose_fz, val_fz, val_own, val_ino, val_lent, As.bs, As.mask, nodupB, endS_rt, endS_nx, endS_er, endS_if, outE_some, outS_nil, outS_f, outS_t, Tg.slots, Tg.slotss, Option.bind_some, It.lends, bodyP_some, body_eq, fbody_eq, fbodyP_some, D.isNon, o_add_i, o_add_l, o_add_t, o_add_s, o_sub_i, o_mul_i, o_fdiv, o_mod, o_pow, o_neg, o_inv, o_band, o_bor_i, o_shl, o_shr, o_eq_i, o_ne_i, o_eq_s, o_ne_s, o_lt_i, o_le_i, o_gt_i, o_ge_i, o_in_t, o_in_l, o_nin_t, o_nin_l, o_isn, o_isnn, o_isb, o_isnb, o_tup, o_lst, o_item_l, o_item_t, o_sl00, o_sl10, o_sl01, o_sl11, slX_l, slX_t, o_rev_l, o_rev_t, o_len_l, o_len_t, o_len_s, o_abs, o_int_i, o_int_b, o_sum, o_max1, o_min1, o_max2, o_min2, o_all_map, o_any_map, o_sorted_l, o_sorted_t, o_sorted_s, o_set_l, o_set_t, o_bor_s, o_tuple_l, o_tuple_t, o_list_l, o_list_t, o_list_scr, o_isint, o_isbool, o_isstr, o_istuple, o_islist, isO_non, isO_bl, isO_int, isO_str, isO_tup, isO_lst, o_isexc, o_tru_b, o_tru_i, o_tru_n, o_tru_l, o_tru_t, iterD_l, iterD_t, range1, range2, fin_ok, fin_err, fin_ok1, fin_err1, fin_if, withD_own, withD_ino, ml_own, ml_ino, unlend_nil, back_nil, store_eq, put_n, put_t, puts_nil, puts_cons, wipeR_eq, wipe_nil, wipe_cons, back_cons, cx_call, cx_lam, cx_noio, lim_lit, Int.toNat_natCast, cut_init, cut_from, cut_last, cut_but, at0, at1, at2, subR_ino0, subR_ino1, List.set_cons_zero, List.set_cons_succ, List.length_cons, List.length_nil, List.all_cons, List.all_nil, List.nil_append, List.cons_append, List.append_nil, List.map_cons, List.map_nil, List.elem_nil, not_true_eq_false, not_false_eq_true, Bool.and_true, Bool.true_and, Bool.and_self, Bool.not_true, Bool.not_false, Bool.and_false, Bool.false_and, Bool.or_true, Bool.true_or, Bool.or_false, Bool.false_or, Bool.or_self, decide_true, decide_false, decide_eq_true_eq, Bool.false_eq_true, if_true, if_false, ite_true, ite_false, Option.map_some, Option.map_none, Option.isSome_some, Nat.zero_add, Nat.reduceAdd, Nat.reduceLT, Nat.reduceLeDiff, Nat.reduceEqDiff, Nat.reduceBEq, Nat.reduceSub, Nat.reduceMul, Int.reduceLT, Int.reduceLE, Int.reduceAdd, Int.reduceSub, Int.reduceNeg, Int.reduceEq, Int.reduceMul, Int.reduceToNat, reduceIte]
        | true =>
          obtain ⟨es, rfl, _⟩ := isLot_tup q2
          simp -implicitDefEqProofs only [ev_k, ev_v, ev_op, ev_bop, evB_one, evB_and, evB_or, ev_nt, ev_ite, ev_chain, ev_call, ev_fn, ev_as0, ev_asE, ev_asB, ev_cs0, ev_cs, ev_iE, ev_iB, ev_iR, ev_iN, ev_iZ, ev_iV, ev_comp, ex_for, ev_conv, convR_range, lendR_some, ex_asg, ex_par, ex_tup, ex_ex, ex_ret, ex_retN, ex_ite, ex_raise, ex_pass, ex_cont, ex_app, ex_sub, exs0, exs, condR_bl, condS_bl, notR_bl, andR_bl, orR_bl, condC_bl, chR_bl, bind_ok, bind_err, bind_bad, bind_if, toS_ok, toS_err, toS_if, sbind_nx, sbind_rt, sbind_ct, sbind_er, sbind_if, ofO_some, ofO_if, ofO_none, putR_some, getS_z, getS_s, vS_fz, vS_own, appR_own, appR_ino, parS, open_no, open_fz, open_own, mut_own, mut_ino, loose_no, loose_fz, val_fz, val_own, val_ino, val_lent, As.bs, As.mask, nodupB, endS_rt, endS_nx, endS_er, endS_if, outE_some, outS_nil, outS_f, outS_t, Tg.slots, Tg.slotss, Option.bind_some, It.lends, bodyP_some, body_eq, fbody_eq, fbodyP_some, D.isNon, o_add_i, o_add_l, o_add_t, o_add_s, o_sub_i, o_mul_i, o_fdiv, o_mod, o_pow, o_neg, o_inv, o_band, o_bor_i, o_shl, o_shr, o_eq_i, o_ne_i, o_eq_s, o_ne_s, o_lt_i, o_le_i, o_gt_i, o_ge_i, o_in_t, o_in_l, o_nin_t, o_nin_l, o_isn, o_isnn, o_isb, o_isnb, o_tup, o_lst, o_item_l, o_item_t, o_sl00, o_sl10, o_sl01, o_sl11, slX_l, slX_t, o_rev_l, o_rev_t, o_len_l, o_len_t, o_len_s, o_abs, o_int_i, o_int_b, o_sum, o_max1, o_min1, o_max2, o_min2, o_all_map, o_any_map, o_sorted_l, o_sorted_t, o_sorted_s, o_set_l, o_set_t, o_bor_s, o_tuple_l, o_tuple_t, o_list_l, o_list_t, o_list_scr, o_isint, o_isbool, o_isstr, o_istuple, o_islist, isO_non, isO_bl, isO_int, isO_str, isO_tup, isO_lst, o_isexc, o_tru_b, o_tru_i, o_tru_n, o_tru_l, o_tru_t, iterD_l, iterD_t, range1, range2, fin_ok, fin_err, fin_ok1, fin_err1, fin_if, withD_own, withD_ino, ml_own, ml_ino, unlend_nil, back_nil, store_eq, put_n, put_t, puts_nil, puts_cons, wipeR_eq, wipe_nil, wipe_cons, back_cons, cx_call, cx_lam, cx_noio, lim_lit, Int.toNat_natCast, cut_init, cut_from, cut_last, cut_but, at0, at1, at2, subR_ino0, subR_ino1, List.set_cons_zero, List.set_cons_succ, List.length_cons, List.length_nil, List.all_cons, List.all_nil, List.nil_append, List.cons_append, List.append_nil, List.map_cons, List.map_nil, List.elem_nil, not_true_eq_false, not_false_eq_true, Bool.and_true, Bool.true_and, Bool.and_self, Bool.not_true, Bool.not_false, Bool.and_false, Bool.false_and, Bool.or_true, Bool.true_or, Bool.or_false, Bool.false_or, Bool.or_self, decide_true, decide_false, decide_eq_true_eq, Bool.false_eq_true, if_true, if_false, ite_true, ite_false, Option.map_some, Option.map_none, Option.isSome_some, Nat.zero_add, Nat.reduceAdd, Nat.reduceLT, Nat.reduceLeDiff, Nat.reduceEqDiff, Nat.reduceBEq, Nat.reduceSub, Nat.reduceMul, Int.reduceLT, Int.reduceLE, Int.reduceAdd, Int.reduceSub, Int.reduceNeg, Int.reduceEq, Int.reduceMul, Int.reduceToNat, reduceIte, D.okd, memD, all_okd (j := 200) (by omega) (okd_all ho)]
    | _ => cases q
theorem need_web_ok {n : Nat} {d : D} (h : D.okd 3 d = true) (hl : ∀ ds, d = .tup ds → ∀ es, .tup es ∈ ds → es.length ≤ 16777216) : Φ prog (n + 5) 7 [d] = if isWeb d = true then .ok .non [] else .err ⟨2, none⟩ [] := by
  rw [u7, k7]
  simp -implicitDefEqProofs only [ev_k, ev_v, ev_op, ev_bop, evB_one, evB_and, evB_or, ev_nt, ev_ite, ev_chain, ev_call, ev_fn, ev_as0, ev_asE, ev_asB, ev_cs0, ev_cs, ev_iE, ev_iB, ev_iR, ev_iN, ev_iZ, ev_iV, ev_comp, ex_for, ev_conv, convR_range, lendR_some, ex_asg, ex_par, ex_tup, ex_ex, ex_ret, ex_retN, ex_ite, ex_raise, ex_pass, ex_cont, ex_app, ex_sub, exs0, exs, condR_bl, condS_bl, notR_bl, andR_bl, orR_bl, condC_bl, chR_bl, bind_ok, bind_err, bind_bad, bind_if, toS_ok, toS_err, toS_if, sbind_nx, sbind_rt, sbind_ct, sbind_er, sbind_if, ofO_some, ofO_if, ofO_none, putR_some, getS_z, getS_s, vS_fz, vS_own, appR_own, appR_ino, parS, open_no, open_fz, open_own, mut_own, mut_ino, loose_no, loose_fz, val_fz, val_own, val_ino, val_lent, As.bs, As.mask, nodupB, endS_rt, endS_nx, endS_er, endS_if, outE_some, outS_nil, outS_f, outS_t, Tg.slots, Tg.slotss, Option.bind_some, It.lends, bodyP_some, body_eq, fbody_eq, fbodyP_some, D.isNon, o_add_i, o_add_l, o_add_t, o_add_s, o_sub_i, o_mul_i, o_fdiv, o_mod, o_pow, o_neg, o_inv, o_band, o_bor_i, o_shl, o_shr, o_eq_i, o_ne_i, o_eq_s, o_ne_s, o_lt_i, o_le_i, o_gt_i, o_ge_i, o_in_t, o_in_l, o_nin_t, o_nin_l, o_isn, o_isnn, o_isb, o_isnb, o_tup, o_lst, o_item_l, o_item_t, o_sl00, o_sl10, o_sl01, o_sl11, slX_l, slX_t, o_rev_l, o_rev_t, o_len_l, o_len_t, o_len_s, o_abs, o_int_i, o_int_b, o_sum, o_max1, o_min1, o_max2, o_min2, o_all_map, o_any_map, o_sorted_l, o_sorted_t, o_sorted_s, o_set_l, o_set_t, o_bor_s, o_tuple_l, o_tuple_t, o_list_l, o_list_t, o_list_scr, o_isint, o_isbool, o_isstr, o_istuple, o_islist, isO_non, isO_bl, isO_int, isO_str, isO_tup, isO_lst, o_isexc, o_tru_b, o_tru_i, o_tru_n, o_tru_l, o_tru_t, iterD_l, iterD_t, range1, range2, fin_ok, fin_err, fin_ok1, fin_err1, fin_if, withD_own, withD_ino, ml_own, ml_ino, unlend_nil, back_nil, store_eq, put_n, put_t, puts_nil, puts_cons, wipeR_eq, wipe_nil, wipe_cons, back_cons, cx_call, cx_lam, cx_noio, lim_lit, Int.toNat_natCast, cut_init, cut_from, cut_last, cut_but, at0, at1, at2, subR_ino0, subR_ino1, List.set_cons_zero, List.set_cons_succ, List.length_cons, List.length_nil, List.all_cons, List.all_nil, List.nil_append, List.cons_append, List.append_nil, List.map_cons, List.map_nil, List.elem_nil, not_true_eq_false, not_false_eq_true, Bool.and_true, Bool.true_and, Bool.and_self, Bool.not_true, Bool.not_false, Bool.and_false, Bool.false_and, Bool.or_true, Bool.true_or, Bool.or_false, Bool.false_or, Bool.or_self, decide_true, decide_false, decide_eq_true_eq, Bool.false_eq_true, if_true, if_false, ite_true, ite_false, Option.map_some, Option.map_none, Option.isSome_some, Nat.zero_add, Nat.reduceAdd, Nat.reduceLT, Nat.reduceLeDiff, Nat.reduceEqDiff, Nat.reduceBEq, Nat.reduceSub, Nat.reduceMul, Int.reduceLT, Int.reduceLE, Int.reduceAdd, Int.reduceSub, Int.reduceNeg, Int.reduceEq, Int.reduceMul, Int.reduceToNat, reduceIte, is_web_in_ok h hl]
  cases isWeb d <;> simp -implicitDefEqProofs only [ev_k, ev_v, ev_op, ev_bop, evB_one, evB_and, evB_or, ev_nt, ev_ite, ev_chain, ev_call, ev_fn, ev_as0, ev_asE, ev_asB, ev_cs0, ev_cs, ev_iE, ev_iB, ev_iR, ev_iN, ev_iZ, ev_iV, ev_comp, ex_for, ev_conv, convR_range, lendR_some, ex_asg, ex_par, ex_tup, ex_ex, ex_ret, ex_retN, ex_ite, ex_raise, ex_pass, ex_cont, ex_app, ex_sub, exs0, exs, condR_bl, condS_bl, notR_bl, andR_bl, orR_bl, condC_bl, chR_bl, bind_ok, bind_err, bind_bad, bind_if, toS_ok, toS_err, toS_if, sbind_nx, sbind_rt, sbind_ct, sbind_er, sbind_if, ofO_some, ofO_if, ofO_none, putR_some, getS_z, getS_s, vS_fz, vS_own, appR_own, appR_ino, parS, open_no, open_fz, open_own, mut_own, mut_ino, loose_no, loose_fz, val_fz, val_own, val_ino, val_lent, As.bs, As.mask, nodupB, endS_rt, endS_nx, endS_er, endS_if, outE_some, outS_nil, outS_f, outS_t, Tg.slots, Tg.slotss, Option.bind_some, It.lends, bodyP_some, body_eq, fbody_eq, fbodyP_some, D.isNon, o_add_i, o_add_l, o_add_t, o_add_s, o_sub_i, o_mul_i, o_fdiv, o_mod, o_pow, o_neg, o_inv, o_band, o_bor_i, o_shl, o_shr, o_eq_i, o_ne_i, o_eq_s, o_ne_s, o_lt_i, o_le_i, o_gt_i, o_ge_i, o_in_t, o_in_l, o_nin_t, o_nin_l, o_isn, o_isnn, o_isb, o_isnb, o_tup, o_lst, o_item_l, o_item_t, o_sl00, o_sl10, o_sl01, o_sl11, slX_l, slX_t, o_rev_l, o_rev_t, o_len_l, o_len_t, o_len_s, o_abs, o_int_i, o_int_b, o_sum, o_max1, o_min1, o_max2, o_min2, o_all_map, o_any_map, o_sorted_l, o_sorted_t, o_sorted_s, o_set_l, o_set_t, o_bor_s, o_tuple_l, o_tuple_t, o_list_l, o_list_t, o_list_scr, o_isint, o_isbool, o_isstr, o_istuple, o_islist, isO_non, isO_bl, isO_int, isO_str, isO_tup, isO_lst, o_isexc, o_tru_b, o_tru_i, o_tru_n, o_tru_l, o_tru_t, iterD_l, iterD_t, range1, range2, fin_ok, fin_err, fin_ok1, fin_err1, fin_if, withD_own, withD_ino, ml_own, ml_ino, unlend_nil, back_nil, store_eq, put_n, put_t, puts_nil, puts_cons, wipeR_eq, wipe_nil, wipe_cons, back_cons, cx_call, cx_lam, cx_noio, lim_lit, Int.toNat_natCast, cut_init, cut_from, cut_last, cut_but, at0, at1, at2, subR_ino0, subR_ino1, List.set_cons_zero, List.set_cons_succ, List.length_cons, List.length_nil, List.all_cons, List.all_nil, List.nil_append, List.cons_append, List.append_nil, List.map_cons, List.map_nil, List.elem_nil, not_true_eq_false, not_false_eq_true, Bool.and_true, Bool.true_and, Bool.and_self, Bool.not_true, Bool.not_false, Bool.and_false, Bool.false_and, Bool.or_true, Bool.true_or, Bool.or_false, Bool.false_or, Bool.or_self, decide_true, decide_false, decide_eq_true_eq, Bool.false_eq_true, if_true, if_false, ite_true, ite_false, Option.map_some, Option.map_none, Option.isSome_some, Nat.zero_add, Nat.reduceAdd, Nat.reduceLT, Nat.reduceLeDiff, Nat.reduceEqDiff, Nat.reduceBEq, Nat.reduceSub, Nat.reduceMul, Int.reduceLT, Int.reduceLE, Int.reduceAdd, Int.reduceSub, Int.reduceNeg, Int.reduceEq, Int.reduceMul, Int.reduceToNat, reduceIte]
theorem is_web_ok {n : Nat} {d : D} (h : D.okd 3 d = true) (hl : ∀ ds, d = .tup ds → ∀ es, .tup es ∈ ds → es.length ≤ 16777216) : Φ prog (n + 5) 9 [d] = .ok (.bl (isWeb d)) [] := by
  rw [u9, k9]
  simp -implicitDefEqProofs only [ev_k, ev_v, ev_op, ev_bop, evB_one, evB_and, evB_or, ev_nt, ev_ite, ev_chain, ev_call, ev_fn, ev_as0, ev_asE, ev_asB, ev_cs0, ev_cs, ev_iE, ev_iB, ev_iR, ev_iN, ev_iZ, ev_iV, ev_comp, ex_for, ev_conv, convR_range, lendR_some, ex_asg, ex_par, ex_tup, ex_ex, ex_ret, ex_retN, ex_ite, ex_raise, ex_pass, ex_cont, ex_app, ex_sub, exs0, exs, condR_bl, condS_bl, notR_bl, andR_bl, orR_bl, condC_bl, chR_bl, bind_ok, bind_err, bind_bad, bind_if, toS_ok, toS_err, toS_if, sbind_nx, sbind_rt, sbind_ct, sbind_er, sbind_if, ofO_some, ofO_if, ofO_none, putR_some, getS_z, getS_s, vS_fz, vS_own, appR_own, appR_ino, parS, open_no, open_fz, open_own, mut_own, mut_ino, loose_no, loose_fz, val_fz, val_own, val_ino, val_lent, As.bs, As.mask, nodupB, endS_rt, endS_nx, endS_er, endS_if, outE_some, outS_nil, outS_f, outS_t, Tg.slots, Tg.slotss, Option.bind_some, It.lends, bodyP_some, body_eq, fbody_eq, fbodyP_some, D.isNon, o_add_i, o_add_l, o_add_t, o_add_s, o_sub_i, o_mul_i, o_fdiv, o_mod, o_pow, o_neg, o_inv, o_band, o_bor_i, o_shl, o_shr, o_eq_i, o_ne_i, o_eq_s, o_ne_s, o_lt_i, o_le_i, o_gt_i, o_ge_i, o_in_t, o_in_l, o_nin_t, o_nin_l, o_isn, o_isnn, o_isb, o_isnb, o_tup, o_lst, o_item_l, o_item_t, o_sl00, o_sl10, o_sl01, o_sl11, slX_l, slX_t, o_rev_l, o_rev_t, o_len_l, o_len_t, o_len_s, o_abs, o_int_i, o_int_b, o_sum, o_max1, o_min1, o_max2, o_min2, o_all_map, o_any_map, o_sorted_l, o_sorted_t, o_sorted_s, o_set_l, o_set_t, o_bor_s, o_tuple_l, o_tuple_t, o_list_l, o_list_t, o_list_scr, o_isint, o_isbool, o_isstr, o_istuple, o_islist, isO_non, isO_bl, isO_int, isO_str, isO_tup, isO_lst, o_isexc, o_tru_b, o_tru_i, o_tru_n, o_tru_l, o_tru_t, iterD_l, iterD_t, range1, range2, fin_ok, fin_err, fin_ok1, fin_err1, fin_if, withD_own, withD_ino, ml_own, ml_ino, unlend_nil, back_nil, store_eq, put_n, put_t, puts_nil, puts_cons, wipeR_eq, wipe_nil, wipe_cons, back_cons, cx_call, cx_lam, cx_noio, lim_lit, Int.toNat_natCast, cut_init, cut_from, cut_last, cut_but, at0, at1, at2, subR_ino0, subR_ino1, List.set_cons_zero, List.set_cons_succ, List.length_cons, List.length_nil, List.all_cons, List.all_nil, List.nil_append, List.cons_append, List.append_nil, List.map_cons, List.map_nil, List.elem_nil, not_true_eq_false, not_false_eq_true, Bool.and_true, Bool.true_and, Bool.and_self, Bool.not_true, Bool.not_false, Bool.and_false, Bool.false_and, Bool.or_true, Bool.true_or, Bool.or_false, Bool.false_or, Bool.or_self, decide_true, decide_false, decide_eq_true_eq, Bool.false_eq_true, if_true, if_false, ite_true, ite_false, Option.map_some, Option.map_none, Option.isSome_some, Nat.zero_add, Nat.reduceAdd, Nat.reduceLT, Nat.reduceLeDiff, Nat.reduceEqDiff, Nat.reduceBEq, Nat.reduceSub, Nat.reduceMul, Int.reduceLT, Int.reduceLE, Int.reduceAdd, Int.reduceSub, Int.reduceNeg, Int.reduceEq, Int.reduceMul, Int.reduceToNat, reduceIte, is_web_in_ok h hl]
theorem is_lot_ok {n : Nat} {d : D} {m : Int} (hm : isWh 1 12 (.int m) = true) (h : D.okd 2 d = true) (hl : ∀ ds, d = .tup ds → ds.length ≤ 16777216) : Φ prog (n + 4) 10 [.int m, d] = .ok (.bl (isLot m d)) [] := by
  rw [u10, k10]
  simp -implicitDefEqProofs only [ev_k, ev_v, ev_op, ev_bop, evB_one, evB_and, evB_or, ev_nt, ev_ite, ev_chain, ev_call, ev_fn, ev_as0, ev_asE, ev_asB, ev_cs0, ev_cs, ev_iE, ev_iB, ev_iR, ev_iN, ev_iZ, ev_iV, ev_comp, ex_for, ev_conv, convR_range, lendR_some, ex_asg, ex_par, ex_tup, ex_ex, ex_ret, ex_retN, ex_ite, ex_raise, ex_pass, ex_cont, ex_app, ex_sub, exs0, exs, condR_bl, condS_bl, notR_bl, andR_bl, orR_bl, condC_bl, chR_bl, bind_ok, bind_err, bind_bad, bind_if, toS_ok, toS_err, toS_if, sbind_nx, sbind_rt, sbind_ct, sbind_er, sbind_if, ofO_some, ofO_if, ofO_none, putR_some, getS_z, getS_s, vS_fz, vS_own, appR_own, appR_ino, parS, open_no, open_fz, open_own, mut_own, mut_ino, loose_no, loose_fz, val_fz, val_own, val_ino, val_lent, As.bs, As.mask, nodupB, endS_rt, endS_nx, endS_er, endS_if, outE_some, outS_nil, outS_f, outS_t, Tg.slots, Tg.slotss, Option.bind_some, It.lends, bodyP_some, body_eq, fbody_eq, fbodyP_some, D.isNon, o_add_i, o_add_l, o_add_t, o_add_s, o_sub_i, o_mul_i, o_fdiv, o_mod, o_pow, o_neg, o_inv, o_band, o_bor_i, o_shl, o_shr, o_eq_i, o_ne_i, o_eq_s, o_ne_s, o_lt_i, o_le_i, o_gt_i, o_ge_i, o_in_t, o_in_l, o_nin_t, o_nin_l, o_isn, o_isnn, o_isb, o_isnb, o_tup, o_lst, o_item_l, o_item_t, o_sl00, o_sl10, o_sl01, o_sl11, slX_l, slX_t, o_rev_l, o_rev_t, o_len_l, o_len_t, o_len_s, o_abs, o_int_i, o_int_b, o_sum, o_max1, o_min1, o_max2, o_min2, o_all_map, o_any_map, o_sorted_l, o_sorted_t, o_sorted_s, o_set_l, o_set_t, o_bor_s, o_tuple_l, o_tuple_t, o_list_l, o_list_t, o_list_scr, o_isint, o_isbool, o_isstr, o_istuple, o_islist, isO_non, isO_bl, isO_int, isO_str, isO_tup, isO_lst, o_isexc, o_tru_b, o_tru_i, o_tru_n, o_tru_l, o_tru_t, iterD_l, iterD_t, range1, range2, fin_ok, fin_err, fin_ok1, fin_err1, fin_if, withD_own, withD_ino, ml_own, ml_ino, unlend_nil, back_nil, store_eq, put_n, put_t, puts_nil, puts_cons, wipeR_eq, wipe_nil, wipe_cons, back_cons, cx_call, cx_lam, cx_noio, lim_lit, Int.toNat_natCast, cut_init, cut_from, cut_last, cut_but, at0, at1, at2, subR_ino0, subR_ino1, List.set_cons_zero, List.set_cons_succ, List.length_cons, List.length_nil, List.all_cons, List.all_nil, List.nil_append, List.cons_append, List.append_nil, List.map_cons, List.map_nil, List.elem_nil, not_true_eq_false, not_false_eq_true, Bool.and_true, Bool.true_and, Bool.and_self, Bool.not_true, Bool.not_false, Bool.and_false, Bool.false_and, Bool.or_true, Bool.true_or, Bool.or_false, Bool.false_or, Bool.or_self, decide_true, decide_false, decide_eq_true_eq, Bool.false_eq_true, if_true, if_false, ite_true, ite_false, Option.map_some, Option.map_none, Option.isSome_some, Nat.zero_add, Nat.reduceAdd, Nat.reduceLT, Nat.reduceLeDiff, Nat.reduceEqDiff, Nat.reduceBEq, Nat.reduceSub, Nat.reduceMul, Int.reduceLT, Int.reduceLE, Int.reduceAdd, Int.reduceSub, Int.reduceNeg, Int.reduceEq, Int.reduceMul, Int.reduceToNat, reduceIte, need_members_ok (d := .int m) rfl, hm, is_set_below_ok h hl]

/-! ### the draws -/
structure CupOk (c : D) : Prop where
  ex : ∃ a b : Int, c = .lst [.int a, .int b] ∧ 0 ≤ a ∧ 0 ≤ b ∧ b < 1048576
theorem law_cup_ok {n : Nat} {ns : List Int} (h : ns.length ≤ 63) : ∃ c, Φ prog (n + 1) 13 [.scr ns] = .ok c [] ∧ CupOk c := by
  rw [u13, k13]
  have hx : ∃ x, L2.atI (ns.map D.int ++ [.int 0]) 0 = some (.int x) := by
    cases ns with
    | nil => exact ⟨0, at0⟩
    | cons a r => exact ⟨a, at0⟩
  obtain ⟨x, hx⟩ := hx
  have hp : cpow 10 18 = true := by decide
  have hm : ∀ i, cmul i 1129 = true := fun i => by unfold cmul; simp
  have h1 : ns.length + 1 ≤ 16777216 := by omega
  have hi : (10 : Int) ^ (18 : Int).toNat = 1000000000000000000 := by decide
  simp -implicitDefEqProofs only [ev_k, ev_v, ev_op, ev_bop, evB_one, evB_and, evB_or, ev_nt, ev_ite, ev_chain, ev_call, ev_fn, ev_as0, ev_asE, ev_asB, ev_cs0, ev_cs, ev_iE, ev_iB, ev_iR, ev_iN, ev_iZ, ev_iV, ev_comp, ex_for, ev_conv, convR_range, lendR_some, ex_asg, ex_par, ex_tup, ex_ex, ex_ret, ex_retN, ex_ite, ex_raise, ex_pass, ex_cont, ex_app, ex_sub, exs0, exs, condR_bl, condS_bl, notR_bl, andR_bl, orR_bl, condC_bl, chR_bl, bind_ok, bind_err, bind_bad, bind_if, toS_ok, toS_err, toS_if, sbind_nx, sbind_rt, sbind_ct, sbind_er, sbind_if, ofO_some, ofO_if, ofO_none, putR_some, getS_z, getS_s, vS_fz, vS_own, appR_own, appR_ino, parS, open_no, open_fz, open_own, mut_own, mut_ino, loose_no, loose_fz, val_fz, val_own, val_ino, val_lent, As.bs, As.mask, nodupB, endS_rt, endS_nx, endS_er, endS_if, outE_some, outS_nil, outS_f, outS_t, Tg.slots, Tg.slotss, Option.bind_some, It.lends, bodyP_some, body_eq, fbody_eq, fbodyP_some, D.isNon, o_add_i, o_add_l, o_add_t, o_add_s, o_sub_i, o_mul_i, o_fdiv, o_mod, o_pow, o_neg, o_inv, o_band, o_bor_i, o_shl, o_shr, o_eq_i, o_ne_i, o_eq_s, o_ne_s, o_lt_i, o_le_i, o_gt_i, o_ge_i, o_in_t, o_in_l, o_nin_t, o_nin_l, o_isn, o_isnn, o_isb, o_isnb, o_tup, o_lst, o_item_l, o_item_t, o_sl00, o_sl10, o_sl01, o_sl11, slX_l, slX_t, o_rev_l, o_rev_t, o_len_l, o_len_t, o_len_s, o_abs, o_int_i, o_int_b, o_sum, o_max1, o_min1, o_max2, o_min2, o_all_map, o_any_map, o_sorted_l, o_sorted_t, o_sorted_s, o_set_l, o_set_t, o_bor_s, o_tuple_l, o_tuple_t, o_list_l, o_list_t, o_list_scr, o_isint, o_isbool, o_isstr, o_istuple, o_islist, isO_non, isO_bl, isO_int, isO_str, isO_tup, isO_lst, o_isexc, o_tru_b, o_tru_i, o_tru_n, o_tru_l, o_tru_t, iterD_l, iterD_t, range1, range2, fin_ok, fin_err, fin_ok1, fin_err1, fin_if, withD_own, withD_ino, ml_own, ml_ino, unlend_nil, back_nil, store_eq, put_n, put_t, puts_nil, puts_cons, wipeR_eq, wipe_nil, wipe_cons, back_cons, cx_call, cx_lam, cx_noio, lim_lit, Int.toNat_natCast, cut_init, cut_from, cut_last, cut_but, at0, at1, at2, subR_ino0, subR_ino1, List.set_cons_zero, List.set_cons_succ, List.length_cons, List.length_nil, List.all_cons, List.all_nil, List.nil_append, List.cons_append, List.append_nil, List.map_cons, List.map_nil, List.elem_nil, not_true_eq_false, not_false_eq_true, Bool.and_true, Bool.true_and, Bool.and_self, Bool.not_true, Bool.not_false, Bool.and_false, Bool.false_and, Bool.or_true, Bool.true_or, Bool.or_false, Bool.false_or, Bool.or_self, decide_true, decide_false, decide_eq_true_eq, Bool.false_eq_true, if_true, if_false, ite_true, ite_false, Option.map_some, Option.map_none, Option.isSome_some, Nat.zero_add, Nat.reduceAdd, Nat.reduceLT, Nat.reduceLeDiff, Nat.reduceEqDiff, Nat.reduceBEq, Nat.reduceSub, Nat.reduceMul, Int.reduceLT, Int.reduceLE, Int.reduceAdd, Int.reduceSub, Int.reduceNeg, Int.reduceEq, Int.reduceMul, Int.reduceToNat, reduceIte, List.length_map, h1, hx, hp, hi, hm, show (0 : Int) < 353 ∧ (353 : Int) < 1073741824 from by decide]
  generalize hy : (if x < 0 then -x else x) = y
  have hy0 : 0 ≤ y := by subst hy; split <;> omega
  split
  · exact ⟨_, rfl, ⟨_, _, rfl, by omega, by omega, by omega⟩⟩
  · exact ⟨_, rfl, ⟨_, _, rfl, by omega, by omega, by omega⟩⟩
theorem law_roll_ok {n : Nat} {c : D} {m : Int} (h : CupOk c) (h1 : 1 ≤ m) (h2 : m < 1073741824) : ∃ r c', Φ prog (n + 1) 14 [c, .int m] = .ok (.int r) [c'] ∧ 0 ≤ r ∧ r < m ∧ CupOk c' := by
  obtain ⟨a, b, rfl, ha, hb, hb2⟩ := h
  rw [u14, k14]
  have hm : ∀ i, cmul i 29573 = true := fun i => by unfold cmul; simp
  have hq : 0 < m ∧ m < 1073741824 := ⟨by omega, h2⟩
  simp -implicitDefEqProofs only [ev_k, ev_v, ev_op, ev_bop, evB_one, evB_and, evB_or, ev_nt, ev_ite, ev_chain, ev_call, ev_fn, ev_as0, ev_asE, ev_asB, ev_cs0, ev_cs, ev_iE, ev_iB, ev_iR, ev_iN, ev_iZ, ev_iV, ev_comp, ex_for, ev_conv, convR_range, lendR_some, ex_asg, ex_par, ex_tup, ex_ex, ex_ret, ex_retN, ex_ite, ex_raise, ex_pass, ex_cont, ex_app, ex_sub, exs0, exs, condR_bl, condS_bl, notR_bl, andR_bl, orR_bl, condC_bl, chR_bl, bind_ok, bind_err, bind_bad, bind_if, toS_ok, toS_err, toS_if, sbind_nx, sbind_rt, sbind_ct, sbind_er, sbind_if, ofO_some, ofO_if, ofO_none, putR_some, getS_z, getS_s, vS_fz, vS_own, appR_own, appR_ino, parS, open_no, open_fz, open_own, mut_own, mut_ino, loose_no, loose_fz, val_fz, val_own, val_ino, val_lent, As.bs, As.mask, nodupB, endS_rt, endS_nx, endS_er, endS_if, outE_some, outS_nil, outS_f, outS_t, Tg.slots, Tg.slotss, Option.bind_some, It.lends, bodyP_some, body_eq, fbody_eq, fbodyP_some, D.isNon, o_add_i, o_add_l, o_add_t, o_add_s, o_sub_i, o_mul_i, o_fdiv, o_mod, o_pow, o_neg, o_inv, o_band, o_bor_i, o_shl, o_shr, o_eq_i, o_ne_i, o_eq_s, o_ne_s, o_lt_i, o_le_i, o_gt_i, o_ge_i, o_in_t, o_in_l, o_nin_t, o_nin_l, o_isn, o_isnn, o_isb, o_isnb, o_tup, o_lst, o_item_l, o_item_t, o_sl00, o_sl10, o_sl01, o_sl11, slX_l, slX_t, o_rev_l, o_rev_t, o_len_l, o_len_t, o_len_s, o_abs, o_int_i, o_int_b, o_sum, o_max1, o_min1, o_max2, o_min2, o_all_map, o_any_map, o_sorted_l, o_sorted_t, o_sorted_s, o_set_l, o_set_t, o_bor_s, o_tuple_l, o_tuple_t, o_list_l, o_list_t, o_list_scr, o_isint, o_isbool, o_isstr, o_istuple, o_islist, isO_non, isO_bl, isO_int, isO_str, isO_tup, isO_lst, o_isexc, o_tru_b, o_tru_i, o_tru_n, o_tru_l, o_tru_t, iterD_l, iterD_t, range1, range2, fin_ok, fin_err, fin_ok1, fin_err1, fin_if, withD_own, withD_ino, ml_own, ml_ino, unlend_nil, back_nil, store_eq, put_n, put_t, puts_nil, puts_cons, wipeR_eq, wipe_nil, wipe_cons, back_cons, cx_call, cx_lam, cx_noio, lim_lit, Int.toNat_natCast, cut_init, cut_from, cut_last, cut_but, at0, at1, at2, subR_ino0, subR_ino1, List.set_cons_zero, List.set_cons_succ, List.length_cons, List.length_nil, List.all_cons, List.all_nil, List.nil_append, List.cons_append, List.append_nil, List.map_cons, List.map_nil, List.elem_nil, not_true_eq_false, not_false_eq_true, Bool.and_true, Bool.true_and, Bool.and_self, Bool.not_true, Bool.not_false, Bool.and_false, Bool.false_and, Bool.or_true, Bool.true_or, Bool.or_false, Bool.false_or, Bool.or_self, decide_true, decide_false, decide_eq_true_eq, Bool.false_eq_true, if_true, if_false, ite_true, ite_false, Option.map_some, Option.map_none, Option.isSome_some, Nat.zero_add, Nat.reduceAdd, Nat.reduceLT, Nat.reduceLeDiff, Nat.reduceEqDiff, Nat.reduceBEq, Nat.reduceSub, Nat.reduceMul, Int.reduceLT, Int.reduceLE, Int.reduceAdd, Int.reduceSub, Int.reduceNeg, Int.reduceEq, Int.reduceMul, Int.reduceToNat, reduceIte, hq.1, hq, hm, show (0 : Int) < 167 ∧ (167 : Int) < 1073741824 from by decide]
  split
  · exact ⟨_, _, rfl, Int.emod_nonneg _ (by omega), Int.emod_lt_of_pos _ (by omega), ⟨_, _, rfl, Int.ediv_nonneg ha (by omega), hb, hb2⟩⟩
  · exact ⟨_, _, rfl, Int.emod_nonneg _ (by omega), Int.emod_lt_of_pos _ (by omega), ⟨_, _, rfl, ha, by omega, by omega⟩⟩
/-! ### likeness -/
def kindN : D → Int
  | .non => 0
  | .bl _ => 1
  | .int _ => 2
  | .str _ => 3
  | .tup _ => 4
  | .lst _ => 5
  | _ => 6
theorem law_sort_ok {n : Nat} {d : D} (h : (sort? d).isSome = true) : Φ prog (n + 1) 15 [d] = .ok (.int (kindN d)) [] := by
  rw [u15, k15]
  cases d <;> first | (simp [sort?] at h; done) | simp -implicitDefEqProofs only [ev_k, ev_v, ev_op, ev_bop, evB_one, evB_and, evB_or, ev_nt, ev_ite, ev_chain, ev_call, ev_fn, ev_as0, ev_asE, ev_asB, ev_cs0, ev_cs, ev_iE, ev_iB, ev_iR, ev_iN, ev_iZ, ev_iV, ev_comp, ex_for, ev_conv, convR_range, lendR_some, ex_asg, ex_par, ex_tup, ex_ex, ex_ret, ex_retN, ex_ite, ex_raise, ex_pass, ex_cont, ex_app, ex_sub, exs0, exs, condR_bl, condS_bl, notR_bl, andR_bl, orR_bl, condC_bl, chR_bl, bind_ok, bind_err, bind_bad, bind_if, toS_ok, toS_err, toS_if, sbind_nx, sbind_rt, sbind_ct, sbind_er, sbind_if, ofO_some, ofO_if, ofO_none, putR_some, getS_z, getS_s, vS_fz, vS_own, appR_own, appR_ino, parS, open_no, open_fz, open_own, mut_own, mut_ino, loose_no, loose_fz, val_fz, val_own, val_ino, val_lent, As.bs, As.mask, nodupB, endS_rt, endS_nx, endS_er, endS_if, outE_some, outS_nil, outS_f, outS_t, Tg.slots, Tg.slotss, Option.bind_some, It.lends, bodyP_some, body_eq, fbody_eq, fbodyP_some, D.isNon, o_add_i, o_add_l, o_add_t, o_add_s, o_sub_i, o_mul_i, o_fdiv, o_mod, o_pow, o_neg, o_inv, o_band, o_bor_i, o_shl, o_shr, o_eq_i, o_ne_i, o_eq_s, o_ne_s, o_lt_i, o_le_i, o_gt_i, o_ge_i, o_in_t, o_in_l, o_nin_t, o_nin_l, o_isn, o_isnn, o_isb, o_isnb, o_tup, o_lst, o_item_l, o_item_t, o_sl00, o_sl10, o_sl01, o_sl11, slX_l, slX_t, o_rev_l, o_rev_t, o_len_l, o_len_t, o_len_s, o_abs, o_int_i, o_int_b, o_sum, o_max1, o_min1, o_max2, o_min2, o_all_map, o_any_map, o_sorted_l, o_sorted_t, o_sorted_s, o_set_l, o_set_t, o_bor_s, o_tuple_l, o_tuple_t, o_list_l, o_list_t, o_list_scr, o_isint, o_isbool, o_isstr, o_istuple, o_islist, isO_non, isO_bl, isO_int, isO_str, isO_tup, isO_lst, o_isexc, o_tru_b, o_tru_i, o_tru_n, o_tru_l, o_tru_t, iterD_l, iterD_t, range1, range2, fin_ok, fin_err, fin_ok1, fin_err1, fin_if, withD_own, withD_ino, ml_own, ml_ino, unlend_nil, back_nil, store_eq, put_n, put_t, puts_nil, puts_cons, wipeR_eq, wipe_nil, wipe_cons, back_cons, cx_call, cx_lam, cx_noio, lim_lit, Int.toNat_natCast, cut_init, cut_from, cut_last, cut_but, at0, at1, at2, subR_ino0, subR_ino1, List.set_cons_zero, List.set_cons_succ, List.length_cons, List.length_nil, List.all_cons, List.all_nil, List.nil_append, List.cons_append, List.append_nil, List.map_cons, List.map_nil, List.elem_nil, not_true_eq_false, not_false_eq_true, Bool.and_true, Bool.true_and, Bool.and_self, Bool.not_true, Bool.not_false, Bool.and_false, Bool.false_and, Bool.or_true, Bool.true_or, Bool.or_false, Bool.false_or, Bool.or_self, decide_true, decide_false, decide_eq_true_eq, Bool.false_eq_true, if_true, if_false, ite_true, ite_false, Option.map_some, Option.map_none, Option.isSome_some, Nat.zero_add, Nat.reduceAdd, Nat.reduceLT, Nat.reduceLeDiff, Nat.reduceEqDiff, Nat.reduceBEq, Nat.reduceSub, Nat.reduceMul, Int.reduceLT, Int.reduceLE, Int.reduceAdd, Int.reduceSub, Int.reduceNeg, Int.reduceEq, Int.reduceMul, Int.reduceToNat, reduceIte, kindN]
mutual
theorem eqv_refl : ∀ (d : D) (k : Nat), D.okd k d = true → D.eqv d d = true
  | .non, _, _ => rfl
  | .bl b, _, _ => by simp [D.eqv]
  | .int i, _, _ => by simp [D.eqv]
  | .str s, _, _ => by simp [D.eqv]
  | .tup ds, 0, h => by simp [D.okd] at h
  | .lst ds, 0, h => by simp [D.okd] at h
  | .tup ds, k + 1, h => by
    rw [D.okd] at h
    rw [D.eqv]; exact eqvs_refl ds k h
  | .lst ds, k + 1, h => by
    rw [D.okd] at h
    rw [D.eqv]; exact eqvs_refl ds k h
  | .set _, k, h => by cases k <;> simp [D.okd] at h
  | .dic _ _, k, h => by cases k <;> simp [D.okd] at h
  | .fn _, k, h => by cases k <;> simp [D.okd] at h
  | .exc _ _, k, h => by cases k <;> simp [D.okd] at h
  | .scr _, k, h => by cases k <;> simp [D.okd] at h
  | .lam, k, h => by cases k <;> simp [D.okd] at h
theorem eqvs_refl : ∀ (ds : List D) (k : Nat), ds.all (D.okd k) = true → D.eqvs ds ds = true
  | [], _, _ => rfl
  | d :: ds, k, h => by
    rw [List.all_cons, Bool.and_eq_true] at h
    rw [D.eqvs, eqv_refl d k h.1, eqvs_refl ds k h.2]; rfl
end
theorem zip_self : ∀ ds : List D, zipL ds ds = ds.map fun d => .tup [d, d]
  | [] => rfl
  | d :: ds => by rw [zipL, zip_self ds]; rfl
/-- sizes -/
def small : Nat → D → Bool
  | _, .non => true
  | _, .bl _ => true
  | _, .int _ => true
  | _, .str _ => true
  | n + 1, .tup ds => decide (ds.length ≤ 16777216) && ds.all (small n)
  | n + 1, .lst ds => decide (ds.length ≤ 16777216) && ds.all (small n)
  | _, _ => false
theorem small_okd : ∀ {k : Nat} {d : D}, small k d = true → D.okd k d = true
  | 0, d, h => by cases d <;> simp [small, D.okd] at h ⊢
  | k + 1, d, h => by
    cases d <;> simp only [small, D.okd, Bool.and_eq_true, List.all_eq_true, decide_eq_true_eq, Bool.false_eq_true] at h ⊢
    · exact fun x hx => small_okd (h.2 x hx)
    · exact fun x hx => small_okd (h.2 x hx)
theorem all_none {α : Type} : ∀ (l : List α), l.filter (fun _ => false) = []
  | [] => rfl
  | a :: l => by rw [List.filter_cons_of_neg (by simp), all_none l]
theorem okd5 {n : Nat} {i : Int} : D.okd n (.int i) = true := by cases n <;> rfl
theorem law_like_ok : ∀ (k : Nat) {n : Nat} {d : D}, small k d = true → k ≤ 60 → Φ prog (n + k + 2) 16 [d, d] = .ok (.bl true) []
  | k, n, d, h, hk => by
    have ho := small_okd h
    have hs : (sort? d).isSome = true := okd_kn ho
    have hsr := law_sort_ok (n := n + k) hs
    rw [u16, k16]
    have hcomp : ∀ ds : List D, (d = .tup ds ∨ d = .lst ds) → ds.length ≤ 16777216 ∧ ∀ x ∈ ds, Φ prog (n + k + 1) 16 [x, x] = .ok (.bl true) [] := fun ds e => by
      cases k with
      | zero => rcases e with rfl | rfl <;> simp [small] at h
      | succ k =>
        have : ds.length ≤ 16777216 ∧ ∀ x ∈ ds, small k x = true := by rcases e with rfl | rfl <;> simpa [small] using h
        exact ⟨this.1, fun x hx => by
          have := law_like_ok k (n := n) (this.2 x hx) (by omega)
          rw [show n + (k + 1) + 1 = n + k + 2 by omega]
          exact this⟩
    have fin : ∀ ds : List D, (d = .tup ds ∨ d = .lst ds) → ∀ c s, c = cx (n + k + 1) → s = [Slot.fz d, .fz d, .fz (.int (kindN d)), .no, .no] → loopC (body c (.t [.n 3, .n 4]) (.cons (.nt (.op .tru (.cons (.e (.call 16 (.cons (.e (.v 3)) (.cons (.e (.v 4)) .nil)))) .nil))) .nil) (.k (.int 1))) (zipL ds ds) s [] = .ok (.lst []) s := fun ds e c s hc hs => by
      obtain ⟨h1, h2⟩ := hcomp ds e
      subst hc hs
      rw [zip_self, loopC_filtL (fun _ => false) (fun d => d) (fun x hx => by simp -implicitDefEqProofs only [ev_k, ev_v, ev_op, ev_bop, evB_one, evB_and, evB_or, ev_nt, ev_ite, ev_chain, ev_call, ev_fn, ev_as0, ev_asE, ev_asB, ev_cs0, ev_cs, ev_iE, ev_iB, ev_iR, ev_iN, ev_iZ, ev_iV, ev_comp, ex_for, ev_conv, convR_range, lendR_some, ex_asg, ex_par, ex_tup, ex_ex, ex_ret, ex_retN, ex_ite, ex_raise, ex_pass, ex_cont, ex_app, ex_sub, exs0, exs, condR_bl, condS_bl, notR_bl, andR_bl, orR_bl, condC_bl, chR_bl, bind_ok, bind_err, bind_bad, bind_if, toS_ok, toS_err, toS_if, sbind_nx, sbind_rt, sbind_ct, sbind_er, sbind_if, ofO_some, ofO_if, ofO_none, putR_some, getS_z, getS_s, vS_fz, vS_own, appR_own, appR_ino, parS, open_no, open_fz, open_own, mut_own, mut_ino, loose_no, loose_fz, val_fz, val_own, val_ino, val_lent, As.bs, As.mask, nodupB, endS_rt, endS_nx, endS_er, endS_if, outE_some, outS_nil, outS_f, outS_t, Tg.slots, Tg.slotss, Option.bind_some, It.lends, bodyP_some, body_eq, fbody_eq, fbodyP_some, D.isNon, o_add_i, o_add_l, o_add_t, o_add_s, o_sub_i, o_mul_i, o_fdiv, o_mod, o_pow, o_neg, o_inv, o_band, o_bor_i, o_shl, o_shr, o_eq_i, o_ne_i, o_eq_s, o_ne_s, o_lt_i, o_le_i, o_gt_i, o_ge_i, o_in_t, o_in_l, o_nin_t, o_nin_l, o_isn, o_isnn, o_isb, o_isnb, o_tup, o_lst, o_item_l, o_item_t, o_sl00, o_sl10, o_sl01, o_sl11, slX_l, slX_t, o_rev_l, o_rev_t, o_len_l, o_len_t, o_len_s, o_abs, o_int_i, o_int_b, o_sum, o_max1, o_min1, o_max2, o_min2, o_all_map, o_any_map, o_sorted_l, o_sorted_t, o_sorted_s, o_set_l, o_set_t, o_bor_s, o_tuple_l, o_tuple_t, o_list_l, o_list_t, o_list_scr, o_isint, o_isbool, o_isstr, o_istuple, o_islist, isO_non, isO_bl, isO_int, isO_str, isO_tup, isO_lst, o_isexc, o_tru_b, o_tru_i, o_tru_n, o_tru_l, o_tru_t, iterD_l, iterD_t, range1, range2, fin_ok, fin_err, fin_ok1, fin_err1, fin_if, withD_own, withD_ino, ml_own, ml_ino, unlend_nil, back_nil, store_eq, put_n, put_t, puts_nil, puts_cons, wipeR_eq, wipe_nil, wipe_cons, back_cons, cx_call, cx_lam, cx_noio, lim_lit, Int.toNat_natCast, cut_init, cut_from, cut_last, cut_but, at0, at1, at2, subR_ino0, subR_ino1, List.set_cons_zero, List.set_cons_succ, List.length_cons, List.length_nil, List.all_cons, List.all_nil, List.nil_append, List.cons_append, List.append_nil, List.map_cons, List.map_nil, List.elem_nil, not_true_eq_false, not_false_eq_true, Bool.and_true, Bool.true_and, Bool.and_self, Bool.not_true, Bool.not_false, Bool.and_false, Bool.false_and, Bool.or_true, Bool.true_or, Bool.or_false, Bool.false_or, Bool.or_self, decide_true, decide_false, decide_eq_true_eq, Bool.false_eq_true, if_true, if_false, ite_true, ite_false, Option.map_some, Option.map_none, Option.isSome_some, Nat.zero_add, Nat.reduceAdd, Nat.reduceLT, Nat.reduceLeDiff, Nat.reduceEqDiff, Nat.reduceBEq, Nat.reduceSub, Nat.reduceMul, Int.reduceLT, Int.reduceLE, Int.reduceAdd, Int.reduceSub, Int.reduceNeg, Int.reduceEq, Int.reduceMul, Int.reduceToNat, reduceIte, h2 x hx]) h1, all_none]
      rfl
    cases d with
    | tup ds =>
      simp only [kindN] at fin hsr
      simp -implicitDefEqProofs only [ev_k, ev_v, ev_op, ev_bop, evB_one, evB_and, evB_or, ev_nt, ev_ite, ev_chain, ev_call, ev_fn, ev_as0, ev_asE, ev_asB, ev_cs0, ev_cs, ev_iE, ev_iB, ev_iR, ev_iN, ev_iZ, ev_iV, ev_comp, ex_for, ev_conv, convR_range, lendR_some, ex_asg, ex_par, ex_tup, ex_ex, ex_ret, ex_retN, ex_ite, ex_raise, ex_pass, ex_cont, ex_app, ex_sub, exs0, exs, condR_bl, condS_bl, notR_bl, andR_bl, orR_bl, condC_bl, chR_bl, bind_ok, bind_err, bind_bad, bind_if, toS_ok, toS_err, toS_if, sbind_nx, sbind_rt, sbind_ct, sbind_er, sbind_if, ofO_some, ofO_if, ofO_none, putR_some, getS_z, getS_s, vS_fz, vS_own, appR_own, appR_ino, parS, open_no, open_fz, open_own, mut_own, mut_ino, loose_no, loose_fz, val_fz, val_own, val_ino, val_lent, As.bs, As.mask, nodupB, endS_rt, endS_nx, endS_er, endS_if, outE_some, outS_nil, outS_f, outS_t, Tg.slots, Tg.slotss, Option.bind_some, It.lends, bodyP_some, body_eq, fbody_eq, fbodyP_some, D.isNon, o_add_i, o_add_l, o_add_t, o_add_s, o_sub_i, o_mul_i, o_fdiv, o_mod, o_pow, o_neg, o_inv, o_band, o_bor_i, o_shl, o_shr, o_eq_i, o_ne_i, o_eq_s, o_ne_s, o_lt_i, o_le_i, o_gt_i, o_ge_i, o_in_t, o_in_l, o_nin_t, o_nin_l, o_isn, o_isnn, o_isb, o_isnb, o_tup, o_lst, o_item_l, o_item_t, o_sl00, o_sl10, o_sl01, o_sl11, slX_l, slX_t, o_rev_l, o_rev_t, o_len_l, o_len_t, o_len_s, o_abs, o_int_i, o_int_b, o_sum, o_max1, o_min1, o_max2, o_min2, o_all_map, o_any_map, o_sorted_l, o_sorted_t, o_sorted_s, o_set_l, o_set_t, o_bor_s, o_tuple_l, o_tuple_t, o_list_l, o_list_t, o_list_scr, o_isint, o_isbool, o_isstr, o_istuple, o_islist, isO_non, isO_bl, isO_int, isO_str, isO_tup, isO_lst, o_isexc, o_tru_b, o_tru_i, o_tru_n, o_tru_l, o_tru_t, iterD_l, iterD_t, range1, range2, fin_ok, fin_err, fin_ok1, fin_err1, fin_if, withD_own, withD_ino, ml_own, ml_ino, unlend_nil, back_nil, store_eq, put_n, put_t, puts_nil, puts_cons, wipeR_eq, wipe_nil, wipe_cons, back_cons, cx_call, cx_lam, cx_noio, lim_lit, Int.toNat_natCast, cut_init, cut_from, cut_last, cut_but, at0, at1, at2, subR_ino0, subR_ino1, List.set_cons_zero, List.set_cons_succ, List.length_cons, List.length_nil, List.all_cons, List.all_nil, List.nil_append, List.cons_append, List.append_nil, List.map_cons, List.map_nil, List.elem_nil, not_true_eq_false, not_false_eq_true, Bool.and_true, Bool.true_and, Bool.and_self, Bool.not_true, Bool.not_false, Bool.and_false, Bool.false_and, Bool.or_true, Bool.true_or, Bool.or_false, Bool.false_or, Bool.or_self, decide_true, decide_false, decide_eq_true_eq, Bool.false_eq_true, if_true, if_false, ite_true, ite_false, Option.map_some, Option.map_none, Option.isSome_some, Nat.zero_add, Nat.reduceAdd, Nat.reduceLT, Nat.reduceLeDiff, Nat.reduceEqDiff, Nat.reduceBEq, Nat.reduceSub, Nat.reduceMul, Int.reduceLT, Int.reduceLE, Int.reduceAdd, Int.reduceSub, Int.reduceNeg, Int.reduceEq, Int.reduceMul, Int.reduceToNat, reduceIte, hsr, okd5, List.any_cons, List.any_nil, D.eqv, fin ds (.inl rfl) _ _ rfl rfl]
      simp only [o_eq, okE, D.okd, List.all_nil, D.eqv, D.eqvs, ev_k, ev_v, ev_op, ev_bop, evB_one, evB_and, evB_or, ev_nt, ev_ite, ev_chain, ev_call, ev_fn, ev_as0, ev_asE, ev_asB, ev_cs0, ev_cs, ev_iE, ev_iB, ev_iR, ev_iN, ev_iZ, ev_iV, ev_comp, ex_for, ev_conv, convR_range, lendR_some, ex_asg, ex_par, ex_tup, ex_ex, ex_ret, ex_retN, ex_ite, ex_raise, ex_pass, ex_cont, ex_app, ex_sub, exs0, exs, condR_bl, condS_bl, notR_bl, andR_bl, orR_bl, condC_bl, chR_bl, bind_ok, bind_err, bind_bad, bind_if, toS_ok, toS_err, toS_if, sbind_nx, sbind_rt, sbind_ct, sbind_er, sbind_if, ofO_some, ofO_if, ofO_none, putR_some, getS_z, getS_s, vS_fz, vS_own, appR_own, appR_ino, parS, open_no, open_fz, open_own, mut_own, mut_ino, loose_no, loose_fz, val_fz, val_own, val_ino, val_lent, As.bs, As.mask, nodupB, endS_rt, endS_nx, endS_er, endS_if, outE_some, outS_nil, outS_f, outS_t, Tg.slots, Tg.slotss, Option.bind_some, It.lends, bodyP_some, body_eq, fbody_eq, fbodyP_some, D.isNon, o_add_i, o_add_l, o_add_t, o_add_s, o_sub_i, o_mul_i, o_fdiv, o_mod, o_pow, o_neg, o_inv, o_band, o_bor_i, o_shl, o_shr, o_eq_i, o_ne_i, o_eq_s, o_ne_s, o_lt_i, o_le_i, o_gt_i, o_ge_i, o_in_t, o_in_l, o_nin_t, o_nin_l, o_isn, o_isnn, o_isb, o_isnb, o_tup, o_lst, o_item_l, o_item_t, o_sl00, o_sl10, o_sl01, o_sl11, slX_l, slX_t, o_rev_l, o_rev_t, o_len_l, o_len_t, o_len_s, o_abs, o_int_i, o_int_b, o_sum, o_max1, o_min1, o_max2, o_min2, o_all_map, o_any_map, o_sorted_l, o_sorted_t, o_sorted_s, o_set_l, o_set_t, o_bor_s, o_tuple_l, o_tuple_t, o_list_l, o_list_t, o_list_scr, o_isint, o_isbool, o_isstr, o_istuple, o_islist, isO_non, isO_bl, isO_int, isO_str, isO_tup, isO_lst, o_isexc, o_tru_b, o_tru_i, o_tru_n, o_tru_l, o_tru_t, iterD_l, iterD_t, range1, range2, fin_ok, fin_err, fin_ok1, fin_err1, fin_if, withD_own, withD_ino, ml_own, ml_ino, unlend_nil, back_nil, store_eq, put_n, put_t, puts_nil, puts_cons, wipeR_eq, wipe_nil, wipe_cons, back_cons, cx_call, cx_lam, cx_noio, lim_lit, Int.toNat_natCast, cut_init, cut_from, cut_last, cut_but, at0, at1, at2, subR_ino0, subR_ino1, List.set_cons_zero, List.set_cons_succ, List.length_cons, List.length_nil, List.all_cons, List.all_nil, List.nil_append, List.cons_append, List.append_nil, List.map_cons, List.map_nil, List.elem_nil, not_true_eq_false, not_false_eq_true, Bool.and_true, Bool.true_and, Bool.and_self, Bool.not_true, Bool.not_false, Bool.and_false, Bool.false_and, Bool.or_true, Bool.true_or, Bool.or_false, Bool.false_or, Bool.or_self, decide_true, decide_false, decide_eq_true_eq, Bool.false_eq_true, if_true, if_false, ite_true, ite_false, Option.map_some, Option.map_none, Option.isSome_some, Nat.zero_add, Nat.reduceAdd, Nat.reduceLT, Nat.reduceLeDiff, Nat.reduceEqDiff, Nat.reduceBEq, Nat.reduceSub, Nat.reduceMul, Int.reduceLT, Int.reduceLE, Int.reduceAdd, Int.reduceSub, Int.reduceNeg, Int.reduceEq, Int.reduceMul, Int.reduceToNat, reduceIte]
    | lst ds =>
      simp only [kindN] at fin hsr
      simp -implicitDefEqProofs only [ev_k, ev_v, ev_op, ev_bop, evB_one, evB_and, evB_or, ev_nt, ev_ite, ev_chain, ev_call, ev_fn, ev_as0, ev_asE, ev_asB, ev_cs0, ev_cs, ev_iE, ev_iB, ev_iR, ev_iN, ev_iZ, ev_iV, ev_comp, ex_for, ev_conv, convR_range, lendR_some, ex_asg, ex_par, ex_tup, ex_ex, ex_ret, ex_retN, ex_ite, ex_raise, ex_pass, ex_cont, ex_app, ex_sub, exs0, exs, condR_bl, condS_bl, notR_bl, andR_bl, orR_bl, condC_bl, chR_bl, bind_ok, bind_err, bind_bad, bind_if, toS_ok, toS_err, toS_if, sbind_nx, sbind_rt, sbind_ct, sbind_er, sbind_if, ofO_some, ofO_if, ofO_none, putR_some, getS_z, getS_s, vS_fz, vS_own, appR_own, appR_ino, parS, open_no, open_fz, open_own, mut_own, mut_ino, loose_no, loose_fz, val_fz, val_own, val_ino, val_lent, As.bs, As.mask, nodupB, endS_rt, endS_nx, endS_er, endS_if, outE_some, outS_nil, outS_f, outS_t, Tg.slots, Tg.slotss, Option.bind_some, It.lends, bodyP_some, body_eq, fbody_eq, fbodyP_some, D.isNon, o_add_i, o_add_l, o_add_t, o_add_s, o_sub_i, o_mul_i, o_fdiv, o_mod, o_pow, o_neg, o_inv, o_band, o_bor_i, o_shl, o_shr, o_eq_i, o_ne_i, o_eq_s, o_ne_s, o_lt_i, o_le_i, o_gt_i, o_ge_i, o_in_t, o_in_l, o_nin_t, o_nin_l, o_isn, o_isnn, o_isb, o_isnb, o_tup, o_lst, o_item_l, o_item_t, o_sl00, o_sl10, o_sl01, o_sl11, slX_l, slX_t, o_rev_l, o_rev_t, o_len_l, o_len_t, o_len_s, o_abs, o_int_i, o_int_b, o_sum, o_max1, o_min1, o_max2, o_min2, o_all_map, o_any_map, o_sorted_l, o_sorted_t, o_sorted_s, o_set_l, o_set_t, o_bor_s, o_tuple_l, o_tuple_t, o_list_l, o_list_t, o_list_scr, o_isint, o_isbool, o_isstr, o_istuple, o_islist, isO_non, isO_bl, isO_int, isO_str, isO_tup, isO_lst, o_isexc, o_tru_b, o_tru_i, o_tru_n, o_tru_l, o_tru_t, iterD_l, iterD_t, range1, range2, fin_ok, fin_err, fin_ok1, fin_err1, fin_if, withD_own, withD_ino, ml_own, ml_ino, unlend_nil, back_nil, store_eq, put_n, put_t, puts_nil, puts_cons, wipeR_eq, wipe_nil, wipe_cons, back_cons, cx_call, cx_lam, cx_noio, lim_lit, Int.toNat_natCast, cut_init, cut_from, cut_last, cut_but, at0, at1, at2, subR_ino0, subR_ino1, List.set_cons_zero, List.set_cons_succ, List.length_cons, List.length_nil, List.all_cons, List.all_nil, List.nil_append, List.cons_append, List.append_nil, List.map_cons, List.map_nil, List.elem_nil, not_true_eq_false, not_false_eq_true, Bool.and_true, Bool.true_and, Bool.and_self, Bool.not_true, Bool.not_false, Bool.and_false, Bool.false_and, Bool.or_true, Bool.true_or, Bool.or_false, Bool.false_or, Bool.or_self, decide_true, decide_false, decide_eq_true_eq, Bool.false_eq_true, if_true, if_false, ite_true, ite_false, Option.map_some, Option.map_none, Option.isSome_some, Nat.zero_add, Nat.reduceAdd, Nat.reduceLT, Nat.reduceLeDiff, Nat.reduceEqDiff, Nat.reduceBEq, Nat.reduceSub, Nat.reduceMul, Int.reduceLT, Int.reduceLE, Int.reduceAdd, Int.reduceSub, Int.reduceNeg, Int.reduceEq, Int.reduceMul, Int.reduceToNat, reduceIte, hsr, okd5, List.any_cons, List.any_nil, D.eqv, fin ds (.inr rfl) _ _ rfl rfl]
      simp only [o_eq, okE, D.okd, List.all_nil, D.eqv, D.eqvs, ev_k, ev_v, ev_op, ev_bop, evB_one, evB_and, evB_or, ev_nt, ev_ite, ev_chain, ev_call, ev_fn, ev_as0, ev_asE, ev_asB, ev_cs0, ev_cs, ev_iE, ev_iB, ev_iR, ev_iN, ev_iZ, ev_iV, ev_comp, ex_for, ev_conv, convR_range, lendR_some, ex_asg, ex_par, ex_tup, ex_ex, ex_ret, ex_retN, ex_ite, ex_raise, ex_pass, ex_cont, ex_app, ex_sub, exs0, exs, condR_bl, condS_bl, notR_bl, andR_bl, orR_bl, condC_bl, chR_bl, bind_ok, bind_err, bind_bad, bind_if, toS_ok, toS_err, toS_if, sbind_nx, sbind_rt, sbind_ct, sbind_er, sbind_if, ofO_some, ofO_if, ofO_none, putR_some, getS_z, getS_s, vS_fz, vS_own, appR_own, appR_ino, parS, open_no, open_fz, open_own, mut_own, mut_ino, loose_no, loose_fz, val_fz, val_own, val_ino, val_lent, As.bs, As.mask, nodupB, endS_rt, endS_nx, endS_er, endS_if, outE_some, outS_nil, outS_f, outS_t, Tg.slots, Tg.slotss, Option.bind_some, It.lends, bodyP_some, body_eq, fbody_eq, fbodyP_some, D.isNon, o_add_i, o_add_l, o_add_t, o_add_s, o_sub_i, o_mul_i, o_fdiv, o_mod, o_pow, o_neg, o_inv, o_band, o_bor_i, o_shl, o_shr, o_eq_i, o_ne_i, o_eq_s, o_ne_s, o_lt_i, o_le_i, o_gt_i, o_ge_i, o_in_t, o_in_l, o_nin_t, o_nin_l, o_isn, o_isnn, o_isb, o_isnb, o_tup, o_lst, o_item_l, o_item_t, o_sl00, o_sl10, o_sl01, o_sl11, slX_l, slX_t, o_rev_l, o_rev_t, o_len_l, o_len_t, o_len_s, o_abs, o_int_i, o_int_b, o_sum, o_max1, o_min1, o_max2, o_min2, o_all_map, o_any_map, o_sorted_l, o_sorted_t, o_sorted_s, o_set_l, o_set_t, o_bor_s, o_tuple_l, o_tuple_t, o_list_l, o_list_t, o_list_scr, o_isint, o_isbool, o_isstr, o_istuple, o_islist, isO_non, isO_bl, isO_int, isO_str, isO_tup, isO_lst, o_isexc, o_tru_b, o_tru_i, o_tru_n, o_tru_l, o_tru_t, iterD_l, iterD_t, range1, range2, fin_ok, fin_err, fin_ok1, fin_err1, fin_if, withD_own, withD_ino, ml_own, ml_ino, unlend_nil, back_nil, store_eq, put_n, put_t, puts_nil, puts_cons, wipeR_eq, wipe_nil, wipe_cons, back_cons, cx_call, cx_lam, cx_noio, lim_lit, Int.toNat_natCast, cut_init, cut_from, cut_last, cut_but, at0, at1, at2, subR_ino0, subR_ino1, List.set_cons_zero, List.set_cons_succ, List.length_cons, List.length_nil, List.all_cons, List.all_nil, List.nil_append, List.cons_append, List.append_nil, List.map_cons, List.map_nil, List.elem_nil, not_true_eq_false, not_false_eq_true, Bool.and_true, Bool.true_and, Bool.and_self, Bool.not_true, Bool.not_false, Bool.and_false, Bool.false_and, Bool.or_true, Bool.true_or, Bool.or_false, Bool.false_or, Bool.or_self, decide_true, decide_false, decide_eq_true_eq, Bool.false_eq_true, if_true, if_false, ite_true, ite_false, Option.map_some, Option.map_none, Option.isSome_some, Nat.zero_add, Nat.reduceAdd, Nat.reduceLT, Nat.reduceLeDiff, Nat.reduceEqDiff, Nat.reduceBEq, Nat.reduceSub, Nat.reduceMul, Int.reduceLT, Int.reduceLE, Int.reduceAdd, Int.reduceSub, Int.reduceNeg, Int.reduceEq, Int.reduceMul, Int.reduceToNat, reduceIte]
    | non =>
      simp only [kindN] at hsr
      simp -implicitDefEqProofs only [ev_k, ev_v, ev_op, ev_bop, evB_one, evB_and, evB_or, ev_nt, ev_ite, ev_chain, ev_call, ev_fn, ev_as0, ev_asE, ev_asB, ev_cs0, ev_cs, ev_iE, ev_iB, ev_iR, ev_iN, ev_iZ, ev_iV, ev_comp, ex_for, ev_conv, convR_range, lendR_some, ex_asg, ex_par, ex_tup, ex_ex, ex_ret, ex_retN, ex_ite, ex_raise, ex_pass, ex_cont, ex_app, ex_sub, exs0, exs, condR_bl, condS_bl, notR_bl, andR_bl, orR_bl, condC_bl, chR_bl, bind_ok, bind_err, bind_bad, bind_if, toS_ok, toS_err, toS_if, sbind_nx, sbind_rt, sbind_ct, sbind_er, sbind_if, ofO_some, ofO_if, ofO_none, putR_some, getS_z, getS_s, vS_fz, vS_own, appR_own, appR_ino, parS, open_no, open_fz, open_own, mut_own, mut_ino, loose_no, loose_fz, val_fz, val_own, val_ino, val_lent, As.bs, As.mask, nodupB, endS_rt, endS_nx, endS_er, endS_if, outE_some, outS_nil, outS_f, outS_t, Tg.slots, Tg.slotss, Option.bind_some, It.lends, bodyP_some, body_eq, fbody_eq, fbodyP_some, D.isNon, o_add_i, o_add_l, o_add_t, o_add_s, o_sub_i, o_mul_i, o_fdiv, o_mod, o_pow, o_neg, o_inv, o_band, o_bor_i, o_shl, o_shr, o_eq_i, o_ne_i, o_eq_s, o_ne_s, o_lt_i, o_le_i, o_gt_i, o_ge_i, o_in_t, o_in_l, o_nin_t, o_nin_l, o_isn, o_isnn, o_isb, o_isnb, o_tup, o_lst, o_item_l, o_item_t, o_sl00, o_sl10, o_sl01, o_sl11, slX_l, slX_t, o_rev_l, o_rev_t, o_len_l, o_len_t, o_len_s, o_abs, o_int_i, o_int_b, o_sum, o_max1, o_min1, o_max2, o_min2, o_all_map, o_any_map, o_sorted_l, o_sorted_t, o_sorted_s, o_set_l, o_set_t, o_bor_s, o_tuple_l, o_tuple_t, o_list_l, o_list_t, o_list_scr, o_isint, o_isbool, o_isstr, o_istuple, o_islist, isO_non, isO_bl, isO_int, isO_str, isO_tup, isO_lst, o_isexc, o_tru_b, o_tru_i, o_tru_n, o_tru_l, o_tru_t, iterD_l, iterD_t, range1, range2, fin_ok, fin_err, fin_ok1, fin_err1, fin_if, withD_own, withD_ino, ml_own, ml_ino, unlend_nil, back_nil, store_eq, put_n, put_t, puts_nil, puts_cons, wipeR_eq, wipe_nil, wipe_cons, back_cons, cx_call, cx_lam, cx_noio, lim_lit, Int.toNat_natCast, cut_init, cut_from, cut_last, cut_but, at0, at1, at2, subR_ino0, subR_ino1, List.set_cons_zero, List.set_cons_succ, List.length_cons, List.length_nil, List.all_cons, List.all_nil, List.nil_append, List.cons_append, List.append_nil, List.map_cons, List.map_nil, List.elem_nil, not_true_eq_false, not_false_eq_true, Bool.and_true, Bool.true_and, Bool.and_self, Bool.not_true, Bool.not_false, Bool.and_false, Bool.false_and, Bool.or_true, Bool.true_or, Bool.or_false, Bool.false_or, Bool.or_self, decide_true, decide_false, decide_eq_true_eq, Bool.false_eq_true, if_true, if_false, ite_true, ite_false, Option.map_some, Option.map_none, Option.isSome_some, Nat.zero_add, Nat.reduceAdd, Nat.reduceLT, Nat.reduceLeDiff, Nat.reduceEqDiff, Nat.reduceBEq, Nat.reduceSub, Nat.reduceMul, Int.reduceLT, Int.reduceLE, Int.reduceAdd, Int.reduceSub, Int.reduceNeg, Int.reduceEq, Int.reduceMul, Int.reduceToNat, reduceIte, hsr, okd5, List.any_cons, List.any_nil, D.eqv, o_eq, okE, D.okd]
    | bl b =>
      simp only [kindN] at hsr
      simp -implicitDefEqProofs only [ev_k, ev_v, ev_op, ev_bop, evB_one, evB_and, evB_or, ev_nt, ev_ite, ev_chain, ev_call, ev_fn, ev_as0, ev_asE, ev_asB, ev_cs0, ev_cs, ev_iE, ev_iB, ev_iR, ev_iN, ev_iZ, ev_iV, ev_comp, ex_for, ev_conv, convR_range, lendR_some, ex_asg, ex_par, ex_tup, ex_ex, ex_ret, ex_retN, ex_ite, ex_raise, ex_pass, ex_cont, ex_app, ex_sub, exs0, exs, condR_bl, condS_bl, notR_bl, andR_bl, orR_bl, condC_bl, chR_bl, bind_ok, bind_err, bind_bad, bind_if, toS_ok, toS_err, toS_if, sbind_nx, sbind_rt, sbind_ct, sbind_er, sbind_if, ofO_some, ofO_if, ofO_none, putR_some, getS_z, getS_s, vS_fz, vS_own, appR_own, appR_ino, parS, open_no, open_fz, open_own, mut_own, mut_ino, loose_no, loose_fz, val_fz, val_own, val_ino, val_lent, As.bs, As.mask, nodupB, endS_rt, endS_nx, endS_er, endS_if, outE_some, outS_nil, outS_f, outS_t, Tg.slots, Tg.slotss, Option.bind_some, It.lends, bodyP_some, body_eq, fbody_eq, fbodyP_some, D.isNon, o_add_i, o_add_l, o_add_t, o_add_s, o_sub_i, o_mul_i, o_fdiv, o_mod, o_pow, o_neg, o_inv, o_band, o_bor_i, o_shl, o_shr, o_eq_i, o_ne_i, o_eq_s, o_ne_s, o_lt_i, o_le_i, o_gt_i, o_ge_i, o_in_t, o_in_l, o_nin_t, o_nin_l, o_isn, o_isnn, o_isb, o_isnb, o_tup, o_lst, o_item_l, o_item_t, o_sl00, o_sl10, o_sl01, o_sl11, slX_l, slX_t, o_rev_l, o_rev_t, o_len_l, o_len_t, o_len_s, o_abs, o_int_i, o_int_b, o_sum, o_max1, o_min1, o_max2, o_min2, o_all_map, o_any_map, o_sorted_l, o_sorted_t, o_sorted_s, o_set_l, o_set_t, o_bor_s, o_tuple_l, o_tuple_t, o_list_l, o_list_t, o_list_scr, o_isint, o_isbool, o_isstr, o_istuple, o_islist, isO_non, isO_bl, isO_int, isO_str, isO_tup, isO_lst, o_isexc, o_tru_b, o_tru_i, o_tru_n, o_tru_l, o_tru_t, iterD_l, iterD_t, range1, range2, fin_ok, fin_err, fin_ok1, fin_err1, fin_if, withD_own, withD_ino, ml_own, ml_ino, unlend_nil, back_nil, store_eq, put_n, put_t, puts_nil, puts_cons, wipeR_eq, wipe_nil, wipe_cons, back_cons, cx_call, cx_lam, cx_noio, lim_lit, Int.toNat_natCast, cut_init, cut_from, cut_last, cut_but, at0, at1, at2, subR_ino0, subR_ino1, List.set_cons_zero, List.set_cons_succ, List.length_cons, List.length_nil, List.all_cons, List.all_nil, List.nil_append, List.cons_append, List.append_nil, List.map_cons, List.map_nil, List.elem_nil, not_true_eq_false, not_false_eq_true, Bool.and_true, Bool.true_and, Bool.and_self, Bool.not_true, Bool.not_false, Bool.and_false, Bool.false_and, Bool.or_true, Bool.true_or, Bool.or_false, Bool.false_or, Bool.or_self, decide_true, decide_false, decide_eq_true_eq, Bool.false_eq_true, if_true, if_false, ite_true, ite_false, Option.map_some, Option.map_none, Option.isSome_some, Nat.zero_add, Nat.reduceAdd, Nat.reduceLT, Nat.reduceLeDiff, Nat.reduceEqDiff, Nat.reduceBEq, Nat.reduceSub, Nat.reduceMul, Int.reduceLT, Int.reduceLE, Int.reduceAdd, Int.reduceSub, Int.reduceNeg, Int.reduceEq, Int.reduceMul, Int.reduceToNat, reduceIte, hsr, okd5, List.any_cons, List.any_nil, D.eqv, o_eq, okE, D.okd, beq_self_eq_true]
    | int i =>
      simp only [kindN] at hsr
      simp -implicitDefEqProofs only [ev_k, ev_v, ev_op, ev_bop, evB_one, evB_and, evB_or, ev_nt, ev_ite, ev_chain, ev_call, ev_fn, ev_as0, ev_asE, ev_asB, ev_cs0, ev_cs, ev_iE, ev_iB, ev_iR, ev_iN, ev_iZ, ev_iV, ev_comp, ex_for, ev_conv, convR_range, lendR_some, ex_asg, ex_par, ex_tup, ex_ex, ex_ret, ex_retN, ex_ite, ex_raise, ex_pass, ex_cont, ex_app, ex_sub, exs0, exs, condR_bl, condS_bl, notR_bl, andR_bl, orR_bl, condC_bl, chR_bl, bind_ok, bind_err, bind_bad, bind_if, toS_ok, toS_err, toS_if, sbind_nx, sbind_rt, sbind_ct, sbind_er, sbind_if, ofO_some, ofO_if, ofO_none, putR_some, getS_z, getS_s, vS_fz, vS_own, appR_own, appR_ino, parS, open_no, open_fz, open_own, mut_own, mut_ino, loose_no, loose_fz, val_fz, val_own, val_ino, val_lent, As.bs, As.mask, nodupB, endS_rt, endS_nx, endS_er, endS_if, outE_some, outS_nil, outS_f, outS_t, Tg.slots, Tg.slotss, Option.bind_some, It.lends, bodyP_some, body_eq, fbody_eq, fbodyP_some, D.isNon, o_add_i, o_add_l, o_add_t, o_add_s, o_sub_i, o_mul_i, o_fdiv, o_mod, o_pow, o_neg, o_inv, o_band, o_bor_i, o_shl, o_shr, o_eq_i, o_ne_i, o_eq_s, o_ne_s, o_lt_i, o_le_i, o_gt_i, o_ge_i, o_in_t, o_in_l, o_nin_t, o_nin_l, o_isn, o_isnn, o_isb, o_isnb, o_tup, o_lst, o_item_l, o_item_t, o_sl00, o_sl10, o_sl01, o_sl11, slX_l, slX_t, o_rev_l, o_rev_t, o_len_l, o_len_t, o_len_s, o_abs, o_int_i, o_int_b, o_sum, o_max1, o_min1, o_max2, o_min2, o_all_map, o_any_map, o_sorted_l, o_sorted_t, o_sorted_s, o_set_l, o_set_t, o_bor_s, o_tuple_l, o_tuple_t, o_list_l, o_list_t, o_list_scr, o_isint, o_isbool, o_isstr, o_istuple, o_islist, isO_non, isO_bl, isO_int, isO_str, isO_tup, isO_lst, o_isexc, o_tru_b, o_tru_i, o_tru_n, o_tru_l, o_tru_t, iterD_l, iterD_t, range1, range2, fin_ok, fin_err, fin_ok1, fin_err1, fin_if, withD_own, withD_ino, ml_own, ml_ino, unlend_nil, back_nil, store_eq, put_n, put_t, puts_nil, puts_cons, wipeR_eq, wipe_nil, wipe_cons, back_cons, cx_call, cx_lam, cx_noio, lim_lit, Int.toNat_natCast, cut_init, cut_from, cut_last, cut_but, at0, at1, at2, subR_ino0, subR_ino1, List.set_cons_zero, List.set_cons_succ, List.length_cons, List.length_nil, List.all_cons, List.all_nil, List.nil_append, List.cons_append, List.append_nil, List.map_cons, List.map_nil, List.elem_nil, not_true_eq_false, not_false_eq_true, Bool.and_true, Bool.true_and, Bool.and_self, Bool.not_true, Bool.not_false, Bool.and_false, Bool.false_and, Bool.or_true, Bool.true_or, Bool.or_false, Bool.false_or, Bool.or_self, decide_true, decide_false, decide_eq_true_eq, Bool.false_eq_true, if_true, if_false, ite_true, ite_false, Option.map_some, Option.map_none, Option.isSome_some, Nat.zero_add, Nat.reduceAdd, Nat.reduceLT, Nat.reduceLeDiff, Nat.reduceEqDiff, Nat.reduceBEq, Nat.reduceSub, Nat.reduceMul, Int.reduceLT, Int.reduceLE, Int.reduceAdd, Int.reduceSub, Int.reduceNeg, Int.reduceEq, Int.reduceMul, Int.reduceToNat, reduceIte, hsr, okd5, List.any_cons, List.any_nil, D.eqv]
    | str t =>
      simp only [kindN] at hsr
      simp -implicitDefEqProofs only [ev_k, ev_v, ev_op, ev_bop, evB_one, evB_and, evB_or, ev_nt, ev_ite, ev_chain, ev_call, ev_fn, ev_as0, ev_asE, ev_asB, ev_cs0, ev_cs, ev_iE, ev_iB, ev_iR, ev_iN, ev_iZ, ev_iV, ev_comp, ex_for, ev_conv, convR_range, lendR_some, ex_asg, ex_par, ex_tup, ex_ex, ex_ret, ex_retN, ex_ite, ex_raise, ex_pass, ex_cont, ex_app, ex_sub, exs0, exs, condR_bl, condS_bl, notR_bl, andR_bl, orR_bl, condC_bl, chR_bl, bind_ok, bind_err, bind_bad, bind_if, toS_ok, toS_err, toS_if, sbind_nx, sbind_rt, sbind_ct, sbind_er, sbind_if, ofO_some, ofO_if, ofO_none, putR_some, getS_z, getS_s, vS_fz, vS_own, appR_own, appR_ino, parS, open_no, open_fz, open_own, mut_own, mut_ino, loose_no, loose_fz, val_fz, val_own, val_ino, val_lent, As.bs, As.mask, nodupB, endS_rt, endS_nx, endS_er, endS_if, outE_some, outS_nil, outS_f, outS_t, Tg.slots, Tg.slotss, Option.bind_some, It.lends, bodyP_some, body_eq, fbody_eq, fbodyP_some, D.isNon, o_add_i, o_add_l, o_add_t, o_add_s, o_sub_i, o_mul_i, o_fdiv, o_mod, o_pow, o_neg, o_inv, o_band, o_bor_i, o_shl, o_shr, o_eq_i, o_ne_i, o_eq_s, o_ne_s, o_lt_i, o_le_i, o_gt_i, o_ge_i, o_in_t, o_in_l, o_nin_t, o_nin_l, o_isn, o_isnn, o_isb, o_isnb, o_tup, o_lst, o_item_l, o_item_t, o_sl00, o_sl10, o_sl01, o_sl11, slX_l, slX_t, o_rev_l, o_rev_t, o_len_l, o_len_t, o_len_s, o_abs, o_int_i, o_int_b, o_sum, o_max1, o_min1, o_max2, o_min2, o_all_map, o_any_map, o_sorted_l, o_sorted_t, o_sorted_s, o_set_l, o_set_t, o_bor_s, o_tuple_l, o_tuple_t, o_list_l, o_list_t, o_list_scr, o_isint, o_isbool, o_isstr, o_istuple, o_islist, isO_non, isO_bl, isO_int, isO_str, isO_tup, isO_lst, o_isexc, o_tru_b, o_tru_i, o_tru_n, o_tru_l, o_tru_t, iterD_l, iterD_t, range1, range2, fin_ok, fin_err, fin_ok1, fin_err1, fin_if, withD_own, withD_ino, ml_own, ml_ino, unlend_nil, back_nil, store_eq, put_n, put_t, puts_nil, puts_cons, wipeR_eq, wipe_nil, wipe_cons, back_cons, cx_call, cx_lam, cx_noio, lim_lit, Int.toNat_natCast, cut_init, cut_from, cut_last, cut_but, at0, at1, at2, subR_ino0, subR_ino1, List.set_cons_zero, List.set_cons_succ, List.length_cons, List.length_nil, List.all_cons, List.all_nil, List.nil_append, List.cons_append, List.append_nil, List.map_cons, List.map_nil, List.elem_nil, not_true_eq_false, not_false_eq_true, Bool.and_true, Bool.true_and, Bool.and_self, Bool.not_true, Bool.not_false, Bool.and_false, Bool.false_and, Bool.or_true, Bool.true_or, Bool.or_false, Bool.false_or, Bool.or_self, decide_true, decide_false, decide_eq_true_eq, Bool.false_eq_true, if_true, if_false, ite_true, ite_false, Option.map_some, Option.map_none, Option.isSome_some, Nat.zero_add, Nat.reduceAdd, Nat.reduceLT, Nat.reduceLeDiff, Nat.reduceEqDiff, Nat.reduceBEq, Nat.reduceSub, Nat.reduceMul, Int.reduceLT, Int.reduceLE, Int.reduceAdd, Int.reduceSub, Int.reduceNeg, Int.reduceEq, Int.reduceMul, Int.reduceToNat, reduceIte, hsr, okd5, List.any_cons, List.any_nil, D.eqv]
    | _ => simp [sort?] at hs

/-! ### webs, lots: plain -/
def lotD (l : List Nat) : D := .tup (l.map nD)
def webD (w : List (List Nat)) : D := .tup (w.map lotD)
structure LotOk (m : Nat) (l : List Nat) : Prop where
  asc : l.Pairwise (· < ·)
  lt : ∀ x ∈ l, x < m
structure WebOk (w : List (List Nat)) : Prop where
  pos : 1 ≤ w.length
  le : w.length ≤ 12
  lot : ∀ l ∈ w, LotOk w.length l
  own : ∀ (i : Nat) (l : List Nat), w[i]? = some l → i ∈ l
theorem lot_len0 : ∀ (l : List Nat) (m k : Nat), l.Pairwise (· < ·) → (∀ x ∈ l, k ≤ x ∧ x < k + m) → l.length ≤ m
  | [], _, _, _, _ => Nat.zero_le _
  | a :: l, 0, k, _, h => by have := h a List.mem_cons_self; omega
  | a :: l, m + 1, k, hp, h => by
    rw [List.pairwise_cons] at hp
    have := lot_len0 l m (k + 1) hp.2 fun x hx => by
      have h1 := hp.1 x hx
      have h2 := h a List.mem_cons_self
      have h3 := h x (List.mem_cons_of_mem _ hx)
      omega
    rw [List.length_cons]; omega
theorem lot_len {m : Nat} {l : List Nat} (h : LotOk m l) : l.length ≤ m := lot_len0 l m 0 h.asc fun x hx => ⟨Nat.zero_le _, by have := h.lt x hx; omega⟩
/-- the walk through drawn members -/
structure Drawn (own : Nat) (i : Nat) (l : List Nat) : Prop where
  asc : l.Pairwise (· < ·)
  lt : ∀ x ∈ l, x < i
  own : own < i → own ∈ l
theorem Drawn.nil {own : Nat} : Drawn own 0 [] := ⟨.nil, fun _ h => (by cases h), fun h => (by omega)⟩
theorem Drawn.snoc {own i : Nat} {l : List Nat} (h : Drawn own i l) : Drawn own (i + 1) (l ++ [i]) :=
  ⟨by
    rw [List.pairwise_append]
    exact ⟨h.asc, List.pairwise_singleton _ _, fun a ha b hb => by
      have : b = i := by simpa using hb
      have := h.lt a ha
      omega⟩, fun x hx => by
    rcases List.mem_append.mp hx with hx | hx
    · have := h.lt x hx; omega
    · have : x = i := by simpa using hx
      omega, fun hlt => by
    by_cases e : own = i
    · subst e; simp
    · exact List.mem_append_left _ (h.own (by omega))⟩
theorem Drawn.skip {own i : Nat} {l : List Nat} (h : Drawn own i l) (hne : own ≠ i) : Drawn own (i + 1) l :=
  ⟨h.asc, fun x hx => by have := h.lt x hx; omega, fun hlt => h.own (by omega)⟩
theorem law_web_ok {n : Nat} {c : D} {m : Nat} (h : CupOk c) (h1 : 1 ≤ m) (h2 : m ≤ 12) : ∃ w c', Φ prog (n + 2) 20 [c, nD m] = .ok (webD w) [c'] ∧ WebOk w ∧ w.length = m ∧ CupOk c' := by
  obtain ⟨r, c1, e1, r0, r1, hc1⟩ := law_roll_ok (n := n) h (show (1 : Int) ≤ 4 by decide) (by decide)
  rw [u20, k20]
  simp -implicitDefEqProofs only [ev_k, ev_v, ev_op, ev_bop, evB_one, evB_and, evB_or, ev_nt, ev_ite, ev_chain, ev_call, ev_fn, ev_as0, ev_asE, ev_asB, ev_cs0, ev_cs, ev_iE, ev_iB, ev_iR, ev_iN, ev_iZ, ev_iV, ev_comp, ex_for, ev_conv, convR_range, lendR_some, ex_asg, ex_par, ex_tup, ex_ex, ex_ret, ex_retN, ex_ite, ex_raise, ex_pass, ex_cont, ex_app, ex_sub, exs0, exs, condR_bl, condS_bl, notR_bl, andR_bl, orR_bl, condC_bl, chR_bl, bind_ok, bind_err, bind_bad, bind_if, toS_ok, toS_err, toS_if, sbind_nx, sbind_rt, sbind_ct, sbind_er, sbind_if, ofO_some, ofO_if, ofO_none, putR_some, getS_z, getS_s, vS_fz, vS_own, appR_own, appR_ino, parS, open_no, open_fz, open_own, mut_own, mut_ino, loose_no, loose_fz, val_fz, val_own, val_ino, val_lent, As.bs, As.mask, nodupB, endS_rt, endS_nx, endS_er, endS_if, outE_some, outS_nil, outS_f, outS_t, Tg.slots, Tg.slotss, Option.bind_some, It.lends, bodyP_some, body_eq, fbody_eq, fbodyP_some, D.isNon, o_add_i, o_add_l, o_add_t, o_add_s, o_sub_i, o_mul_i, o_fdiv, o_mod, o_pow, o_neg, o_inv, o_band, o_bor_i, o_shl, o_shr, o_eq_i, o_ne_i, o_eq_s, o_ne_s, o_lt_i, o_le_i, o_gt_i, o_ge_i, o_in_t, o_in_l, o_nin_t, o_nin_l, o_isn, o_isnn, o_isb, o_isnb, o_tup, o_lst, o_item_l, o_item_t, o_sl00, o_sl10, o_sl01, o_sl11, slX_l, slX_t, o_rev_l, o_rev_t, o_len_l, o_len_t, o_len_s, o_abs, o_int_i, o_int_b, o_sum, o_max1, o_min1, o_max2, o_min2, o_all_map, o_any_map, o_sorted_l, o_sorted_t, o_sorted_s, o_set_l, o_set_t, o_bor_s, o_tuple_l, o_tuple_t, o_list_l, o_list_t, o_list_scr, o_isint, o_isbool, o_isstr, o_istuple, o_islist, isO_non, isO_bl, isO_int, isO_str, isO_tup, isO_lst, o_isexc, o_tru_b, o_tru_i, o_tru_n, o_tru_l, o_tru_t, iterD_l, iterD_t, range1, range2, fin_ok, fin_err, fin_ok1, fin_err1, fin_if, withD_own, withD_ino, ml_own, ml_ino, unlend_nil, back_nil, store_eq, put_n, put_t, puts_nil, puts_cons, wipeR_eq, wipe_nil, wipe_cons, back_cons, cx_call, cx_lam, cx_noio, lim_lit, Int.toNat_natCast, cut_init, cut_from, cut_last, cut_but, at0, at1, at2, subR_ino0, subR_ino1, List.set_cons_zero, List.set_cons_succ, List.length_cons, List.length_nil, List.all_cons, List.all_nil, List.nil_append, List.cons_append, List.append_nil, List.map_cons, List.map_nil, List.elem_nil, not_true_eq_false, not_false_eq_true, Bool.and_true, Bool.true_and, Bool.and_self, Bool.not_true, Bool.not_false, Bool.and_false, Bool.false_and, Bool.or_true, Bool.true_or, Bool.or_false, Bool.false_or, Bool.or_self, decide_true, decide_false, decide_eq_true_eq, Bool.false_eq_true, if_true, if_false, ite_true, ite_false, Option.map_some, Option.map_none, Option.isSome_some, Nat.zero_add, Nat.reduceAdd, Nat.reduceLT, Nat.reduceLeDiff, Nat.reduceEqDiff, Nat.reduceBEq, Nat.reduceSub, Nat.reduceMul, Int.reduceLT, Int.reduceLE, Int.reduceAdd, Int.reduceSub, Int.reduceNeg, Int.reduceEq, Int.reduceMul, Int.reduceToNat, reduceIte, e1, inR_nat (n := m) (by omega)]
  generalize hz : loopC _ _ _ _ = z
  obtain ⟨ws, s', rfl, ⟨c2, w, rfl, rfl, hc2, hw1, hw2⟩⟩ := loopC_key hz m
    (fun i acc s => ∃ c2 w, acc = w.map lotD ∧ s = [Slot.ino c2, .fz (nD m), .fz (.int (1 + r)), .no, .no] ∧ CupOk c2 ∧ w.length = i ∧ ∀ (j : Nat) (l : List Nat), w[j]? = some l → Drawn j m l)
    (by rw [rangeL_len]) (by omega) ⟨c1, [], rfl, rfl, hc1, rfl, fun j l h => by simp at h⟩ (fun i d acc s hd hJ => by
      obtain ⟨c2, w, rfl, rfl, hc2, hw1, hw2⟩ := hJ
      obtain ⟨hi, rfl⟩ := rangeL_get hd
      have hi : i < m := by simpa using hi
      simp -implicitDefEqProofs only [ev_k, ev_v, ev_op, ev_bop, evB_one, evB_and, evB_or, ev_nt, ev_ite, ev_chain, ev_call, ev_fn, ev_as0, ev_asE, ev_asB, ev_cs0, ev_cs, ev_iE, ev_iB, ev_iR, ev_iN, ev_iZ, ev_iV, ev_comp, ex_for, ev_conv, convR_range, lendR_some, ex_asg, ex_par, ex_tup, ex_ex, ex_ret, ex_retN, ex_ite, ex_raise, ex_pass, ex_cont, ex_app, ex_sub, exs0, exs, condR_bl, condS_bl, notR_bl, andR_bl, orR_bl, condC_bl, chR_bl, bind_ok, bind_err, bind_bad, bind_if, toS_ok, toS_err, toS_if, sbind_nx, sbind_rt, sbind_ct, sbind_er, sbind_if, ofO_some, ofO_if, ofO_none, putR_some, getS_z, getS_s, vS_fz, vS_own, appR_own, appR_ino, parS, open_no, open_fz, open_own, mut_own, mut_ino, loose_no, loose_fz, val_fz, val_own, val_ino, val_lent, As.bs, As.mask, nodupB, endS_rt, endS_nx, endS_er, endS_if, outE_some, outS_nil, outS_f, outS_t, Tg.slots, Tg.slotss, Option.bind_some, It.lends, bodyP_some, body_eq, fbody_eq, fbodyP_some, D.isNon, o_add_i, o_add_l, o_add_t, o_add_s, o_sub_i, o_mul_i, o_fdiv, o_mod, o_pow, o_neg, o_inv, o_band, o_bor_i, o_shl, o_shr, o_eq_i, o_ne_i, o_eq_s, o_ne_s, o_lt_i, o_le_i, o_gt_i, o_ge_i, o_in_t, o_in_l, o_nin_t, o_nin_l, o_isn, o_isnn, o_isb, o_isnb, o_tup, o_lst, o_item_l, o_item_t, o_sl00, o_sl10, o_sl01, o_sl11, slX_l, slX_t, o_rev_l, o_rev_t, o_len_l, o_len_t, o_len_s, o_abs, o_int_i, o_int_b, o_sum, o_max1, o_min1, o_max2, o_min2, o_all_map, o_any_map, o_sorted_l, o_sorted_t, o_sorted_s, o_set_l, o_set_t, o_bor_s, o_tuple_l, o_tuple_t, o_list_l, o_list_t, o_list_scr, o_isint, o_isbool, o_isstr, o_istuple, o_islist, isO_non, isO_bl, isO_int, isO_str, isO_tup, isO_lst, o_isexc, o_tru_b, o_tru_i, o_tru_n, o_tru_l, o_tru_t, iterD_l, iterD_t, range1, range2, fin_ok, fin_err, fin_ok1, fin_err1, fin_if, withD_own, withD_ino, ml_own, ml_ino, unlend_nil, back_nil, store_eq, put_n, put_t, puts_nil, puts_cons, wipeR_eq, wipe_nil, wipe_cons, back_cons, cx_call, cx_lam, cx_noio, lim_lit, Int.toNat_natCast, cut_init, cut_from, cut_last, cut_but, at0, at1, at2, subR_ino0, subR_ino1, List.set_cons_zero, List.set_cons_succ, List.length_cons, List.length_nil, List.all_cons, List.all_nil, List.nil_append, List.cons_append, List.append_nil, List.map_cons, List.map_nil, List.elem_nil, not_true_eq_false, not_false_eq_true, Bool.and_true, Bool.true_and, Bool.and_self, Bool.not_true, Bool.not_false, Bool.and_false, Bool.false_and, Bool.or_true, Bool.true_or, Bool.or_false, Bool.false_or, Bool.or_self, decide_true, decide_false, decide_eq_true_eq, Bool.false_eq_true, if_true, if_false, ite_true, ite_false, Option.map_some, Option.map_none, Option.isSome_some, Nat.zero_add, Nat.reduceAdd, Nat.reduceLT, Nat.reduceLeDiff, Nat.reduceEqDiff, Nat.reduceBEq, Nat.reduceSub, Nat.reduceMul, Int.reduceLT, Int.reduceLE, Int.reduceAdd, Int.reduceSub, Int.reduceNeg, Int.reduceEq, Int.reduceMul, Int.reduceToNat, reduceIte, inR_nat (n := m) (by omega)]
      generalize hz : loopC _ _ _ _ = z
      obtain ⟨ws, s', rfl, ⟨c3, l, rfl, rfl, hc3, hl⟩⟩ := loopC_key hz m
        (fun j acc s => ∃ c3 l, acc = l.map nD ∧ s = [Slot.ino c3, .fz (nD m), .fz (.int (1 + r)), .fz (.int (0 + i)), .no] ∧ CupOk c3 ∧ Drawn i j l)
        (by rw [rangeL_len]) (by omega) ⟨c2, [], rfl, rfl, hc2, .nil⟩ (fun j d acc s hd hJ => by
          obtain ⟨c3, l, rfl, rfl, hc3, hl⟩ := hJ
          obtain ⟨hj, rfl⟩ := rangeL_get hd
          obtain ⟨r2, c4, e4, q0, q1, hc4⟩ := law_roll_ok (n := n) hc3 (show (1 : Int) ≤ 5 by decide) (by decide)
          simp -implicitDefEqProofs only [ev_k, ev_v, ev_op, ev_bop, evB_one, evB_and, evB_or, ev_nt, ev_ite, ev_chain, ev_call, ev_fn, ev_as0, ev_asE, ev_asB, ev_cs0, ev_cs, ev_iE, ev_iB, ev_iR, ev_iN, ev_iZ, ev_iV, ev_comp, ex_for, ev_conv, convR_range, lendR_some, ex_asg, ex_par, ex_tup, ex_ex, ex_ret, ex_retN, ex_ite, ex_raise, ex_pass, ex_cont, ex_app, ex_sub, exs0, exs, condR_bl, condS_bl, notR_bl, andR_bl, orR_bl, condC_bl, chR_bl, bind_ok, bind_err, bind_bad, bind_if, toS_ok, toS_err, toS_if, sbind_nx, sbind_rt, sbind_ct, sbind_er, sbind_if, ofO_some, ofO_if, ofO_none, putR_some, getS_z, getS_s, vS_fz, vS_own, appR_own, appR_ino, parS, open_no, open_fz, open_own, mut_own, mut_ino, loose_no, loose_fz, val_fz, val_own, val_ino, val_lent, As.bs, As.mask, nodupB, endS_rt, endS_nx, endS_er, endS_if, outE_some, outS_nil, outS_f, outS_t, Tg.slots, Tg.slotss, Option.bind_some, It.lends, bodyP_some, body_eq, fbody_eq, fbodyP_some, D.isNon, o_add_i, o_add_l, o_add_t, o_add_s, o_sub_i, o_mul_i, o_fdiv, o_mod, o_pow, o_neg, o_inv, o_band, o_bor_i, o_shl, o_shr, o_eq_i, o_ne_i, o_eq_s, o_ne_s, o_lt_i, o_le_i, o_gt_i, o_ge_i, o_in_t, o_in_l, o_nin_t, o_nin_l, o_isn, o_isnn, o_isb, o_isnb, o_tup, o_lst, o_item_l, o_item_t, o_sl00, o_sl10, o_sl01, o_sl11, slX_l, slX_t, o_rev_l, o_rev_t, o_len_l, o_len_t, o_len_s, o_abs, o_int_i, o_int_b, o_sum, o_max1, o_min1, o_max2, o_min2, o_all_map, o_any_map, o_sorted_l, o_sorted_t, o_sorted_s, o_set_l, o_set_t, o_bor_s, o_tuple_l, o_tuple_t, o_list_l, o_list_t, o_list_scr, o_isint, o_isbool, o_isstr, o_istuple, o_islist, isO_non, isO_bl, isO_int, isO_str, isO_tup, isO_lst, o_isexc, o_tru_b, o_tru_i, o_tru_n, o_tru_l, o_tru_t, iterD_l, iterD_t, range1, range2, fin_ok, fin_err, fin_ok1, fin_err1, fin_if, withD_own, withD_ino, ml_own, ml_ino, unlend_nil, back_nil, store_eq, put_n, put_t, puts_nil, puts_cons, wipeR_eq, wipe_nil, wipe_cons, back_cons, cx_call, cx_lam, cx_noio, lim_lit, Int.toNat_natCast, cut_init, cut_from, cut_last, cut_but, at0, at1, at2, subR_ino0, subR_ino1, List.set_cons_zero, List.set_cons_succ, List.length_cons, List.length_nil, List.all_cons, List.all_nil, List.nil_append, List.cons_append, List.append_nil, List.map_cons, List.map_nil, List.elem_nil, not_true_eq_false, not_false_eq_true, Bool.and_true, Bool.true_and, Bool.and_self, Bool.not_true, Bool.not_false, Bool.and_false, Bool.false_and, Bool.or_true, Bool.true_or, Bool.or_false, Bool.false_or, Bool.or_self, decide_true, decide_false, decide_eq_true_eq, Bool.false_eq_true, if_true, if_false, ite_true, ite_false, Option.map_some, Option.map_none, Option.isSome_some, Nat.zero_add, Nat.reduceAdd, Nat.reduceLT, Nat.reduceLeDiff, Nat.reduceEqDiff, Nat.reduceBEq, Nat.reduceSub, Nat.reduceMul, Int.reduceLT, Int.reduceLE, Int.reduceAdd, Int.reduceSub, Int.reduceNeg, Int.reduceEq, Int.reduceMul, Int.reduceToNat, reduceIte, e4, Int.zero_add]
          by_cases hji : (j : Int) = (i : Int)
          · have e : j = i := by omega
            subst e
            simp -implicitDefEqProofs only [ev_k, ev_v, ev_op, ev_bop, evB_one, evB_and, evB_or, ev_nt, ev_ite, ev_chain, ev_call, ev_fn, ev_as0, ev_asE, ev_asB, ev_cs0, ev_cs, ev_iE, ev_iB, ev_iR, ev_iN, ev_iZ, ev_iV, ev_comp, ex_for, ev_conv, convR_range, lendR_some, ex_asg, ex_par, ex_tup, ex_ex, ex_ret, ex_retN, ex_ite, ex_raise, ex_pass, ex_cont, ex_app, ex_sub, exs0, exs, condR_bl, condS_bl, notR_bl, andR_bl, orR_bl, condC_bl, chR_bl, bind_ok, bind_err, bind_bad, bind_if, toS_ok, toS_err, toS_if, sbind_nx, sbind_rt, sbind_ct, sbind_er, sbind_if, ofO_some, ofO_if, ofO_none, putR_some, getS_z, getS_s, vS_fz, vS_own, appR_own, appR_ino, parS, open_no, open_fz, open_own, mut_own, mut_ino, loose_no, loose_fz, val_fz, val_own, val_ino, val_lent, As.bs, As.mask, nodupB, endS_rt, endS_nx, endS_er, endS_if, outE_some, outS_nil, outS_f, outS_t, Tg.slots, Tg.slotss, Option.bind_some, It.lends, bodyP_some, body_eq, fbody_eq, fbodyP_some, D.isNon, o_add_i, o_add_l, o_add_t, o_add_s, o_sub_i, o_mul_i, o_fdiv, o_mod, o_pow, o_neg, o_inv, o_band, o_bor_i, o_shl, o_shr, o_eq_i, o_ne_i, o_eq_s, o_ne_s, o_lt_i, o_le_i, o_gt_i, o_ge_i, o_in_t, o_in_l, o_nin_t, o_nin_l, o_isn, o_isnn, o_isb, o_isnb, o_tup, o_lst, o_item_l, o_item_t, o_sl00, o_sl10, o_sl01, o_sl11, slX_l, slX_t, o_rev_l, o_rev_t, o_len_l, o_len_t, o_len_s, o_abs, o_int_i, o_int_b, o_sum, o_max1, o_min1, o_max2, o_min2, o_all_map, o_any_map, o_sorted_l, o_sorted_t, o_sorted_s, o_set_l, o_set_t, o_bor_s, o_tuple_l, o_tuple_t, o_list_l, o_list_t, o_list_scr, o_isint, o_isbool, o_isstr, o_istuple, o_islist, isO_non, isO_bl, isO_int, isO_str, isO_tup, isO_lst, o_isexc, o_tru_b, o_tru_i, o_tru_n, o_tru_l, o_tru_t, iterD_l, iterD_t, range1, range2, fin_ok, fin_err, fin_ok1, fin_err1, fin_if, withD_own, withD_ino, ml_own, ml_ino, unlend_nil, back_nil, store_eq, put_n, put_t, puts_nil, puts_cons, wipeR_eq, wipe_nil, wipe_cons, back_cons, cx_call, cx_lam, cx_noio, lim_lit, Int.toNat_natCast, cut_init, cut_from, cut_last, cut_but, at0, at1, at2, subR_ino0, subR_ino1, List.set_cons_zero, List.set_cons_succ, List.length_cons, List.length_nil, List.all_cons, List.all_nil, List.nil_append, List.cons_append, List.append_nil, List.map_cons, List.map_nil, List.elem_nil, not_true_eq_false, not_false_eq_true, Bool.and_true, Bool.true_and, Bool.and_self, Bool.not_true, Bool.not_false, Bool.and_false, Bool.false_and, Bool.or_true, Bool.true_or, Bool.or_false, Bool.false_or, Bool.or_self, decide_true, decide_false, decide_eq_true_eq, Bool.false_eq_true, if_true, if_false, ite_true, ite_false, Option.map_some, Option.map_none, Option.isSome_some, Nat.zero_add, Nat.reduceAdd, Nat.reduceLT, Nat.reduceLeDiff, Nat.reduceEqDiff, Nat.reduceBEq, Nat.reduceSub, Nat.reduceMul, Int.reduceLT, Int.reduceLE, Int.reduceAdd, Int.reduceSub, Int.reduceNeg, Int.reduceEq, Int.reduceMul, Int.reduceToNat, reduceIte]
            exact ⟨_, _, rfl, c3, l ++ [j], by simp, rfl, hc3, hl.snoc⟩
          · simp -implicitDefEqProofs only [ev_k, ev_v, ev_op, ev_bop, evB_one, evB_and, evB_or, ev_nt, ev_ite, ev_chain, ev_call, ev_fn, ev_as0, ev_asE, ev_asB, ev_cs0, ev_cs, ev_iE, ev_iB, ev_iR, ev_iN, ev_iZ, ev_iV, ev_comp, ex_for, ev_conv, convR_range, lendR_some, ex_asg, ex_par, ex_tup, ex_ex, ex_ret, ex_retN, ex_ite, ex_raise, ex_pass, ex_cont, ex_app, ex_sub, exs0, exs, condR_bl, condS_bl, notR_bl, andR_bl, orR_bl, condC_bl, chR_bl, bind_ok, bind_err, bind_bad, bind_if, toS_ok, toS_err, toS_if, sbind_nx, sbind_rt, sbind_ct, sbind_er, sbind_if, ofO_some, ofO_if, ofO_none, putR_some, getS_z, getS_s, vS_fz, vS_own, appR_own, appR_ino, parS, open_no, open_fz, open_own, mut_own, mut_ino, loose_no, loose_fz, val_fz, val_own, val_ino, val_lent, As.bs, As.mask, nodupB, endS_rt, endS_nx, endS_er, endS_if, outE_some, outS_nil, outS_f, outS_t, Tg.slots, Tg.slotss, Option.bind_some, It.lends, bodyP_some, body_eq, fbody_eq, fbodyP_some, D.isNon, o_add_i, o_add_l, o_add_t, o_add_s, o_sub_i, o_mul_i, o_fdiv, o_mod, o_pow, o_neg, o_inv, o_band, o_bor_i, o_shl, o_shr, o_eq_i, o_ne_i, o_eq_s, o_ne_s, o_lt_i, o_le_i, o_gt_i, o_ge_i, o_in_t, o_in_l, o_nin_t, o_nin_l, o_isn, o_isnn, o_isb, o_isnb, o_tup, o_lst, o_item_l, o_item_t, o_sl00, o_sl10, o_sl01, o_sl11, slX_l, slX_t, o_rev_l, o_rev_t, o_len_l, o_len_t, o_len_s, o_abs, o_int_i, o_int_b, o_sum, o_max1, o_min1, o_max2, o_min2, o_all_map, o_any_map, o_sorted_l, o_sorted_t, o_sorted_s, o_set_l, o_set_t, o_bor_s, o_tuple_l, o_tuple_t, o_list_l, o_list_t, o_list_scr, o_isint, o_isbool, o_isstr, o_istuple, o_islist, isO_non, isO_bl, isO_int, isO_str, isO_tup, isO_lst, o_isexc, o_tru_b, o_tru_i, o_tru_n, o_tru_l, o_tru_t, iterD_l, iterD_t, range1, range2, fin_ok, fin_err, fin_ok1, fin_err1, fin_if, withD_own, withD_ino, ml_own, ml_ino, unlend_nil, back_nil, store_eq, put_n, put_t, puts_nil, puts_cons, wipeR_eq, wipe_nil, wipe_cons, back_cons, cx_call, cx_lam, cx_noio, lim_lit, Int.toNat_natCast, cut_init, cut_from, cut_last, cut_but, at0, at1, at2, subR_ino0, subR_ino1, List.set_cons_zero, List.set_cons_succ, List.length_cons, List.length_nil, List.all_cons, List.all_nil, List.nil_append, List.cons_append, List.append_nil, List.map_cons, List.map_nil, List.elem_nil, not_true_eq_false, not_false_eq_true, Bool.and_true, Bool.true_and, Bool.and_self, Bool.not_true, Bool.not_false, Bool.and_false, Bool.false_and, Bool.or_true, Bool.true_or, Bool.or_false, Bool.false_or, Bool.or_self, decide_true, decide_false, decide_eq_true_eq, Bool.false_eq_true, if_true, if_false, ite_true, ite_false, Option.map_some, Option.map_none, Option.isSome_some, Nat.zero_add, Nat.reduceAdd, Nat.reduceLT, Nat.reduceLeDiff, Nat.reduceEqDiff, Nat.reduceBEq, Nat.reduceSub, Nat.reduceMul, Int.reduceLT, Int.reduceLE, Int.reduceAdd, Int.reduceSub, Int.reduceNeg, Int.reduceEq, Int.reduceMul, Int.reduceToNat, reduceIte, hji]
            split
            · exact ⟨_, _, rfl, c4, l ++ [j], by simp, rfl, hc4, hl.snoc⟩
            · exact ⟨_, _, rfl, c4, l, by simp, rfl, hc4, hl.skip (by omega)⟩)
      simp -implicitDefEqProofs only [ev_k, ev_v, ev_op, ev_bop, evB_one, evB_and, evB_or, ev_nt, ev_ite, ev_chain, ev_call, ev_fn, ev_as0, ev_asE, ev_asB, ev_cs0, ev_cs, ev_iE, ev_iB, ev_iR, ev_iN, ev_iZ, ev_iV, ev_comp, ex_for, ev_conv, convR_range, lendR_some, ex_asg, ex_par, ex_tup, ex_ex, ex_ret, ex_retN, ex_ite, ex_raise, ex_pass, ex_cont, ex_app, ex_sub, exs0, exs, condR_bl, condS_bl, notR_bl, andR_bl, orR_bl, condC_bl, chR_bl, bind_ok, bind_err, bind_bad, bind_if, toS_ok, toS_err, toS_if, sbind_nx, sbind_rt, sbind_ct, sbind_er, sbind_if, ofO_some, ofO_if, ofO_none, putR_some, getS_z, getS_s, vS_fz, vS_own, appR_own, appR_ino, parS, open_no, open_fz, open_own, mut_own, mut_ino, loose_no, loose_fz, val_fz, val_own, val_ino, val_lent, As.bs, As.mask, nodupB, endS_rt, endS_nx, endS_er, endS_if, outE_some, outS_nil, outS_f, outS_t, Tg.slots, Tg.slotss, Option.bind_some, It.lends, bodyP_some, body_eq, fbody_eq, fbodyP_some, D.isNon, o_add_i, o_add_l, o_add_t, o_add_s, o_sub_i, o_mul_i, o_fdiv, o_mod, o_pow, o_neg, o_inv, o_band, o_bor_i, o_shl, o_shr, o_eq_i, o_ne_i, o_eq_s, o_ne_s, o_lt_i, o_le_i, o_gt_i, o_ge_i, o_in_t, o_in_l, o_nin_t, o_nin_l, o_isn, o_isnn, o_isb, o_isnb, o_tup, o_lst, o_item_l, o_item_t, o_sl00, o_sl10, o_sl01, o_sl11, slX_l, slX_t, o_rev_l, o_rev_t, o_len_l, o_len_t, o_len_s, o_abs, o_int_i, o_int_b, o_sum, o_max1, o_min1, o_max2, o_min2, o_all_map, o_any_map, o_sorted_l, o_sorted_t, o_sorted_s, o_set_l, o_set_t, o_bor_s, o_tuple_l, o_tuple_t, o_list_l, o_list_t, o_list_scr, o_isint, o_isbool, o_isstr, o_istuple, o_islist, isO_non, isO_bl, isO_int, isO_str, isO_tup, isO_lst, o_isexc, o_tru_b, o_tru_i, o_tru_n, o_tru_l, o_tru_t, iterD_l, iterD_t, range1, range2, fin_ok, fin_err, fin_ok1, fin_err1, fin_if, withD_own, withD_ino, ml_own, ml_ino, unlend_nil, back_nil, store_eq, put_n, put_t, puts_nil, puts_cons, wipeR_eq, wipe_nil, wipe_cons, back_cons, cx_call, cx_lam, cx_noio, lim_lit, Int.toNat_natCast, cut_init, cut_from, cut_last, cut_but, at0, at1, at2, subR_ino0, subR_ino1, List.set_cons_zero, List.set_cons_succ, List.length_cons, List.length_nil, List.all_cons, List.all_nil, List.nil_append, List.cons_append, List.append_nil, List.map_cons, List.map_nil, List.elem_nil, not_true_eq_false, not_false_eq_true, Bool.and_true, Bool.true_and, Bool.and_self, Bool.not_true, Bool.not_false, Bool.and_false, Bool.false_and, Bool.or_true, Bool.true_or, Bool.or_false, Bool.false_or, Bool.or_self, decide_true, decide_false, decide_eq_true_eq, Bool.false_eq_true, if_true, if_false, ite_true, ite_false, Option.map_some, Option.map_none, Option.isSome_some, Nat.zero_add, Nat.reduceAdd, Nat.reduceLT, Nat.reduceLeDiff, Nat.reduceEqDiff, Nat.reduceBEq, Nat.reduceSub, Nat.reduceMul, Int.reduceLT, Int.reduceLE, Int.reduceAdd, Int.reduceSub, Int.reduceNeg, Int.reduceEq, Int.reduceMul, Int.reduceToNat, reduceIte]
      refine ⟨some (lotD l), _, rfl, c3, w ++ [l], by simp, rfl, hc3, by simp [hw1], fun j l' hj => ?_⟩
      by_cases hjl : j < w.length
      · rw [List.getElem?_append_left hjl] at hj
        exact hw2 j l' hj
      · rw [List.getElem?_append_right (by omega)] at hj
        have : j - w.length = 0 := by
          have := (List.getElem?_eq_some_iff.mp hj).1
          simp at this; omega
        rw [this] at hj
        have e : l = l' := by simpa using hj
        subst e
        have : j = i := by omega
        subst this
        exact hl)
  simp -implicitDefEqProofs only [ev_k, ev_v, ev_op, ev_bop, evB_one, evB_and, evB_or, ev_nt, ev_ite, ev_chain, ev_call, ev_fn, ev_as0, ev_asE, ev_asB, ev_cs0, ev_cs, ev_iE, ev_iB, ev_iR, ev_iN, ev_iZ, ev_iV, ev_comp, ex_for, ev_conv, convR_range, lendR_some, ex_asg, ex_par, ex_tup, ex_ex, ex_ret, ex_retN, ex_ite, ex_raise, ex_pass, ex_cont, ex_app, ex_sub, exs0, exs, condR_bl, condS_bl, notR_bl, andR_bl, orR_bl, condC_bl, chR_bl, bind_ok, bind_err, bind_bad, bind_if, toS_ok, toS_err, toS_if, sbind_nx, sbind_rt, sbind_ct, sbind_er, sbind_if, ofO_some, ofO_if, ofO_none, putR_some, getS_z, getS_s, vS_fz, vS_own, appR_own, appR_ino, parS, open_no, open_fz, open_own, mut_own, mut_ino, loose_no, loose_fz, val_fz, val_own, val_ino, val_lent, As.bs, As.mask, nodupB, endS_rt, endS_nx, endS_er, endS_if, outE_some, outS_nil, outS_f, outS_t, Tg.slots, Tg.slotss, Option.bind_some, It.lends, bodyP_some, body_eq, fbody_eq, fbodyP_some, D.isNon, o_add_i, o_add_l, o_add_t, o_add_s, o_sub_i, o_mul_i, o_fdiv, o_mod, o_pow, o_neg, o_inv, o_band, o_bor_i, o_shl, o_shr, o_eq_i, o_ne_i, o_eq_s, o_ne_s, o_lt_i, o_le_i, o_gt_i, o_ge_i, o_in_t, o_in_l, o_nin_t, o_nin_l, o_isn, o_isnn, o_isb, o_isnb, o_tup, o_lst, o_item_l, o_item_t, o_sl00, o_sl10, o_sl01, o_sl11, slX_l, slX_t, o_rev_l, o_rev_t, o_len_l, o_len_t, o_len_s, o_abs, o_int_i, o_int_b, o_sum, o_max1, o_min1, o_max2, o_min2, o_all_map, o_any_map, o_sorted_l, o_sorted_t, o_sorted_s, o_set_l, o_set_t, o_bor_s, o_tuple_l, o_tuple_t, o_list_l, o_list_t, o_list_scr, o_isint, o_isbool, o_isstr, o_istuple, o_islist, isO_non, isO_bl, isO_int, isO_str, isO_tup, isO_lst, o_isexc, o_tru_b, o_tru_i, o_tru_n, o_tru_l, o_tru_t, iterD_l, iterD_t, range1, range2, fin_ok, fin_err, fin_ok1, fin_err1, fin_if, withD_own, withD_ino, ml_own, ml_ino, unlend_nil, back_nil, store_eq, put_n, put_t, puts_nil, puts_cons, wipeR_eq, wipe_nil, wipe_cons, back_cons, cx_call, cx_lam, cx_noio, lim_lit, Int.toNat_natCast, cut_init, cut_from, cut_last, cut_but, at0, at1, at2, subR_ino0, subR_ino1, List.set_cons_zero, List.set_cons_succ, List.length_cons, List.length_nil, List.all_cons, List.all_nil, List.nil_append, List.cons_append, List.append_nil, List.map_cons, List.map_nil, List.elem_nil, not_true_eq_false, not_false_eq_true, Bool.and_true, Bool.true_and, Bool.and_self, Bool.not_true, Bool.not_false, Bool.and_false, Bool.false_and, Bool.or_true, Bool.true_or, Bool.or_false, Bool.false_or, Bool.or_self, decide_true, decide_false, decide_eq_true_eq, Bool.false_eq_true, if_true, if_false, ite_true, ite_false, Option.map_some, Option.map_none, Option.isSome_some, Nat.zero_add, Nat.reduceAdd, Nat.reduceLT, Nat.reduceLeDiff, Nat.reduceEqDiff, Nat.reduceBEq, Nat.reduceSub, Nat.reduceMul, Int.reduceLT, Int.reduceLE, Int.reduceAdd, Int.reduceSub, Int.reduceNeg, Int.reduceEq, Int.reduceMul, Int.reduceToNat, reduceIte]
  refine ⟨w, c2, rfl, ⟨by omega, by omega, fun l hl => ?_, fun i l hl => ?_⟩, hw1, hc2⟩
  · obtain ⟨j, hj⟩ := List.getElem?_of_mem hl
    have := hw2 j l hj
    exact ⟨this.asc, by rw [hw1]; exact this.lt⟩
  · refine (hw2 i l hl).own ?_
    have := (List.getElem?_eq_some_iff.mp hl).1
    omega

/-! ### lots and webs are judged rightly -/
theorem asc_iff : ∀ l : List Int, asc l = true ↔ l.Pairwise (· < ·)
  | [] => by simp [asc]
  | [a] => by simp [asc]
  | a :: b :: r => by
    have ih := asc_iff (b :: r)
    rw [asc, Bool.and_eq_true, decide_eq_true_eq, ih]
    constructor
    · rintro ⟨h1, h2⟩
      rw [List.pairwise_cons]
      refine ⟨fun x hx => ?_, h2⟩
      rcases List.mem_cons.mp hx with rfl | hx
      · exact h1
      · have := (List.pairwise_cons.mp h2).1 x hx
        omega
    · intro h
      rw [List.pairwise_cons] at h
      exact ⟨h.1 b List.mem_cons_self, h.2⟩
theorem intsOf_nat (l : List Nat) : intsOf (l.map nD) = l.map fun (x : Nat) => (x : Int) := by
  have : l.map nD = (l.map fun (x : Nat) => (x : Int)).map D.int := by rw [List.map_map]; rfl
  rw [this]; unfold intsOf; rw [ints_map]; rfl
theorem isWh_nat {m x : Nat} : isWh 0 (m - 1) (nD x) = decide (x < m) := by
  simp only [isWh]
  by_cases h : x < m
  · rw [decide_eq_true (by omega), decide_eq_true (by omega), decide_eq_true h]; rfl
  · rw [decide_eq_false (p := (x : Int) ≤ m - 1) (by omega), decide_eq_false h, Bool.and_false]
theorem asc_nat (l : List Nat) : asc (l.map fun (x : Nat) => (x : Int)) = true ↔ l.Pairwise (· < ·) := by
  rw [asc_iff, List.pairwise_map]
  constructor
  · exact List.Pairwise.imp fun h => by omega
  · exact List.Pairwise.imp fun h => by omega
theorem isLot_nat {m : Nat} {l : List Nat} : isLot m (lotD l) = true ↔ LotOk m l := by
  unfold lotD isLot
  rw [Bool.and_eq_true, intsOf_nat, asc_nat, List.all_map, List.all_eq_true]
  constructor
  · rintro ⟨h1, h2⟩
    exact ⟨h2, fun x hx => by have := h1 x hx; rw [Function.comp, isWh_nat, decide_eq_true_eq] at this; exact this⟩
  · rintro ⟨h1, h2⟩
    exact ⟨fun x hx => by rw [Function.comp, isWh_nat, decide_eq_true_eq]; exact h2 x hx, h1⟩
theorem memD_nat {i : Nat} {l : List Nat} : memD (nD i) (l.map nD) = decide (i ∈ l) := by
  unfold memD
  rw [List.any_map]
  induction l with
  | nil => simp
  | cons a l ih =>
    rw [List.any_cons, ih]
    simp only [Function.comp, D.eqv, List.mem_cons]
    by_cases h : a = i
    · subst h; simp
    · have h' : ¬ (a : Int) = i := by omega
      have h2 : ¬ i = a := fun e => h e.symm
      simp [h', h2]
/-- what a web asks at each place -/
def webAt (m : Nat) (p : D × Nat) : Bool := isLot m p.1 && (match p.1 with
    | .tup es => memD (.int p.2) es
    | _ => false)
theorem isWeb_tup (ds : List D) : isWeb (.tup ds) = (isTupOf 1 12 (.tup ds) && ds.zipIdx.all (webAt ds.length)) := rfl
theorem isWeb_ok {w : List (List Nat)} (h : WebOk w) : isWeb (webD w) = true := by
  unfold webD
  rw [isWeb_tup, Bool.and_eq_true]
  constructor
  · have h1 := h.pos
    have h2 := h.le
    simp only [isTupOf, List.length_map, Bool.and_eq_true, decide_eq_true_eq]; omega
  · rw [List.all_eq_true]
    rintro ⟨d, i⟩ hp
    have hg := (List.mem_zipIdx_iff_getElem?).mp hp
    simp only [List.getElem?_map] at hg
    obtain ⟨l, hl, rfl⟩ := Option.map_eq_some_iff.mp hg
    rw [List.length_map]
    unfold webAt
    simp only
    rw [isLot_nat.mpr (h.lot l (List.mem_of_getElem? hl))]
    show (true && memD (nD i) (l.map nD)) = true
    rw [memD_nat, decide_eq_true (h.own i l hl)]; rfl
/-- one place spoilt -/
theorem isWeb_bad {pre post : List D} {x : D} (h : isLot (pre.length + 1 + post.length : Nat) x = true → ∃ es, x = .tup es ∧ memD (nD pre.length) es = false) : isWeb (.tup (pre ++ x :: post)) = false := by
  rw [isWeb_tup, Bool.and_eq_false_iff]
  right
  rw [List.all_eq_false]
  refine ⟨(x, pre.length), ?_, ?_⟩
  · rw [List.mem_zipIdx_iff_getElem?]; simp
  · rw [List.length_append, List.length_cons, show pre.length + (post.length + 1) = pre.length + 1 + post.length by omega]
    unfold webAt
    cases q : isLot (pre.length + 1 + post.length : Nat) x with
    | false => simp
    | true =>
      obtain ⟨es, rfl, e⟩ := h q
      simp only [Bool.true_and]
      show ¬ memD (nD pre.length) es = true
      rw [e]; simp
theorem isLot_all {m : Int} {ds : List D} (h : isLot m (.tup ds) = true) : ∀ x ∈ ds, isWh 0 (m - 1) x = true := by
  unfold isLot at h
  rw [Bool.and_eq_true, List.all_eq_true] at h
  exact h.1
theorem small_lot {k : Nat} {l : List Nat} (hl : l.length ≤ 16777216) : small (k + 1) (lotD l) = true := by
  unfold lotD
  rw [small, Bool.and_eq_true, List.length_map, decide_eq_true hl, List.all_map, List.all_eq_true]
  exact ⟨rfl, fun x _ => by cases k <;> rfl⟩
theorem small_web {k : Nat} {w : List (List Nat)} (h : WebOk w) : small (k + 2) (webD w) = true := by
  unfold webD
  have h12 := h.le
  rw [small, Bool.and_eq_true, List.length_map, decide_eq_true (by omega), List.all_map, List.all_eq_true]
  exact ⟨rfl, fun l hl => small_lot (by have := lot_len (h.lot l hl); omega)⟩
/-! ### the program on webs -/
theorem webD_sz {w : List (List Nat)} (h : WebOk w) : ∀ ds, webD w = .tup ds → ∀ es, .tup es ∈ ds → es.length ≤ 16777216 := fun ds e es he => by
  cases e
  obtain ⟨l, hl, e2⟩ := List.mem_map.mp he
  cases e2
  have := lot_len (h.lot l hl)
  have := h.le
  rw [List.length_map]; omega
theorem need_web_good {n : Nat} {w : List (List Nat)} (h : WebOk w) : Φ prog (n + 5) 7 [webD w] = .ok .non [] := by
  rw [need_web_ok (small_okd (small_web (k := 1) h)) (webD_sz h), isWeb_ok h, if_pos rfl]
theorem isWh_ix {w : List (List Nat)} {i : Nat} (h : i < w.length) : isWh 0 ((w.length : Int) - 1) (nD i) = true := by rw [isWh_nat, decide_eq_true h]
theorem web_item {w : List (List Nat)} {i : Nat} {l : List Nat} (h : w[i]? = some l) : L2.atI (w.map lotD) (i : Int) = some (lotD l) := by
  rw [at_nat, List.getElem?_map, h]; rfl
theorem heard_by_ok {n : Nat} {w : List (List Nat)} {i : Nat} {l : List Nat} (h : WebOk w) (hi : w[i]? = some l) : Φ prog (n + 6) 11 [webD w, nD i] = .ok (lotD l) [] := by
  have hlt := (List.getElem?_eq_some_iff.mp hi).1
  have nw := need_web_good (n := n) h
  rw [webD] at nw
  rw [u11, k11]
  simp -implicitDefEqProofs only [ev_k, ev_v, ev_op, ev_bop, evB_one, evB_and, evB_or, ev_nt, ev_ite, ev_chain, ev_call, ev_fn, ev_as0, ev_asE, ev_asB, ev_cs0, ev_cs, ev_iE, ev_iB, ev_iR, ev_iN, ev_iZ, ev_iV, ev_comp, ex_for, ev_conv, convR_range, lendR_some, ex_asg, ex_par, ex_tup, ex_ex, ex_ret, ex_retN, ex_ite, ex_raise, ex_pass, ex_cont, ex_app, ex_sub, exs0, exs, condR_bl, condS_bl, notR_bl, andR_bl, orR_bl, condC_bl, chR_bl, bind_ok, bind_err, bind_bad, bind_if, toS_ok, toS_err, toS_if, sbind_nx, sbind_rt, sbind_ct, sbind_er, sbind_if, ofO_some, ofO_if, ofO_none, putR_some, getS_z, getS_s, vS_fz, vS_own, appR_own, appR_ino, parS, open_no, open_fz, open_own, mut_own, mut_ino, loose_no, loose_fz, val_fz, val_own, val_ino, val_lent, As.bs, As.mask, nodupB, endS_rt, endS_nx, endS_er, endS_if, outE_some, outS_nil, outS_f, outS_t, Tg.slots, Tg.slotss, Option.bind_some, It.lends, bodyP_some, body_eq, fbody_eq, fbodyP_some, D.isNon, o_add_i, o_add_l, o_add_t, o_add_s, o_sub_i, o_mul_i, o_fdiv, o_mod, o_pow, o_neg, o_inv, o_band, o_bor_i, o_shl, o_shr, o_eq_i, o_ne_i, o_eq_s, o_ne_s, o_lt_i, o_le_i, o_gt_i, o_ge_i, o_in_t, o_in_l, o_nin_t, o_nin_l, o_isn, o_isnn, o_isb, o_isnb, o_tup, o_lst, o_item_l, o_item_t, o_sl00, o_sl10, o_sl01, o_sl11, slX_l, slX_t, o_rev_l, o_rev_t, o_len_l, o_len_t, o_len_s, o_abs, o_int_i, o_int_b, o_sum, o_max1, o_min1, o_max2, o_min2, o_all_map, o_any_map, o_sorted_l, o_sorted_t, o_sorted_s, o_set_l, o_set_t, o_bor_s, o_tuple_l, o_tuple_t, o_list_l, o_list_t, o_list_scr, o_isint, o_isbool, o_isstr, o_istuple, o_islist, isO_non, isO_bl, isO_int, isO_str, isO_tup, isO_lst, o_isexc, o_tru_b, o_tru_i, o_tru_n, o_tru_l, o_tru_t, iterD_l, iterD_t, range1, range2, fin_ok, fin_err, fin_ok1, fin_err1, fin_if, withD_own, withD_ino, ml_own, ml_ino, unlend_nil, back_nil, store_eq, put_n, put_t, puts_nil, puts_cons, wipeR_eq, wipe_nil, wipe_cons, back_cons, cx_call, cx_lam, cx_noio, lim_lit, Int.toNat_natCast, cut_init, cut_from, cut_last, cut_but, at0, at1, at2, subR_ino0, subR_ino1, List.set_cons_zero, List.set_cons_succ, List.length_cons, List.length_nil, List.all_cons, List.all_nil, List.nil_append, List.cons_append, List.append_nil, List.map_cons, List.map_nil, List.elem_nil, not_true_eq_false, not_false_eq_true, Bool.and_true, Bool.true_and, Bool.and_self, Bool.not_true, Bool.not_false, Bool.and_false, Bool.false_and, Bool.or_true, Bool.true_or, Bool.or_false, Bool.false_or, Bool.or_self, decide_true, decide_false, decide_eq_true_eq, Bool.false_eq_true, if_true, if_false, ite_true, ite_false, Option.map_some, Option.map_none, Option.isSome_some, Nat.zero_add, Nat.reduceAdd, Nat.reduceLT, Nat.reduceLeDiff, Nat.reduceEqDiff, Nat.reduceBEq, Nat.reduceSub, Nat.reduceMul, Int.reduceLT, Int.reduceLE, Int.reduceAdd, Int.reduceSub, Int.reduceNeg, Int.reduceEq, Int.reduceMul, Int.reduceToNat, reduceIte, nw, webD, List.length_map, need_whole_ok (d := .int (i : Int)) rfl, isWh_ix hlt, web_item hi]
/-- who hears i -/
def hears (w : List (List Nat)) (i : Nat) : List Nat := ((w.zipIdx).filter fun p => decide (i ∈ p.1)).map fun p => p.2
theorem zip_webD {w : List (List Nat)} : enumL 0 (w.map lotD) = w.zipIdx.map fun p => D.tup [.int (p.2 : Nat), lotD p.1] := by
  rw [enumL_zip, List.zipIdx_map, List.map_map]; rfl
theorem okd_lot {l : List Nat} : (l.map nD).all (D.okd 200) = true := by
  rw [List.all_map, List.all_eq_true]; intro x _; rfl
theorem hearers_in_ok {n : Nat} {w : List (List Nat)} {i : Nat} (h : w.length ≤ 12) : Φ prog (n + 1) 8 [webD w, nD i] = .ok (.lst ((hears w i).map nD)) [] := by
  rw [u8, k8]
  simp -implicitDefEqProofs only [ev_k, ev_v, ev_op, ev_bop, evB_one, evB_and, evB_or, ev_nt, ev_ite, ev_chain, ev_call, ev_fn, ev_as0, ev_asE, ev_asB, ev_cs0, ev_cs, ev_iE, ev_iB, ev_iR, ev_iN, ev_iZ, ev_iV, ev_comp, ex_for, ev_conv, convR_range, lendR_some, ex_asg, ex_par, ex_tup, ex_ex, ex_ret, ex_retN, ex_ite, ex_raise, ex_pass, ex_cont, ex_app, ex_sub, exs0, exs, condR_bl, condS_bl, notR_bl, andR_bl, orR_bl, condC_bl, chR_bl, bind_ok, bind_err, bind_bad, bind_if, toS_ok, toS_err, toS_if, sbind_nx, sbind_rt, sbind_ct, sbind_er, sbind_if, ofO_some, ofO_if, ofO_none, putR_some, getS_z, getS_s, vS_fz, vS_own, appR_own, appR_ino, parS, open_no, open_fz, open_own, mut_own, mut_ino, loose_no, loose_fz, val_fz, val_own, val_ino, val_lent, As.bs, As.mask, nodupB, endS_rt, endS_nx, endS_er, endS_if, outE_some, outS_nil, outS_f, outS_t, Tg.slots, Tg.slotss, Option.bind_some, It.lends, bodyP_some, body_eq, fbody_eq, fbodyP_some, D.isNon, o_add_i, o_add_l, o_add_t, o_add_s, o_sub_i, o_mul_i, o_fdiv, o_mod, o_pow, o_neg, o_inv, o_band, o_bor_i, o_shl, o_shr, o_eq_i, o_ne_i, o_eq_s, o_ne_s, o_lt_i, o_le_i, o_gt_i, o_ge_i, o_in_t, o_in_l, o_nin_t, o_nin_l, o_isn, o_isnn, o_isb, o_isnb, o_tup, o_lst, o_item_l, o_item_t, o_sl00, o_sl10, o_sl01, o_sl11, slX_l, slX_t, o_rev_l, o_rev_t, o_len_l, o_len_t, o_len_s, o_abs, o_int_i, o_int_b, o_sum, o_max1, o_min1, o_max2, o_min2, o_all_map, o_any_map, o_sorted_l, o_sorted_t, o_sorted_s, o_set_l, o_set_t, o_bor_s, o_tuple_l, o_tuple_t, o_list_l, o_list_t, o_list_scr, o_isint, o_isbool, o_isstr, o_istuple, o_islist, isO_non, isO_bl, isO_int, isO_str, isO_tup, isO_lst, o_isexc, o_tru_b, o_tru_i, o_tru_n, o_tru_l, o_tru_t, iterD_l, iterD_t, range1, range2, fin_ok, fin_err, fin_ok1, fin_err1, fin_if, withD_own, withD_ino, ml_own, ml_ino, unlend_nil, back_nil, store_eq, put_n, put_t, puts_nil, puts_cons, wipeR_eq, wipe_nil, wipe_cons, back_cons, cx_call, cx_lam, cx_noio, lim_lit, Int.toNat_natCast, cut_init, cut_from, cut_last, cut_but, at0, at1, at2, subR_ino0, subR_ino1, List.set_cons_zero, List.set_cons_succ, List.length_cons, List.length_nil, List.all_cons, List.all_nil, List.nil_append, List.cons_append, List.append_nil, List.map_cons, List.map_nil, List.elem_nil, not_true_eq_false, not_false_eq_true, Bool.and_true, Bool.true_and, Bool.and_self, Bool.not_true, Bool.not_false, Bool.and_false, Bool.false_and, Bool.or_true, Bool.true_or, Bool.or_false, Bool.false_or, Bool.or_self, decide_true, decide_false, decide_eq_true_eq, Bool.false_eq_true, if_true, if_false, ite_true, ite_false, Option.map_some, Option.map_none, Option.isSome_some, Nat.zero_add, Nat.reduceAdd, Nat.reduceLT, Nat.reduceLeDiff, Nat.reduceEqDiff, Nat.reduceBEq, Nat.reduceSub, Nat.reduceMul, Int.reduceLT, Int.reduceLE, Int.reduceAdd, Int.reduceSub, Int.reduceNeg, Int.reduceEq, Int.reduceMul, Int.reduceToNat, reduceIte, webD]
  rw [zip_webD, loopC_filtL (fun p => decide (i ∈ p.1)) (fun p => .int (p.2 : Nat)) (fun p hp => by
    obtain ⟨l, j⟩ := p
    have e := memD_nat (i := i) (l := l)
    unfold memD at e
    simp -implicitDefEqProofs only [ev_k, ev_v, ev_op, ev_bop, evB_one, evB_and, evB_or, ev_nt, ev_ite, ev_chain, ev_call, ev_fn, ev_as0, ev_asE, ev_asB, ev_cs0, ev_cs, ev_iE, ev_iB, ev_iR, ev_iN, ev_iZ, ev_iV, ev_comp, ex_for, ev_conv, convR_range, lendR_some, ex_asg, ex_par, ex_tup, ex_ex, ex_ret, ex_retN, ex_ite, ex_raise, ex_pass, ex_cont, ex_app, ex_sub, exs0, exs, condR_bl, condS_bl, notR_bl, andR_bl, orR_bl, condC_bl, chR_bl, bind_ok, bind_err, bind_bad, bind_if, toS_ok, toS_err, toS_if, sbind_nx, sbind_rt, sbind_ct, sbind_er, sbind_if, ofO_some, ofO_if, ofO_none, putR_some, getS_z, getS_s, vS_fz, vS_own, appR_own, appR_ino, parS, open_no, open_fz, open_own, mut_own, mut_ino, loose_no, loose_fz, val_fz, val_own, val_ino, val_lent, As.bs, As.mask, nodupB, endS_rt, endS_nx, endS_er, endS_if, outE_some, outS_nil, outS_f, outS_t, Tg.slots, Tg.slotss, Option.bind_some, It.lends, bodyP_some, body_eq, fbody_eq, fbodyP_some, D.isNon, o_add_i, o_add_l, o_add_t, o_add_s, o_sub_i, o_mul_i, o_fdiv, o_mod, o_pow, o_neg, o_inv, o_band, o_bor_i, o_shl, o_shr, o_eq_i, o_ne_i, o_eq_s, o_ne_s, o_lt_i, o_le_i, o_gt_i, o_ge_i, o_in_t, o_in_l, o_nin_t, o_nin_l, o_isn, o_isnn, o_isb, o_isnb, o_tup, o_lst, o_item_l, o_item_t, o_sl00, o_sl10, o_sl01, o_sl11, slX_l, slX_t, o_rev_l, o_rev_t, o_len_l, o_len_t, o_len_s, o_abs, o_int_i, o_int_b, o_sum, o_max1, o_min1, o_max2, o_min2, o_all_map, o_any_map, o_sorted_l, o_sorted_t, o_sorted_s, o_set_l, o_set_t, o_bor_s, o_tuple_l, o_tuple_t, o_list_l, o_list_t, o_list_scr, o_isint, o_isbool, o_isstr, o_istuple, o_islist, isO_non, isO_bl, isO_int, isO_str, isO_tup, isO_lst, o_isexc, o_tru_b, o_tru_i, o_tru_n, o_tru_l, o_tru_t, iterD_l, iterD_t, range1, range2, fin_ok, fin_err, fin_ok1, fin_err1, fin_if, withD_own, withD_ino, ml_own, ml_ino, unlend_nil, back_nil, store_eq, put_n, put_t, puts_nil, puts_cons, wipeR_eq, wipe_nil, wipe_cons, back_cons, cx_call, cx_lam, cx_noio, lim_lit, Int.toNat_natCast, cut_init, cut_from, cut_last, cut_but, at0, at1, at2, subR_ino0, subR_ino1, List.set_cons_zero, List.set_cons_succ, List.length_cons, List.length_nil, List.all_cons, List.all_nil, List.nil_append, List.cons_append, List.append_nil, List.map_cons, List.map_nil, List.elem_nil, not_true_eq_false, not_false_eq_true, Bool.and_true, Bool.true_and, Bool.and_self, Bool.not_true, Bool.not_false, Bool.and_false, Bool.false_and, Bool.or_true, Bool.true_or, Bool.or_false, Bool.false_or, Bool.or_self, decide_true, decide_false, decide_eq_true_eq, Bool.false_eq_true, if_true, if_false, ite_true, ite_false, Option.map_some, Option.map_none, Option.isSome_some, Nat.zero_add, Nat.reduceAdd, Nat.reduceLT, Nat.reduceLeDiff, Nat.reduceEqDiff, Nat.reduceBEq, Nat.reduceSub, Nat.reduceMul, Int.reduceLT, Int.reduceLE, Int.reduceAdd, Int.reduceSub, Int.reduceNeg, Int.reduceEq, Int.reduceMul, Int.reduceToNat, reduceIte, lotD, okd5, okd_lot, e]
    split <;> rfl) (by rw [List.length_zipIdx, lim_lit]; omega)]
  simp -implicitDefEqProofs only [ev_k, ev_v, ev_op, ev_bop, evB_one, evB_and, evB_or, ev_nt, ev_ite, ev_chain, ev_call, ev_fn, ev_as0, ev_asE, ev_asB, ev_cs0, ev_cs, ev_iE, ev_iB, ev_iR, ev_iN, ev_iZ, ev_iV, ev_comp, ex_for, ev_conv, convR_range, lendR_some, ex_asg, ex_par, ex_tup, ex_ex, ex_ret, ex_retN, ex_ite, ex_raise, ex_pass, ex_cont, ex_app, ex_sub, exs0, exs, condR_bl, condS_bl, notR_bl, andR_bl, orR_bl, condC_bl, chR_bl, bind_ok, bind_err, bind_bad, bind_if, toS_ok, toS_err, toS_if, sbind_nx, sbind_rt, sbind_ct, sbind_er, sbind_if, ofO_some, ofO_if, ofO_none, putR_some, getS_z, getS_s, vS_fz, vS_own, appR_own, appR_ino, parS, open_no, open_fz, open_own, mut_own, mut_ino, loose_no, loose_fz, val_fz, val_own, val_ino, val_lent, As.bs, As.mask, nodupB, endS_rt, endS_nx, endS_er, endS_if, outE_some, outS_nil, outS_f, outS_t, Tg.slots, Tg.slotss, Option.bind_some, It.lends, bodyP_some, body_eq, fbody_eq, fbodyP_some, D.isNon, o_add_i, o_add_l, o_add_t, o_add_s, o_sub_i, o_mul_i, o_fdiv, o_mod, o_pow, o_neg, o_inv, o_band, o_bor_i, o_shl, o_shr, o_eq_i, o_ne_i, o_eq_s, o_ne_s, o_lt_i, o_le_i, o_gt_i, o_ge_i, o_in_t, o_in_l, o_nin_t, o_nin_l, o_isn, o_isnn, o_isb, o_isnb, o_tup, o_lst, o_item_l, o_item_t, o_sl00, o_sl10, o_sl01, o_sl11, slX_l, slX_t, o_rev_l, o_rev_t, o_len_l, o_len_t, o_len_s, o_abs, o_int_i, o_int_b, o_sum, o_max1, o_min1, o_max2, o_min2, o_all_map, o_any_map, o_sorted_l, o_sorted_t, o_sorted_s, o_set_l, o_set_t, o_bor_s, o_tuple_l, o_tuple_t, o_list_l, o_list_t, o_list_scr, o_isint, o_isbool, o_isstr, o_istuple, o_islist, isO_non, isO_bl, isO_int, isO_str, isO_tup, isO_lst, o_isexc, o_tru_b, o_tru_i, o_tru_n, o_tru_l, o_tru_t, iterD_l, iterD_t, range1, range2, fin_ok, fin_err, fin_ok1, fin_err1, fin_if, withD_own, withD_ino, ml_own, ml_ino, unlend_nil, back_nil, store_eq, put_n, put_t, puts_nil, puts_cons, wipeR_eq, wipe_nil, wipe_cons, back_cons, cx_call, cx_lam, cx_noio, lim_lit, Int.toNat_natCast, cut_init, cut_from, cut_last, cut_but, at0, at1, at2, subR_ino0, subR_ino1, List.set_cons_zero, List.set_cons_succ, List.length_cons, List.length_nil, List.all_cons, List.all_nil, List.nil_append, List.cons_append, List.append_nil, List.map_cons, List.map_nil, List.elem_nil, not_true_eq_false, not_false_eq_true, Bool.and_true, Bool.true_and, Bool.and_self, Bool.not_true, Bool.not_false, Bool.and_false, Bool.false_and, Bool.or_true, Bool.true_or, Bool.or_false, Bool.false_or, Bool.or_self, decide_true, decide_false, decide_eq_true_eq, Bool.false_eq_true, if_true, if_false, ite_true, ite_false, Option.map_some, Option.map_none, Option.isSome_some, Nat.zero_add, Nat.reduceAdd, Nat.reduceLT, Nat.reduceLeDiff, Nat.reduceEqDiff, Nat.reduceBEq, Nat.reduceSub, Nat.reduceMul, Int.reduceLT, Int.reduceLE, Int.reduceAdd, Int.reduceSub, Int.reduceNeg, Int.reduceEq, Int.reduceMul, Int.reduceToNat, reduceIte, hears, List.map_map]
  rfl
theorem hearers_of_ok {n : Nat} {w : List (List Nat)} {i : Nat} {l : List Nat} (h : WebOk w) (hi : w[i]? = some l) : Φ prog (n + 6) 12 [webD w, nD i] = .ok (lotD (hears w i)) [] := by
  have hlt := (List.getElem?_eq_some_iff.mp hi).1
  have q := hearers_in_ok (n := n + 4) (i := i) h.le
  rw [webD] at q
  have nw := need_web_good (n := n) h
  rw [webD] at nw
  rw [u12, k12]
  simp -implicitDefEqProofs only [ev_k, ev_v, ev_op, ev_bop, evB_one, evB_and, evB_or, ev_nt, ev_ite, ev_chain, ev_call, ev_fn, ev_as0, ev_asE, ev_asB, ev_cs0, ev_cs, ev_iE, ev_iB, ev_iR, ev_iN, ev_iZ, ev_iV, ev_comp, ex_for, ev_conv, convR_range, lendR_some, ex_asg, ex_par, ex_tup, ex_ex, ex_ret, ex_retN, ex_ite, ex_raise, ex_pass, ex_cont, ex_app, ex_sub, exs0, exs, condR_bl, condS_bl, notR_bl, andR_bl, orR_bl, condC_bl, chR_bl, bind_ok, bind_err, bind_bad, bind_if, toS_ok, toS_err, toS_if, sbind_nx, sbind_rt, sbind_ct, sbind_er, sbind_if, ofO_some, ofO_if, ofO_none, putR_some, getS_z, getS_s, vS_fz, vS_own, appR_own, appR_ino, parS, open_no, open_fz, open_own, mut_own, mut_ino, loose_no, loose_fz, val_fz, val_own, val_ino, val_lent, As.bs, As.mask, nodupB, endS_rt, endS_nx, endS_er, endS_if, outE_some, outS_nil, outS_f, outS_t, Tg.slots, Tg.slotss, Option.bind_some, It.lends, bodyP_some, body_eq, fbody_eq, fbodyP_some, D.isNon, o_add_i, o_add_l, o_add_t, o_add_s, o_sub_i, o_mul_i, o_fdiv, o_mod, o_pow, o_neg, o_inv, o_band, o_bor_i, o_shl, o_shr, o_eq_i, o_ne_i, o_eq_s, o_ne_s, o_lt_i, o_le_i, o_gt_i, o_ge_i, o_in_t, o_in_l, o_nin_t, o_nin_l, o_isn, o_isnn, o_isb, o_isnb, o_tup, o_lst, o_item_l, o_item_t, o_sl00, o_sl10, o_sl01, o_sl11, slX_l, slX_t, o_rev_l, o_rev_t, o_len_l, o_len_t, o_len_s, o_abs, o_int_i, o_int_b, o_sum, o_max1, o_min1, o_max2, o_min2, o_all_map, o_any_map, o_sorted_l, o_sorted_t, o_sorted_s, o_set_l, o_set_t, o_bor_s, o_tuple_l, o_tuple_t, o_list_l, o_list_t, o_list_scr, o_isint, o_isbool, o_isstr, o_istuple, o_islist, isO_non, isO_bl, isO_int, isO_str, isO_tup, isO_lst, o_isexc, o_tru_b, o_tru_i, o_tru_n, o_tru_l, o_tru_t, iterD_l, iterD_t, range1, range2, fin_ok, fin_err, fin_ok1, fin_err1, fin_if, withD_own, withD_ino, ml_own, ml_ino, unlend_nil, back_nil, store_eq, put_n, put_t, puts_nil, puts_cons, wipeR_eq, wipe_nil, wipe_cons, back_cons, cx_call, cx_lam, cx_noio, lim_lit, Int.toNat_natCast, cut_init, cut_from, cut_last, cut_but, at0, at1, at2, subR_ino0, subR_ino1, List.set_cons_zero, List.set_cons_succ, List.length_cons, List.length_nil, List.all_cons, List.all_nil, List.nil_append, List.cons_append, List.append_nil, List.map_cons, List.map_nil, List.elem_nil, not_true_eq_false, not_false_eq_true, Bool.and_true, Bool.true_and, Bool.and_self, Bool.not_true, Bool.not_false, Bool.and_false, Bool.false_and, Bool.or_true, Bool.true_or, Bool.or_false, Bool.false_or, Bool.or_self, decide_true, decide_false, decide_eq_true_eq, Bool.false_eq_true, if_true, if_false, ite_true, ite_false, Option.map_some, Option.map_none, Option.isSome_some, Nat.zero_add, Nat.reduceAdd, Nat.reduceLT, Nat.reduceLeDiff, Nat.reduceEqDiff, Nat.reduceBEq, Nat.reduceSub, Nat.reduceMul, Int.reduceLT, Int.reduceLE, Int.reduceAdd, Int.reduceSub, Int.reduceNeg, Int.reduceEq, Int.reduceMul, Int.reduceToNat, reduceIte, nw, webD, List.length_map, need_whole_ok (d := .int (i : Int)) rfl, isWh_ix hlt, q]
  rfl

/-! ### drawn webs -/
/-- the hearers, by places -/
theorem hears_eq {w : List (List Nat)} {i : Nat} : hears w i = (List.range w.length).filter fun j => decide (i ∈ w.getD j []) := by
  unfold hears
  have : ∀ (w' : List (List Nat)) (k : Nat), (((w'.zipIdx k).filter fun p => decide (i ∈ p.1)).map fun p => p.2) = (List.range' k w'.length).filter fun j => decide (i ∈ w'.getD (j - k) []) := by
    intro w'
    induction w' with
    | nil => intro k; rfl
    | cons a w' ih =>
      intro k
      rw [List.zipIdx_cons, List.length_cons, List.range'_succ, List.filter_cons, List.filter_cons]
      have e : (List.range' (k + 1) w'.length).filter (fun j => decide (i ∈ (a :: w').getD (j - k) [])) = (List.range' (k + 1) w'.length).filter (fun j => decide (i ∈ w'.getD (j - (k + 1)) [])) := by
        apply List.filter_congr
        intro j hj
        have := (List.mem_range'_1.mp hj).1
        rw [show j - k = (j - (k + 1)) + 1 by omega]
        rfl
      rw [e, ← ih (k + 1)]
      simp only [Nat.sub_self, List.getD_cons_zero]
      split <;> rfl
  have := this w 0
  rw [List.range_eq_range']
  simpa using this
theorem web_at_ok {w : List (List Nat)} {i : Nat} {l : List Nat} (h : w[i]? = some l) : L2.atI (w.map lotD) (i : Int) = some (lotD l) := web_item h
theorem getD_of {w : List (List Nat)} {i : Nat} {l : List Nat} (h : w[i]? = some l) : w.getD i [] = l := by rw [List.getD_eq_getElem?_getD, h]; rfl
theorem small1 {k : Nat} {ds : List D} (h : ds.length ≤ 16777216) (hs : ∀ x ∈ ds, small k x = true) : small (k + 1) (.lst ds) = true := by
  rw [small, Bool.and_eq_true, decide_eq_true h, List.all_eq_true]; exact ⟨rfl, hs⟩
theorem hears_len {w : List (List Nat)} {i : Nat} : (hears w i).length ≤ w.length := by
  rw [hears_eq]
  exact Nat.le_trans (List.length_filter_le _ _) (by rw [List.length_range]; exact Nat.le_refl _)
/-- a web with one place spoilt -/
theorem bent_ok {n o : Nat} {w : List (List Nat)} {odd : D} (hw : WebOk w) (ho : o < w.length) (h1 : D.okd 2 odd = true) (h2 : ∀ es, odd = .tup es → es.length ≤ 16777216) (h3 : isLot (w.length : Nat) odd = true → ∃ es, odd = .tup es ∧ memD (nD o) es = false) :
    Φ prog (n + 5) 9 [.tup ((w.map lotD).take o ++ [odd] ++ (w.map lotD).drop (o + 1))] = .ok (.bl false) [] := by
  have sz := webD_sz hw
  have l1 : ((w.map lotD).take o).length = o := by rw [List.length_take, List.length_map]; omega
  have l2 : ((w.map lotD).take o).length + 1 + ((w.map lotD).drop (o + 1)).length = w.length := by rw [l1, List.length_drop, List.length_map]; omega
  have hb : isWeb (.tup ((w.map lotD).take o ++ odd :: (w.map lotD).drop (o + 1))) = false := isWeb_bad (by rw [l2, l1]; exact h3)
  have e : (w.map lotD).take o ++ [odd] ++ (w.map lotD).drop (o + 1) = (w.map lotD).take o ++ odd :: (w.map lotD).drop (o + 1) := by simp
  rw [e, is_web_ok ?_ ?_, hb]
  · have hk := small_okd (small_web (k := 0) hw)
    rw [webD, D.okd, List.all_eq_true] at hk
    rw [D.okd, List.all_eq_true]
    intro x hx
    rcases List.mem_append.mp hx with hx | hx
    · exact okd_le (by omega) (hk x (List.mem_of_mem_take hx))
    · rcases List.mem_cons.mp hx with rfl | hx
      · exact h1
      · exact okd_le (by omega) (hk x (List.mem_of_mem_drop hx))
  · intro ds e2 es he
    cases e2
    rcases List.mem_append.mp he with hx | hx
    · exact sz _ rfl es (List.mem_of_mem_take hx)
    · rcases List.mem_cons.mp hx with hx | hx
      · exact h2 es hx.symm
      · exact sz _ rfl es (List.mem_of_mem_drop hx)
theorem okd_nats {l : List Nat} : (l.map nD).all (D.okd 1) = true := by
  rw [List.all_map, List.all_eq_true]; intro x _; rfl
theorem ints_app (l : List Nat) (x : Int) : intsOf (l.map nD ++ [.int x]) = l.map (fun (x : Nat) => (x : Int)) ++ [x] := by
  have : l.map nD ++ [.int x] = (l.map (fun (x : Nat) => (x : Int)) ++ [x]).map D.int := by rw [List.map_append, List.map_map]; rfl
  rw [this]; unfold intsOf; rw [ints_map]; rfl
theorem not_lot {m : Int} {ds : List D} {x : D} (hx : x ∈ ds) (h : isWh 0 (m - 1) x = false) {P : Prop} : isLot m (.tup ds) = true → P := fun q => by
  rw [isLot_all q x hx] at h; cases h
section
variable {w : List (List Nat)} {o : Nat} {l : List Nat} {n : Nat}
theorem odd_less (hw : WebOk w) (hl : w[o]? = some l) : Φ prog (n + 5) 9 [.tup ((w.map lotD).take o ++ [.tup ((l.filter fun x => !decide (x = o)).map nD)] ++ (w.map lotD).drop (o + 1))] = .ok (.bl false) [] := by
  have hlo := lot_len (hw.lot l (List.mem_of_getElem? hl))
  have h12 := hw.le
  refine bent_ok hw (List.getElem?_eq_some_iff.mp hl).1 (by rw [D.okd]; exact okd_nats) (fun es e => by cases e; rw [List.length_map]; exact Nat.le_trans (List.length_filter_le _ _) (by omega)) fun _ => ⟨_, rfl, ?_⟩
  rw [memD_nat]
  simp
theorem odd_more (hw : WebOk w) (hl : w[o]? = some l) : Φ prog (n + 5) 9 [.tup ((w.map lotD).take o ++ [.tup (l.map nD ++ [nD w.length])] ++ (w.map lotD).drop (o + 1))] = .ok (.bl false) [] := by
  have hlo := lot_len (hw.lot l (List.mem_of_getElem? hl))
  have h12 := hw.le
  refine bent_ok hw (List.getElem?_eq_some_iff.mp hl).1 (by rw [D.okd, List.all_append, okd_nats]; rfl) (fun es e => by cases e; rw [List.length_append, List.length_map]; simp; omega) ?_
  exact not_lot (x := nD w.length) (by simp) (by rw [isWh_nat, decide_eq_false (by omega)])
theorem odd_neg (hw : WebOk w) (hl : w[o]? = some l) : Φ prog (n + 5) 9 [.tup ((w.map lotD).take o ++ [.tup (.int (-1) :: l.map nD)] ++ (w.map lotD).drop (o + 1))] = .ok (.bl false) [] := by
  have hlo := lot_len (hw.lot l (List.mem_of_getElem? hl))
  have h12 := hw.le
  refine bent_ok hw (List.getElem?_eq_some_iff.mp hl).1 (by rw [D.okd, List.all_cons, okd_nats]; rfl) (fun es e => by cases e; rw [List.length_cons, List.length_map]; omega) ?_
  exact not_lot (x := .int (-1)) (by simp) (by simp [isWh])
theorem odd_none (hw : WebOk w) (hl : w[o]? = some l) : Φ prog (n + 5) 9 [.tup ((w.map lotD).take o ++ [.tup (.non :: l.map nD)] ++ (w.map lotD).drop (o + 1))] = .ok (.bl false) [] := by
  have hlo := lot_len (hw.lot l (List.mem_of_getElem? hl))
  have h12 := hw.le
  refine bent_ok hw (List.getElem?_eq_some_iff.mp hl).1 (by rw [D.okd, List.all_cons, okd_nats]; rfl) (fun es e => by cases e; rw [List.length_cons, List.length_map]; omega) ?_
  exact not_lot (x := .non) (by simp) rfl
/-- what is no ascending row is no lot -/
theorem odd_row (hw : WebOk w) (ho : o < w.length) {l' : List Nat} (h1 : l'.length ≤ 16777216) (h : ¬ l'.Pairwise (· < ·)) : Φ prog (n + 5) 9 [.tup ((w.map lotD).take o ++ [.tup (l'.map nD)] ++ (w.map lotD).drop (o + 1))] = .ok (.bl false) [] := by
  refine bent_ok hw ho (by rw [D.okd]; exact okd_nats) (fun es e => by cases e; rw [List.length_map]; exact h1) fun q => ?_
  exact absurd (isLot_nat.mp q).asc h
theorem odd_dup (hw : WebOk w) (hl : w[o]? = some l) : Φ prog (n + 5) 9 [.tup ((w.map lotD).take o ++ [.tup (l.map nD ++ (l.map nD).drop (l.length - 1))] ++ (w.map lotD).drop (o + 1))] = .ok (.bl false) [] := by
  have hlo := lot_len (hw.lot l (List.mem_of_getElem? hl))
  have h12 := hw.le
  have hp : 1 ≤ l.length := List.length_pos_of_mem (hw.own o l hl)
  rw [← List.map_drop (f := nD), ← List.map_append (f := nD)]
  refine odd_row (l' := l ++ l.drop (l.length - 1)) hw (List.getElem?_eq_some_iff.mp hl).1 (by rw [List.length_append, List.length_drop]; omega) fun h => ?_
  rw [List.pairwise_append] at h
  have hx : l[l.length - 1] ∈ l.drop (l.length - 1) := by
    rw [List.mem_iff_getElem]
    exact ⟨0, by rw [List.length_drop]; omega, by simp⟩
  have := h.2.2 l[l.length - 1] (List.getElem_mem (by omega)) l[l.length - 1] hx
  omega
theorem odd_turn (hw : WebOk w) (hl : w[o]? = some l) (h1 : 1 < l.length) : Φ prog (n + 5) 9 [.tup ((w.map lotD).take o ++ [.tup ((l.map nD).drop (l.length - 1) ++ (l.map nD).take (l.length - 1))] ++ (w.map lotD).drop (o + 1))] = .ok (.bl false) [] := by
  have hq := hw.lot l (List.mem_of_getElem? hl)
  have hlo := lot_len hq
  have h12 := hw.le
  rw [← List.map_drop (f := nD), ← List.map_take (f := nD), ← List.map_append (f := nD)]
  refine odd_row (l' := l.drop (l.length - 1) ++ l.take (l.length - 1)) hw (List.getElem?_eq_some_iff.mp hl).1 (by rw [List.length_append, List.length_drop, List.length_take]; omega) fun h => ?_
  rw [List.pairwise_append] at h
  have hx : l[l.length - 1] ∈ l.drop (l.length - 1) := by
    rw [List.mem_iff_getElem]
    exact ⟨0, by rw [List.length_drop]; omega, by simp⟩
  have hy : l[0] ∈ l.take (l.length - 1) := by
    rw [List.mem_iff_getElem]
    exact ⟨0, by rw [List.length_take]; omega, by simp⟩
  have e1 := h.2.2 _ hx _ hy
  have e2 := (List.pairwise_iff_getElem.mp hq.asc) 0 (l.length - 1) (by omega) (by omega) (by omega)
  omega
theorem odd_own (hw : WebOk w) (ho : o < w.length) : Φ prog (n + 5) 9 [.tup ((w.map lotD).take o ++ [.tup [nD o, nD o]] ++ (w.map lotD).drop (o + 1))] = .ok (.bl false) [] :=
  odd_row hw ho (l' := [o, o]) (by simp) (by simp)
theorem odd_else (hw : WebOk w) (ho : o < w.length) {d : D} (h : D.okd 2 d = true) (h2 : ∀ es, d ≠ .tup es) : Φ prog (n + 5) 9 [.tup ((w.map lotD).take o ++ [d] ++ (w.map lotD).drop (o + 1))] = .ok (.bl false) [] :=
  bent_ok hw ho h (fun es e => absurd e (h2 es)) fun q => by
    obtain ⟨es, e, _⟩ := isLot_tup q
    exact absurd e (h2 es)
theorem web_longer (hw : WebOk w) (hl : w[o]? = some l) : Φ prog (n + 5) 9 [.tup (w.map lotD ++ [lotD l])] = .ok (.bl false) [] := by
  have hq := hw.lot l (List.mem_of_getElem? hl)
  have hs := webD_sz hw
  have hlo := lot_len hq
  have h12 := hw.le
  rw [is_web_ok ?_ ?_, isWeb_bad (pre := w.map lotD) (post := []) (x := lotD l) fun q => ⟨l.map nD, rfl, ?_⟩]
  · rw [List.length_map, memD_nat, decide_eq_false]
    intro hm
    have := hq.lt _ hm
    omega
  · have hk := small_okd (small_web (k := 0) hw)
    rw [webD, D.okd] at hk
    rw [D.okd, List.all_append, all_okd (by omega) hk]
    have : D.okd 2 (lotD l) = true := small_okd (small_lot (by omega))
    simp [this]
  · intro ds e es he
    cases e
    rcases List.mem_append.mp he with he | he
    · exact hs _ rfl es he
    · have : D.tup es = lotD l := by simpa using he
      cases this
      rw [List.length_map]; omega
theorem web_list (hw : WebOk w) : Φ prog (n + 5) 9 [.lst (w.map lotD)] = .ok (.bl false) [] := by
  have hk := small_okd (small_web (k := 1) hw)
  rw [webD, D.okd] at hk
  rw [is_web_ok (by rw [D.okd]; exact hk) (fun ds e => by cases e)]
  rfl
end
theorem law_drawn_ok {n : Nat} {c : D} (h : CupOk c) : ∃ c', Φ prog (n + 20) 21 [c] = .ok (.bl true) [c'] ∧ CupOk c' := by
  obtain ⟨r, c1, e1, r0, r1, hc1⟩ := law_roll_ok (n := n + 18) h (show (1 : Int) ≤ 12 by decide) (by decide)
  obtain ⟨m, hm⟩ : ∃ m : Nat, 1 + r = m := ⟨(1 + r).toNat, by omega⟩
  obtain ⟨w, c2, e2, hw, rfl, hc2⟩ := law_web_ok (n := n + 17) hc1 (m := m) (by omega) (by omega)
  rw [u21, k21]
  simp -implicitDefEqProofs only [ev_k, ev_v, ev_op, ev_bop, evB_one, evB_and, evB_or, ev_nt, ev_ite, ev_chain, ev_call, ev_fn, ev_as0, ev_asE, ev_asB, ev_cs0, ev_cs, ev_iE, ev_iB, ev_iR, ev_iN, ev_iZ, ev_iV, ev_comp, ex_for, ev_conv, convR_range, lendR_some, ex_asg, ex_par, ex_tup, ex_ex, ex_ret, ex_retN, ex_ite, ex_raise, ex_pass, ex_cont, ex_app, ex_sub, exs0, exs, condR_bl, condS_bl, notR_bl, andR_bl, orR_bl, condC_bl, chR_bl, bind_ok, bind_err, bind_bad, bind_if, toS_ok, toS_err, toS_if, sbind_nx, sbind_rt, sbind_ct, sbind_er, sbind_if, ofO_some, ofO_if, ofO_none, putR_some, getS_z, getS_s, vS_fz, vS_own, appR_own, appR_ino, parS, open_no, open_fz, open_own, mut_own, mut_ino, loose_no, loose_fz, val_fz, val_own, val_ino, val_lent, As.bs, As.mask, nodupB, endS_rt, endS_nx, endS_er, endS_if, outE_some, outS_nil, outS_f, outS_t, Tg.slots, Tg.slotss, Option.bind_some, It.lends, bodyP_some, body_eq, fbody_eq, fbodyP_some, D.isNon, o_add_i, o_add_l, o_add_t, o_add_s, o_sub_i, o_mul_i, o_fdiv, o_mod, o_pow, o_neg, o_inv, o_band, o_bor_i, o_shl, o_shr, o_eq_i, o_ne_i, o_eq_s, o_ne_s, o_lt_i, o_le_i, o_gt_i, o_ge_i, o_in_t, o_in_l, o_nin_t, o_nin_l, o_isn, o_isnn, o_isb, o_isnb, o_tup, o_lst, o_item_l, o_item_t, o_sl00, o_sl10, o_sl01, o_sl11, slX_l, slX_t, o_rev_l, o_rev_t, o_len_l, o_len_t, o_len_s, o_abs, o_int_i, o_int_b, o_sum, o_max1, o_min1, o_max2, o_min2, o_all_map, o_any_map, o_sorted_l, o_sorted_t, o_sorted_s, o_set_l, o_set_t, o_bor_s, o_tuple_l, o_tuple_t, o_list_l, o_list_t, o_list_scr, o_isint, o_isbool, o_isstr, o_istuple, o_islist, isO_non, isO_bl, isO_int, isO_str, isO_tup, isO_lst, o_isexc, o_tru_b, o_tru_i, o_tru_n, o_tru_l, o_tru_t, iterD_l, iterD_t, range1, range2, fin_ok, fin_err, fin_ok1, fin_err1, fin_if, withD_own, withD_ino, ml_own, ml_ino, unlend_nil, back_nil, store_eq, put_n, put_t, puts_nil, puts_cons, wipeR_eq, wipe_nil, wipe_cons, back_cons, cx_call, cx_lam, cx_noio, lim_lit, Int.toNat_natCast, cut_init, cut_from, cut_last, cut_but, at0, at1, at2, subR_ino0, subR_ino1, List.set_cons_zero, List.set_cons_succ, List.length_cons, List.length_nil, List.all_cons, List.all_nil, List.nil_append, List.cons_append, List.append_nil, List.map_cons, List.map_nil, List.elem_nil, not_true_eq_false, not_false_eq_true, Bool.and_true, Bool.true_and, Bool.and_self, Bool.not_true, Bool.not_false, Bool.and_false, Bool.false_and, Bool.or_true, Bool.true_or, Bool.or_false, Bool.false_or, Bool.or_self, decide_true, decide_false, decide_eq_true_eq, Bool.false_eq_true, if_true, if_false, ite_true, ite_false, Option.map_some, Option.map_none, Option.isSome_some, Nat.zero_add, Nat.reduceAdd, Nat.reduceLT, Nat.reduceLeDiff, Nat.reduceEqDiff, Nat.reduceBEq, Nat.reduceSub, Nat.reduceMul, Int.reduceLT, Int.reduceLE, Int.reduceAdd, Int.reduceSub, Int.reduceNeg, Int.reduceEq, Int.reduceMul, Int.reduceToNat, reduceIte, e1, hm, e2, inR_nat (n := w.length) (show w.length < 4611686018427387904 by have := hw.le; omega)]
  generalize hz : loopF _ _ _ = z
  obtain ⟨s', rfl, ⟨x3, x4, x8, rfl, l3, l4, l8⟩⟩ := loopF_keyN hz w.length
    (fun i s => ∃ x3 x4 x8 : Slot, s = [Slot.ino c2, .fz (nD w.length), .fz (webD w), x3, x4, .no, .no, .no, x8, .no] ∧ x3.open = true ∧ x4.open = true ∧ x8.loose = true)
    (by rw [rangeL_len]) ⟨.no, .no, .no, rfl, rfl, rfl, rfl⟩ (fun i d s hd hJ => by
      obtain ⟨x3, x4, x8, rfl, l3, l4, l8⟩ := hJ
      obtain ⟨hi, rfl⟩ := rangeL_get hd
      obtain ⟨l, hl⟩ : ∃ l, w[i]? = some l := ⟨w[i]'(by omega), List.getElem?_eq_getElem _⟩
      have q1 := heard_by_ok (n := n + 13) hw hl
      have q2 := hearers_of_ok (n := n + 13) hw hl
      have hsm : small 2 (.lst [lotD l, lotD (hears w i)]) = true := small1 (by simp) fun x hx => by
        have h12 := hw.le
        rcases List.mem_cons.mp hx with rfl | hx
        · exact small_lot (by have := lot_len (hw.lot l (List.mem_of_getElem? hl)); omega)
        · have : x = lotD (hears w i) := by simpa using hx
          subst this
          exact small_lot (by have := hears_len (w := w) (i := i); omega)
      have q3 := law_like_ok 2 (n := n + 15) hsm (by decide)
      simp -implicitDefEqProofs only [ev_k, ev_v, ev_op, ev_bop, evB_one, evB_and, evB_or, ev_nt, ev_ite, ev_chain, ev_call, ev_fn, ev_as0, ev_asE, ev_asB, ev_cs0, ev_cs, ev_iE, ev_iB, ev_iR, ev_iN, ev_iZ, ev_iV, ev_comp, ex_for, ev_conv, convR_range, lendR_some, ex_asg, ex_par, ex_tup, ex_ex, ex_ret, ex_retN, ex_ite, ex_raise, ex_pass, ex_cont, ex_app, ex_sub, exs0, exs, condR_bl, condS_bl, notR_bl, andR_bl, orR_bl, condC_bl, chR_bl, bind_ok, bind_err, bind_bad, bind_if, toS_ok, toS_err, toS_if, sbind_nx, sbind_rt, sbind_ct, sbind_er, sbind_if, ofO_some, ofO_if, ofO_none, putR_some, getS_z, getS_s, vS_fz, vS_own, appR_own, appR_ino, parS, open_no, open_fz, open_own, mut_own, mut_ino, loose_no, loose_fz, val_fz, val_own, val_ino, val_lent, As.bs, As.mask, nodupB, endS_rt, endS_nx, endS_er, endS_if, outE_some, outS_nil, outS_f, outS_t, Tg.slots, Tg.slotss, Option.bind_some, It.lends, bodyP_some, body_eq, fbody_eq, fbodyP_some, D.isNon, o_add_i, o_add_l, o_add_t, o_add_s, o_sub_i, o_mul_i, o_fdiv, o_mod, o_pow, o_neg, o_inv, o_band, o_bor_i, o_shl, o_shr, o_eq_i, o_ne_i, o_eq_s, o_ne_s, o_lt_i, o_le_i, o_gt_i, o_ge_i, o_in_t, o_in_l, o_nin_t, o_nin_l, o_isn, o_isnn, o_isb, o_isnb, o_tup, o_lst, o_item_l, o_item_t, o_sl00, o_sl10, o_sl01, o_sl11, slX_l, slX_t, o_rev_l, o_rev_t, o_len_l, o_len_t, o_len_s, o_abs, o_int_i, o_int_b, o_sum, o_max1, o_min1, o_max2, o_min2, o_all_map, o_any_map, o_sorted_l, o_sorted_t, o_sorted_s, o_set_l, o_set_t, o_bor_s, o_tuple_l, o_tuple_t, o_list_l, o_list_t, o_list_scr, o_isint, o_isbool, o_isstr, o_istuple, o_islist, isO_non, isO_bl, isO_int, isO_str, isO_tup, isO_lst, o_isexc, o_tru_b, o_tru_i, o_tru_n, o_tru_l, o_tru_t, iterD_l, iterD_t, range1, range2, fin_ok, fin_err, fin_ok1, fin_err1, fin_if, withD_own, withD_ino, ml_own, ml_ino, unlend_nil, back_nil, store_eq, put_n, put_t, puts_nil, puts_cons, wipeR_eq, wipe_nil, wipe_cons, back_cons, cx_call, cx_lam, cx_noio, lim_lit, Int.toNat_natCast, cut_init, cut_from, cut_last, cut_but, at0, at1, at2, subR_ino0, subR_ino1, List.set_cons_zero, List.set_cons_succ, List.length_cons, List.length_nil, List.all_cons, List.all_nil, List.nil_append, List.cons_append, List.append_nil, List.map_cons, List.map_nil, List.elem_nil, not_true_eq_false, not_false_eq_true, Bool.and_true, Bool.true_and, Bool.and_self, Bool.not_true, Bool.not_false, Bool.and_false, Bool.false_and, Bool.or_true, Bool.true_or, Bool.or_false, Bool.false_or, Bool.or_self, decide_true, decide_false, decide_eq_true_eq, Bool.false_eq_true, if_true, if_false, ite_true, ite_false, Option.map_some, Option.map_none, Option.isSome_some, Nat.zero_add, Nat.reduceAdd, Nat.reduceLT, Nat.reduceLeDiff, Nat.reduceEqDiff, Nat.reduceBEq, Nat.reduceSub, Nat.reduceMul, Int.reduceLT, Int.reduceLE, Int.reduceAdd, Int.reduceSub, Int.reduceNeg, Int.reduceEq, Int.reduceMul, Int.reduceToNat, reduceIte, l3, l4, l8, inR_nat (n := w.length) (show w.length < 4611686018427387904 by have := hw.le; omega), Int.zero_add]
      rw [rangeL0, loopC_filtL (fun j => decide (i ∈ w.getD j [])) nD (fun j hj => by
        have hj : j < w.length := List.mem_range.mp hj
        obtain ⟨l', hl'⟩ : ∃ l, w[j]? = some l := ⟨w[j]'(by omega), List.getElem?_eq_getElem _⟩
        have e := memD_nat (i := i) (l := l')
        unfold memD at e
        simp -implicitDefEqProofs only [ev_k, ev_v, ev_op, ev_bop, evB_one, evB_and, evB_or, ev_nt, ev_ite, ev_chain, ev_call, ev_fn, ev_as0, ev_asE, ev_asB, ev_cs0, ev_cs, ev_iE, ev_iB, ev_iR, ev_iN, ev_iZ, ev_iV, ev_comp, ex_for, ev_conv, convR_range, lendR_some, ex_asg, ex_par, ex_tup, ex_ex, ex_ret, ex_retN, ex_ite, ex_raise, ex_pass, ex_cont, ex_app, ex_sub, exs0, exs, condR_bl, condS_bl, notR_bl, andR_bl, orR_bl, condC_bl, chR_bl, bind_ok, bind_err, bind_bad, bind_if, toS_ok, toS_err, toS_if, sbind_nx, sbind_rt, sbind_ct, sbind_er, sbind_if, ofO_some, ofO_if, ofO_none, putR_some, getS_z, getS_s, vS_fz, vS_own, appR_own, appR_ino, parS, open_no, open_fz, open_own, mut_own, mut_ino, loose_no, loose_fz, val_fz, val_own, val_ino, val_lent, As.bs, As.mask, nodupB, endS_rt, endS_nx, endS_er, endS_if, outE_some, outS_nil, outS_f, outS_t, Tg.slots, Tg.slotss, Option.bind_some, It.lends, bodyP_some, body_eq, fbody_eq, fbodyP_some, D.isNon, o_add_i, o_add_l, o_add_t, o_add_s, o_sub_i, o_mul_i, o_fdiv, o_mod, o_pow, o_neg, o_inv, o_band, o_bor_i, o_shl, o_shr, o_eq_i, o_ne_i, o_eq_s, o_ne_s, o_lt_i, o_le_i, o_gt_i, o_ge_i, o_in_t, o_in_l, o_nin_t, o_nin_l, o_isn, o_isnn, o_isb, o_isnb, o_tup, o_lst, o_item_l, o_item_t, o_sl00, o_sl10, o_sl01, o_sl11, slX_l, slX_t, o_rev_l, o_rev_t, o_len_l, o_len_t, o_len_s, o_abs, o_int_i, o_int_b, o_sum, o_max1, o_min1, o_max2, o_min2, o_all_map, o_any_map, o_sorted_l, o_sorted_t, o_sorted_s, o_set_l, o_set_t, o_bor_s, o_tuple_l, o_tuple_t, o_list_l, o_list_t, o_list_scr, o_isint, o_isbool, o_isstr, o_istuple, o_islist, isO_non, isO_bl, isO_int, isO_str, isO_tup, isO_lst, o_isexc, o_tru_b, o_tru_i, o_tru_n, o_tru_l, o_tru_t, iterD_l, iterD_t, range1, range2, fin_ok, fin_err, fin_ok1, fin_err1, fin_if, withD_own, withD_ino, ml_own, ml_ino, unlend_nil, back_nil, store_eq, put_n, put_t, puts_nil, puts_cons, wipeR_eq, wipe_nil, wipe_cons, back_cons, cx_call, cx_lam, cx_noio, lim_lit, Int.toNat_natCast, cut_init, cut_from, cut_last, cut_but, at0, at1, at2, subR_ino0, subR_ino1, List.set_cons_zero, List.set_cons_succ, List.length_cons, List.length_nil, List.all_cons, List.all_nil, List.nil_append, List.cons_append, List.append_nil, List.map_cons, List.map_nil, List.elem_nil, not_true_eq_false, not_false_eq_true, Bool.and_true, Bool.true_and, Bool.and_self, Bool.not_true, Bool.not_false, Bool.and_false, Bool.false_and, Bool.or_true, Bool.true_or, Bool.or_false, Bool.false_or, Bool.or_self, decide_true, decide_false, decide_eq_true_eq, Bool.false_eq_true, if_true, if_false, ite_true, ite_false, Option.map_some, Option.map_none, Option.isSome_some, Nat.zero_add, Nat.reduceAdd, Nat.reduceLT, Nat.reduceLeDiff, Nat.reduceEqDiff, Nat.reduceBEq, Nat.reduceSub, Nat.reduceMul, Int.reduceLT, Int.reduceLE, Int.reduceAdd, Int.reduceSub, Int.reduceNeg, Int.reduceEq, Int.reduceMul, Int.reduceToNat, reduceIte, webD, web_item hl', lotD, okd5, okd_lot, e, getD_of hl']
        split <;> rfl) (by have := hw.le; rw [List.length_range, lim_lit]; omega), ← hears_eq]
      have e3 : D.tup (List.map nD (hears w i)) = lotD (hears w i) := rfl
      simp -implicitDefEqProofs only [ev_k, ev_v, ev_op, ev_bop, evB_one, evB_and, evB_or, ev_nt, ev_ite, ev_chain, ev_call, ev_fn, ev_as0, ev_asE, ev_asB, ev_cs0, ev_cs, ev_iE, ev_iB, ev_iR, ev_iN, ev_iZ, ev_iV, ev_comp, ex_for, ev_conv, convR_range, lendR_some, ex_asg, ex_par, ex_tup, ex_ex, ex_ret, ex_retN, ex_ite, ex_raise, ex_pass, ex_cont, ex_app, ex_sub, exs0, exs, condR_bl, condS_bl, notR_bl, andR_bl, orR_bl, condC_bl, chR_bl, bind_ok, bind_err, bind_bad, bind_if, toS_ok, toS_err, toS_if, sbind_nx, sbind_rt, sbind_ct, sbind_er, sbind_if, ofO_some, ofO_if, ofO_none, putR_some, getS_z, getS_s, vS_fz, vS_own, appR_own, appR_ino, parS, open_no, open_fz, open_own, mut_own, mut_ino, loose_no, loose_fz, val_fz, val_own, val_ino, val_lent, As.bs, As.mask, nodupB, endS_rt, endS_nx, endS_er, endS_if, outE_some, outS_nil, outS_f, outS_t, Tg.slots, Tg.slotss, Option.bind_some, It.lends, bodyP_some, body_eq, fbody_eq, fbodyP_some, D.isNon, o_add_i, o_add_l, o_add_t, o_add_s, o_sub_i, o_mul_i, o_fdiv, o_mod, o_pow, o_neg, o_inv, o_band, o_bor_i, o_shl, o_shr, o_eq_i, o_ne_i, o_eq_s, o_ne_s, o_lt_i, o_le_i, o_gt_i, o_ge_i, o_in_t, o_in_l, o_nin_t, o_nin_l, o_isn, o_isnn, o_isb, o_isnb, o_tup, o_lst, o_item_l, o_item_t, o_sl00, o_sl10, o_sl01, o_sl11, slX_l, slX_t, o_rev_l, o_rev_t, o_len_l, o_len_t, o_len_s, o_abs, o_int_i, o_int_b, o_sum, o_max1, o_min1, o_max2, o_min2, o_all_map, o_any_map, o_sorted_l, o_sorted_t, o_sorted_s, o_set_l, o_set_t, o_bor_s, o_tuple_l, o_tuple_t, o_list_l, o_list_t, o_list_scr, o_isint, o_isbool, o_isstr, o_istuple, o_islist, isO_non, isO_bl, isO_int, isO_str, isO_tup, isO_lst, o_isexc, o_tru_b, o_tru_i, o_tru_n, o_tru_l, o_tru_t, iterD_l, iterD_t, range1, range2, fin_ok, fin_err, fin_ok1, fin_err1, fin_if, withD_own, withD_ino, ml_own, ml_ino, unlend_nil, back_nil, store_eq, put_n, put_t, puts_nil, puts_cons, wipeR_eq, wipe_nil, wipe_cons, back_cons, cx_call, cx_lam, cx_noio, lim_lit, Int.toNat_natCast, cut_init, cut_from, cut_last, cut_but, at0, at1, at2, subR_ino0, subR_ino1, List.set_cons_zero, List.set_cons_succ, List.length_cons, List.length_nil, List.all_cons, List.all_nil, List.nil_append, List.cons_append, List.append_nil, List.map_cons, List.map_nil, List.elem_nil, not_true_eq_false, not_false_eq_true, Bool.and_true, Bool.true_and, Bool.and_self, Bool.not_true, Bool.not_false, Bool.and_false, Bool.false_and, Bool.or_true, Bool.true_or, Bool.or_false, Bool.false_or, Bool.or_self, decide_true, decide_false, decide_eq_true_eq, Bool.false_eq_true, if_true, if_false, ite_true, ite_false, Option.map_some, Option.map_none, Option.isSome_some, Nat.zero_add, Nat.reduceAdd, Nat.reduceLT, Nat.reduceLeDiff, Nat.reduceEqDiff, Nat.reduceBEq, Nat.reduceSub, Nat.reduceMul, Int.reduceLT, Int.reduceLE, Int.reduceAdd, Int.reduceSub, Int.reduceNeg, Int.reduceEq, Int.reduceMul, Int.reduceToNat, reduceIte, l3, l4, l8, q1, q2, e3]
      simp only [webD, ev_k, ev_v, ev_op, ev_bop, evB_one, evB_and, evB_or, ev_nt, ev_ite, ev_chain, ev_call, ev_fn, ev_as0, ev_asE, ev_asB, ev_cs0, ev_cs, ev_iE, ev_iB, ev_iR, ev_iN, ev_iZ, ev_iV, ev_comp, ex_for, ev_conv, convR_range, lendR_some, ex_asg, ex_par, ex_tup, ex_ex, ex_ret, ex_retN, ex_ite, ex_raise, ex_pass, ex_cont, ex_app, ex_sub, exs0, exs, condR_bl, condS_bl, notR_bl, andR_bl, orR_bl, condC_bl, chR_bl, bind_ok, bind_err, bind_bad, bind_if, toS_ok, toS_err, toS_if, sbind_nx, sbind_rt, sbind_ct, sbind_er, sbind_if, ofO_some, ofO_if, ofO_none, putR_some, getS_z, getS_s, vS_fz, vS_own, appR_own, appR_ino, parS, open_no, open_fz, open_own, mut_own, mut_ino, loose_no, loose_fz, val_fz, val_own, val_ino, val_lent, As.bs, As.mask, nodupB, endS_rt, endS_nx, endS_er, endS_if, outE_some, outS_nil, outS_f, outS_t, Tg.slots, Tg.slotss, Option.bind_some, It.lends, bodyP_some, body_eq, fbody_eq, fbodyP_some, D.isNon, o_add_i, o_add_l, o_add_t, o_add_s, o_sub_i, o_mul_i, o_fdiv, o_mod, o_pow, o_neg, o_inv, o_band, o_bor_i, o_shl, o_shr, o_eq_i, o_ne_i, o_eq_s, o_ne_s, o_lt_i, o_le_i, o_gt_i, o_ge_i, o_in_t, o_in_l, o_nin_t, o_nin_l, o_isn, o_isnn, o_isb, o_isnb, o_tup, o_lst, o_item_l, o_item_t, o_sl00, o_sl10, o_sl01, o_sl11, slX_l, slX_t, o_rev_l, o_rev_t, o_len_l, o_len_t, o_len_s, o_abs, o_int_i, o_int_b, o_sum, o_max1, o_min1, o_max2, o_min2, o_all_map, o_any_map, o_sorted_l, o_sorted_t, o_sorted_s, o_set_l, o_set_t, o_bor_s, o_tuple_l, o_tuple_t, o_list_l, o_list_t, o_list_scr, o_isint, o_isbool, o_isstr, o_istuple, o_islist, isO_non, isO_bl, isO_int, isO_str, isO_tup, isO_lst, o_isexc, o_tru_b, o_tru_i, o_tru_n, o_tru_l, o_tru_t, iterD_l, iterD_t, range1, range2, fin_ok, fin_err, fin_ok1, fin_err1, fin_if, withD_own, withD_ino, ml_own, ml_ino, unlend_nil, back_nil, store_eq, put_n, put_t, puts_nil, puts_cons, wipeR_eq, wipe_nil, wipe_cons, back_cons, cx_call, cx_lam, cx_noio, lim_lit, Int.toNat_natCast, cut_init, cut_from, cut_last, cut_but, at0, at1, at2, subR_ino0, subR_ino1, List.set_cons_zero, List.set_cons_succ, List.length_cons, List.length_nil, List.all_cons, List.all_nil, List.nil_append, List.cons_append, List.append_nil, List.map_cons, List.map_nil, List.elem_nil, not_true_eq_false, not_false_eq_true, Bool.and_true, Bool.true_and, Bool.and_self, Bool.not_true, Bool.not_false, Bool.and_false, Bool.false_and, Bool.or_true, Bool.true_or, Bool.or_false, Bool.false_or, Bool.or_self, decide_true, decide_false, decide_eq_true_eq, Bool.false_eq_true, if_true, if_false, ite_true, ite_false, Option.map_some, Option.map_none, Option.isSome_some, Nat.zero_add, Nat.reduceAdd, Nat.reduceLT, Nat.reduceLeDiff, Nat.reduceEqDiff, Nat.reduceBEq, Nat.reduceSub, Nat.reduceMul, Int.reduceLT, Int.reduceLE, Int.reduceAdd, Int.reduceSub, Int.reduceNeg, Int.reduceEq, Int.reduceMul, Int.reduceToNat, reduceIte, web_item hl, q3, e3]
      exact ⟨_, rfl, ⟨Slot.fz (D.int i), Slot.fz (D.lst ((hears w i).map nD)), x8, rfl, rfl, rfl, l8⟩⟩)
  obtain ⟨r2, c3, e3, r20, r21, hc3⟩ := law_roll_ok (n := n + 18) hc2 (m := w.length) (by omega) (by omega)
  obtain ⟨o, ho⟩ : ∃ o : Nat, r2 = o := ⟨r2.toNat, by omega⟩
  subst ho
  obtain ⟨l, hl⟩ : ∃ l, w[o]? = some l := ⟨w[o]'(by omega), List.getElem?_eq_getElem _⟩
  have hlo := hw.lot l (List.mem_of_getElem? hl)
  have hmem : o ∈ l := hw.own o l hl
  have hll : l.length ≤ 12 := by have := lot_len hlo; omega
  have hlp : 1 ≤ l.length := List.length_pos_of_mem hmem
  have hwlen : (w.map lotD).length = w.length := by rw [List.length_map]
  have hw12 := hw.le
  have hbig : ∀ k, k ≤ 100 → l.length + k ≤ 16777216 := fun k hk => by omega
  rcases Nat.lt_or_ge 1 l.length with hlen | hlen
  all_goals
    first
    | have hcond : (1 < (l.length : Int)) = True := eq_true (by omega)
    | have hcond : (1 < (l.length : Int)) = False := eq_false (by omega)
    simp -implicitDefEqProofs only [ev_k, ev_v, ev_op, ev_bop, evB_one, evB_and, evB_or, ev_nt, ev_ite, ev_chain, ev_call, ev_fn, ev_as0, ev_asE, ev_asB, ev_cs0, ev_cs, ev_iE, ev_iB, ev_iR, ev_iN, ev_iZ, ev_iV, ev_comp, ex_for, ev_conv, convR_range, lendR_some, ex_asg, ex_par, ex_tup, ex_ex, ex_ret, ex_retN, ex_ite, ex_raise, ex_pass, ex_cont, ex_app, ex_sub, exs0, exs, condR_bl, condS_bl, notR_bl, andR_bl, orR_bl, condC_bl, chR_bl, bind_ok, bind_err, bind_bad, bind_if, toS_ok, toS_err, toS_if, sbind_nx, sbind_rt, sbind_ct, sbind_er, sbind_if, ofO_some, ofO_if, ofO_none, putR_some, getS_z, getS_s, vS_fz, vS_own, appR_own, appR_ino, parS, open_no, open_fz, open_own, mut_own, mut_ino, loose_no, loose_fz, val_fz, val_own, val_ino, val_lent, As.bs, As.mask, nodupB, endS_rt, endS_nx, endS_er, endS_if, outE_some, outS_nil, outS_f, outS_t, Tg.slots, Tg.slotss, Option.bind_some, It.lends, bodyP_some, body_eq, fbody_eq, fbodyP_some, D.isNon, o_add_i, o_add_l, o_add_t, o_add_s, o_sub_i, o_mul_i, o_fdiv, o_mod, o_pow, o_neg, o_inv, o_band, o_bor_i, o_shl, o_shr, o_eq_i, o_ne_i, o_eq_s, o_ne_s, o_lt_i, o_le_i, o_gt_i, o_ge_i, o_in_t, o_in_l, o_nin_t, o_nin_l, o_isn, o_isnn, o_isb, o_isnb, o_tup, o_lst, o_item_l, o_item_t, o_sl00, o_sl10, o_sl01, o_sl11, slX_l, slX_t, o_rev_l, o_rev_t, o_len_l, o_len_t, o_len_s, o_abs, o_int_i, o_int_b, o_sum, o_max1, o_min1, o_max2, o_min2, o_all_map, o_any_map, o_sorted_l, o_sorted_t, o_sorted_s, o_set_l, o_set_t, o_bor_s, o_tuple_l, o_tuple_t, o_list_l, o_list_t, o_list_scr, o_isint, o_isbool, o_isstr, o_istuple, o_islist, isO_non, isO_bl, isO_int, isO_str, isO_tup, isO_lst, o_isexc, o_tru_b, o_tru_i, o_tru_n, o_tru_l, o_tru_t, iterD_l, iterD_t, range1, range2, fin_ok, fin_err, fin_ok1, fin_err1, fin_if, withD_own, withD_ino, ml_own, ml_ino, unlend_nil, back_nil, store_eq, put_n, put_t, puts_nil, puts_cons, wipeR_eq, wipe_nil, wipe_cons, back_cons, cx_call, cx_lam, cx_noio, lim_lit, Int.toNat_natCast, cut_init, cut_from, cut_last, cut_but, at0, at1, at2, subR_ino0, subR_ino1, List.set_cons_zero, List.set_cons_succ, List.length_cons, List.length_nil, List.all_cons, List.all_nil, List.nil_append, List.cons_append, List.append_nil, List.map_cons, List.map_nil, List.elem_nil, not_true_eq_false, not_false_eq_true, Bool.and_true, Bool.true_and, Bool.and_self, Bool.not_true, Bool.not_false, Bool.and_false, Bool.false_and, Bool.or_true, Bool.true_or, Bool.or_false, Bool.false_or, Bool.or_self, decide_true, decide_false, decide_eq_true_eq, Bool.false_eq_true, if_true, if_false, ite_true, ite_false, Option.map_some, Option.map_none, Option.isSome_some, Nat.zero_add, Nat.reduceAdd, Nat.reduceLT, Nat.reduceLeDiff, Nat.reduceEqDiff, Nat.reduceBEq, Nat.reduceSub, Nat.reduceMul, Int.reduceLT, Int.reduceLE, Int.reduceAdd, Int.reduceSub, Int.reduceNeg, Int.reduceEq, Int.reduceMul, Int.reduceToNat, reduceIte, l3, l4, l8, e3, webD, web_item hl, lotD]
    rw [loopC_filtL (fun x => !decide (x = o)) nD (fun x hx => by
      simp -implicitDefEqProofs only [ev_k, ev_v, ev_op, ev_bop, evB_one, evB_and, evB_or, ev_nt, ev_ite, ev_chain, ev_call, ev_fn, ev_as0, ev_asE, ev_asB, ev_cs0, ev_cs, ev_iE, ev_iB, ev_iR, ev_iN, ev_iZ, ev_iV, ev_comp, ex_for, ev_conv, convR_range, lendR_some, ex_asg, ex_par, ex_tup, ex_ex, ex_ret, ex_retN, ex_ite, ex_raise, ex_pass, ex_cont, ex_app, ex_sub, exs0, exs, condR_bl, condS_bl, notR_bl, andR_bl, orR_bl, condC_bl, chR_bl, bind_ok, bind_err, bind_bad, bind_if, toS_ok, toS_err, toS_if, sbind_nx, sbind_rt, sbind_ct, sbind_er, sbind_if, ofO_some, ofO_if, ofO_none, putR_some, getS_z, getS_s, vS_fz, vS_own, appR_own, appR_ino, parS, open_no, open_fz, open_own, mut_own, mut_ino, loose_no, loose_fz, val_fz, val_own, val_ino, val_lent, As.bs, As.mask, nodupB, endS_rt, endS_nx, endS_er, endS_if, outE_some, outS_nil, outS_f, outS_t, Tg.slots, Tg.slotss, Option.bind_some, It.lends, bodyP_some, body_eq, fbody_eq, fbodyP_some, D.isNon, o_add_i, o_add_l, o_add_t, o_add_s, o_sub_i, o_mul_i, o_fdiv, o_mod, o_pow, o_neg, o_inv, o_band, o_bor_i, o_shl, o_shr, o_eq_i, o_ne_i, o_eq_s, o_ne_s, o_lt_i, o_le_i, o_gt_i, o_ge_i, o_in_t, o_in_l, o_nin_t, o_nin_l, o_isn, o_isnn, o_isb, o_isnb, o_tup, o_lst, o_item_l, o_item_t, o_sl00, o_sl10, o_sl01, o_sl11, slX_l, slX_t, o_rev_l, o_rev_t, o_len_l, o_len_t, o_len_s, o_abs, o_int_i, o_int_b, o_sum, o_max1, o_min1, o_max2, o_min2, o_all_map, o_any_map, o_sorted_l, o_sorted_t, o_sorted_s, o_set_l, o_set_t, o_bor_s, o_tuple_l, o_tuple_t, o_list_l, o_list_t, o_list_scr, o_isint, o_isbool, o_isstr, o_istuple, o_islist, isO_non, isO_bl, isO_int, isO_str, isO_tup, isO_lst, o_isexc, o_tru_b, o_tru_i, o_tru_n, o_tru_l, o_tru_t, iterD_l, iterD_t, range1, range2, fin_ok, fin_err, fin_ok1, fin_err1, fin_if, withD_own, withD_ino, ml_own, ml_ino, unlend_nil, back_nil, store_eq, put_n, put_t, puts_nil, puts_cons, wipeR_eq, wipe_nil, wipe_cons, back_cons, cx_call, cx_lam, cx_noio, lim_lit, Int.toNat_natCast, cut_init, cut_from, cut_last, cut_but, at0, at1, at2, subR_ino0, subR_ino1, List.set_cons_zero, List.set_cons_succ, List.length_cons, List.length_nil, List.all_cons, List.all_nil, List.nil_append, List.cons_append, List.append_nil, List.map_cons, List.map_nil, List.elem_nil, not_true_eq_false, not_false_eq_true, Bool.and_true, Bool.true_and, Bool.and_self, Bool.not_true, Bool.not_false, Bool.and_false, Bool.false_and, Bool.or_true, Bool.true_or, Bool.or_false, Bool.false_or, Bool.or_self, decide_true, decide_false, decide_eq_true_eq, Bool.false_eq_true, if_true, if_false, ite_true, ite_false, Option.map_some, Option.map_none, Option.isSome_some, Nat.zero_add, Nat.reduceAdd, Nat.reduceLT, Nat.reduceLeDiff, Nat.reduceEqDiff, Nat.reduceBEq, Nat.reduceSub, Nat.reduceMul, Int.reduceLT, Int.reduceLE, Int.reduceAdd, Int.reduceSub, Int.reduceNeg, Int.reduceEq, Int.reduceMul, Int.reduceToNat, reduceIte, Int.natCast_inj]
      by_cases h : x = o <;> simp -implicitDefEqProofs only [ev_k, ev_v, ev_op, ev_bop, evB_one, evB_and, evB_or, ev_nt, ev_ite, ev_chain, ev_call, ev_fn, ev_as0, ev_asE, ev_asB, ev_cs0, ev_cs, ev_iE, ev_iB, ev_iR, ev_iN, ev_iZ, ev_iV, ev_comp, ex_for, ev_conv, convR_range, lendR_some, ex_asg, ex_par, ex_tup, ex_ex, ex_ret, ex_retN, ex_ite, ex_raise, ex_pass, ex_cont, ex_app, ex_sub, exs0, exs, condR_bl, condS_bl, notR_bl, andR_bl, orR_bl, condC_bl, chR_bl, bind_ok, bind_err, bind_bad, bind_if, toS_ok, toS_err, toS_if, sbind_nx, sbind_rt, sbind_ct, sbind_er, sbind_if, ofO_some, ofO_if, ofO_none, putR_some, getS_z, getS_s, vS_fz, vS_own, appR_own, appR_ino, parS, open_no, open_fz, open_own, mut_own, mut_ino, loose_no, loose_fz, val_fz, val_own, val_ino, val_lent, As.bs, As.mask, nodupB, endS_rt, endS_nx, endS_er, endS_if, outE_some, outS_nil, outS_f, outS_t, Tg.slots, Tg.slotss, Option.bind_some, It.lends, bodyP_some, body_eq, fbody_eq, fbodyP_some, D.isNon, o_add_i, o_add_l, o_add_t, o_add_s, o_sub_i, o_mul_i, o_fdiv, o_mod, o_pow, o_neg, o_inv, o_band, o_bor_i, o_shl, o_shr, o_eq_i, o_ne_i, o_eq_s, o_ne_s, o_lt_i, o_le_i, o_gt_i, o_ge_i, o_in_t, o_in_l, o_nin_t, o_nin_l, o_isn, o_isnn, o_isb, o_isnb, o_tup, o_lst, o_item_l, o_item_t, o_sl00, o_sl10, o_sl01, o_sl11, slX_l, slX_t, o_rev_l, o_rev_t, o_len_l, o_len_t, o_len_s, o_abs, o_int_i, o_int_b, o_sum, o_max1, o_min1, o_max2, o_min2, o_all_map, o_any_map, o_sorted_l, o_sorted_t, o_sorted_s, o_set_l, o_set_t, o_bor_s, o_tuple_l, o_tuple_t, o_list_l, o_list_t, o_list_scr, o_isint, o_isbool, o_isstr, o_istuple, o_islist, isO_non, isO_bl, isO_int, isO_str, isO_tup, isO_lst, o_isexc, o_tru_b, o_tru_i, o_tru_n, o_tru_l, o_tru_t, iterD_l, iterD_t, range1, range2, fin_ok, fin_err, fin_ok1, fin_err1, fin_if, withD_own, withD_ino, ml_own, ml_ino, unlend_nil, back_nil, store_eq, put_n, put_t, puts_nil, puts_cons, wipeR_eq, wipe_nil, wipe_cons, back_cons, cx_call, cx_lam, cx_noio, lim_lit, Int.toNat_natCast, cut_init, cut_from, cut_last, cut_but, at0, at1, at2, subR_ino0, subR_ino1, List.set_cons_zero, List.set_cons_succ, List.length_cons, List.length_nil, List.all_cons, List.all_nil, List.nil_append, List.cons_append, List.append_nil, List.map_cons, List.map_nil, List.elem_nil, not_true_eq_false, not_false_eq_true, Bool.and_true, Bool.true_and, Bool.and_self, Bool.not_true, Bool.not_false, Bool.and_false, Bool.false_and, Bool.or_true, Bool.true_or, Bool.or_false, Bool.false_or, Bool.or_self, decide_true, decide_false, decide_eq_true_eq, Bool.false_eq_true, if_true, if_false, ite_true, ite_false, Option.map_some, Option.map_none, Option.isSome_some, Nat.zero_add, Nat.reduceAdd, Nat.reduceLT, Nat.reduceLeDiff, Nat.reduceEqDiff, Nat.reduceBEq, Nat.reduceSub, Nat.reduceMul, Int.reduceLT, Int.reduceLE, Int.reduceAdd, Int.reduceSub, Int.reduceNeg, Int.reduceEq, Int.reduceMul, Int.reduceToNat, reduceIte, h]) (by rw [lim_lit]; omega)]
    simp -implicitDefEqProofs only [ev_k, ev_v, ev_op, ev_bop, evB_one, evB_and, evB_or, ev_nt, ev_ite, ev_chain, ev_call, ev_fn, ev_as0, ev_asE, ev_asB, ev_cs0, ev_cs, ev_iE, ev_iB, ev_iR, ev_iN, ev_iZ, ev_iV, ev_comp, ex_for, ev_conv, convR_range, lendR_some, ex_asg, ex_par, ex_tup, ex_ex, ex_ret, ex_retN, ex_ite, ex_raise, ex_pass, ex_cont, ex_app, ex_sub, exs0, exs, condR_bl, condS_bl, notR_bl, andR_bl, orR_bl, condC_bl, chR_bl, bind_ok, bind_err, bind_bad, bind_if, toS_ok, toS_err, toS_if, sbind_nx, sbind_rt, sbind_ct, sbind_er, sbind_if, ofO_some, ofO_if, ofO_none, putR_some, getS_z, getS_s, vS_fz, vS_own, appR_own, appR_ino, parS, open_no, open_fz, open_own, mut_own, mut_ino, loose_no, loose_fz, val_fz, val_own, val_ino, val_lent, As.bs, As.mask, nodupB, endS_rt, endS_nx, endS_er, endS_if, outE_some, outS_nil, outS_f, outS_t, Tg.slots, Tg.slotss, Option.bind_some, It.lends, bodyP_some, body_eq, fbody_eq, fbodyP_some, D.isNon, o_add_i, o_add_l, o_add_t, o_add_s, o_sub_i, o_mul_i, o_fdiv, o_mod, o_pow, o_neg, o_inv, o_band, o_bor_i, o_shl, o_shr, o_eq_i, o_ne_i, o_eq_s, o_ne_s, o_lt_i, o_le_i, o_gt_i, o_ge_i, o_in_t, o_in_l, o_nin_t, o_nin_l, o_isn, o_isnn, o_isb, o_isnb, o_tup, o_lst, o_item_l, o_item_t, o_sl00, o_sl10, o_sl01, o_sl11, slX_l, slX_t, o_rev_l, o_rev_t, o_len_l, o_len_t, o_len_s, o_abs, o_int_i, o_int_b, o_sum, o_max1, o_min1, o_max2, o_min2, o_all_map, o_any_map, o_sorted_l, o_sorted_t, o_sorted_s, o_set_l, o_set_t, o_bor_s, o_tuple_l, o_tuple_t, o_list_l, o_list_t, o_list_scr, o_isint, o_isbool, o_isstr, o_istuple, o_islist, isO_non, isO_bl, isO_int, isO_str, isO_tup, isO_lst, o_isexc, o_tru_b, o_tru_i, o_tru_n, o_tru_l, o_tru_t, iterD_l, iterD_t, range1, range2, fin_ok, fin_err, fin_ok1, fin_err1, fin_if, withD_own, withD_ino, ml_own, ml_ino, unlend_nil, back_nil, store_eq, put_n, put_t, puts_nil, puts_cons, wipeR_eq, wipe_nil, wipe_cons, back_cons, cx_call, cx_lam, cx_noio, lim_lit, Int.toNat_natCast, cut_init, cut_from, cut_last, cut_but, at0, at1, at2, subR_ino0, subR_ino1, List.set_cons_zero, List.set_cons_succ, List.length_cons, List.length_nil, List.all_cons, List.all_nil, List.nil_append, List.cons_append, List.append_nil, List.map_cons, List.map_nil, List.elem_nil, not_true_eq_false, not_false_eq_true, Bool.and_true, Bool.true_and, Bool.and_self, Bool.not_true, Bool.not_false, Bool.and_false, Bool.false_and, Bool.or_true, Bool.true_or, Bool.or_false, Bool.false_or, Bool.or_self, decide_true, decide_false, decide_eq_true_eq, Bool.false_eq_true, if_true, if_false, ite_true, ite_false, Option.map_some, Option.map_none, Option.isSome_some, Nat.zero_add, Nat.reduceAdd, Nat.reduceLT, Nat.reduceLeDiff, Nat.reduceEqDiff, Nat.reduceBEq, Nat.reduceSub, Nat.reduceMul, Int.reduceLT, Int.reduceLE, Int.reduceAdd, Int.reduceSub, Int.reduceNeg, Int.reduceEq, Int.reduceMul, Int.reduceToNat, reduceIte, l3, l4, l8, hcond, List.length_map, List.length_drop, List.length_take, hbig 1 (by omega), show 1 + l.length ≤ 16777216 by omega, show l.length + (l.length - (l.length - 1)) ≤ 16777216 by omega, show l.length - (l.length - 1) + min (l.length - 1) l.length ≤ 16777216 by omega]
    have hodds : (o : Int) + 1 = ((o + 1 : Nat) : Int) := rfl
    have hsz : ((w.map lotD).take o).length + 1 ≤ 16777216 := by rw [List.length_take]; omega
    have hsz2 : ((w.map lotD).take o).length + 1 + ((w.map lotD).drop (o + 1)).length ≤ 16777216 := by rw [List.length_take, List.length_drop]; omega
    have hws : (w.map lotD).length + 1 ≤ 16777216 := by omega
    have g1 := is_web_ok (n := n + 14) (small_okd (small_web (k := 1) hw)) (webD_sz hw)
    rw [isWeb_ok hw, webD] at g1
    have g2 := web_longer (n := n + 14) hw hl
    rw [lotD] at g2
    have g3 := web_list (n := n + 14) hw
    simp -implicitDefEqProofs only [ev_k, ev_v, ev_op, ev_bop, evB_one, evB_and, evB_or, ev_nt, ev_ite, ev_chain, ev_call, ev_fn, ev_as0, ev_asE, ev_asB, ev_cs0, ev_cs, ev_iE, ev_iB, ev_iR, ev_iN, ev_iZ, ev_iV, ev_comp, ex_for, ev_conv, convR_range, lendR_some, ex_asg, ex_par, ex_tup, ex_ex, ex_ret, ex_retN, ex_ite, ex_raise, ex_pass, ex_cont, ex_app, ex_sub, exs0, exs, condR_bl, condS_bl, notR_bl, andR_bl, orR_bl, condC_bl, chR_bl, bind_ok, bind_err, bind_bad, bind_if, toS_ok, toS_err, toS_if, sbind_nx, sbind_rt, sbind_ct, sbind_er, sbind_if, ofO_some, ofO_if, ofO_none, putR_some, getS_z, getS_s, vS_fz, vS_own, appR_own, appR_ino, parS, open_no, open_fz, open_own, mut_own, mut_ino, loose_no, loose_fz, val_fz, val_own, val_ino, val_lent, As.bs, As.mask, nodupB, endS_rt, endS_nx, endS_er, endS_if, outE_some, outS_nil, outS_f, outS_t, Tg.slots, Tg.slotss, Option.bind_some, It.lends, bodyP_some, body_eq, fbody_eq, fbodyP_some, D.isNon, o_add_i, o_add_l, o_add_t, o_add_s, o_sub_i, o_mul_i, o_fdiv, o_mod, o_pow, o_neg, o_inv, o_band, o_bor_i, o_shl, o_shr, o_eq_i, o_ne_i, o_eq_s, o_ne_s, o_lt_i, o_le_i, o_gt_i, o_ge_i, o_in_t, o_in_l, o_nin_t, o_nin_l, o_isn, o_isnn, o_isb, o_isnb, o_tup, o_lst, o_item_l, o_item_t, o_sl00, o_sl10, o_sl01, o_sl11, slX_l, slX_t, o_rev_l, o_rev_t, o_len_l, o_len_t, o_len_s, o_abs, o_int_i, o_int_b, o_sum, o_max1, o_min1, o_max2, o_min2, o_all_map, o_any_map, o_sorted_l, o_sorted_t, o_sorted_s, o_set_l, o_set_t, o_bor_s, o_tuple_l, o_tuple_t, o_list_l, o_list_t, o_list_scr, o_isint, o_isbool, o_isstr, o_istuple, o_islist, isO_non, isO_bl, isO_int, isO_str, isO_tup, isO_lst, o_isexc, o_tru_b, o_tru_i, o_tru_n, o_tru_l, o_tru_t, iterD_l, iterD_t, range1, range2, fin_ok, fin_err, fin_ok1, fin_err1, fin_if, withD_own, withD_ino, ml_own, ml_ino, unlend_nil, back_nil, store_eq, put_n, put_t, puts_nil, puts_cons, wipeR_eq, wipe_nil, wipe_cons, back_cons, cx_call, cx_lam, cx_noio, lim_lit, Int.toNat_natCast, cut_init, cut_from, cut_last, cut_but, at0, at1, at2, subR_ino0, subR_ino1, List.set_cons_zero, List.set_cons_succ, List.length_cons, List.length_nil, List.all_cons, List.all_nil, List.nil_append, List.cons_append, List.append_nil, List.map_cons, List.map_nil, List.elem_nil, not_true_eq_false, not_false_eq_true, Bool.and_true, Bool.true_and, Bool.and_self, Bool.not_true, Bool.not_false, Bool.and_false, Bool.false_and, Bool.or_true, Bool.true_or, Bool.or_false, Bool.false_or, Bool.or_self, decide_true, decide_false, decide_eq_true_eq, Bool.false_eq_true, if_true, if_false, ite_true, ite_false, Option.map_some, Option.map_none, Option.isSome_some, Nat.zero_add, Nat.reduceAdd, Nat.reduceLT, Nat.reduceLeDiff, Nat.reduceEqDiff, Nat.reduceBEq, Nat.reduceSub, Nat.reduceMul, Int.reduceLT, Int.reduceLE, Int.reduceAdd, Int.reduceSub, Int.reduceNeg, Int.reduceEq, Int.reduceMul, Int.reduceToNat, reduceIte, g1]
    have h7 := True.intro
    first
    | have h7 := odd_turn (n := n + 14) hw hl hlen
    | have h7 := odd_own (n := n + 14) hw (o := o) (by omega)
    rw [loopC_allP (fun x => Φ prog (n + 19) 9 [.tup ((w.map lotD).take o ++ [x] ++ (w.map lotD).drop (o + 1))] = .ok (.bl false) []) (fun _ => .bl false)
      ?_ (fun x hb => by simp -implicitDefEqProofs only [ev_k, ev_v, ev_op, ev_bop, evB_one, evB_and, evB_or, ev_nt, ev_ite, ev_chain, ev_call, ev_fn, ev_as0, ev_asE, ev_asB, ev_cs0, ev_cs, ev_iE, ev_iB, ev_iR, ev_iN, ev_iZ, ev_iV, ev_comp, ex_for, ev_conv, convR_range, lendR_some, ex_asg, ex_par, ex_tup, ex_ex, ex_ret, ex_retN, ex_ite, ex_raise, ex_pass, ex_cont, ex_app, ex_sub, exs0, exs, condR_bl, condS_bl, notR_bl, andR_bl, orR_bl, condC_bl, chR_bl, bind_ok, bind_err, bind_bad, bind_if, toS_ok, toS_err, toS_if, sbind_nx, sbind_rt, sbind_ct, sbind_er, sbind_if, ofO_some, ofO_if, ofO_none, putR_some, getS_z, getS_s, vS_fz, vS_own, appR_own, appR_ino, parS, open_no, open_fz, open_own, mut_own, mut_ino, loose_no, loose_fz, val_fz, val_own, val_ino, val_lent, As.bs, As.mask, nodupB, endS_rt, endS_nx, endS_er, endS_if, outE_some, outS_nil, outS_f, outS_t, Tg.slots, Tg.slotss, Option.bind_some, It.lends, bodyP_some, body_eq, fbody_eq, fbodyP_some, D.isNon, o_add_i, o_add_l, o_add_t, o_add_s, o_sub_i, o_mul_i, o_fdiv, o_mod, o_pow, o_neg, o_inv, o_band, o_bor_i, o_shl, o_shr, o_eq_i, o_ne_i, o_eq_s, o_ne_s, o_lt_i, o_le_i, o_gt_i, o_ge_i, o_in_t, o_in_l, o_nin_t, o_nin_l, o_isn, o_isnn, o_isb, o_isnb, o_tup, o_lst, o_item_l, o_item_t, o_sl00, o_sl10, o_sl01, o_sl11, slX_l, slX_t, o_rev_l, o_rev_t, o_len_l, o_len_t, o_len_s, o_abs, o_int_i, o_int_b, o_sum, o_max1, o_min1, o_max2, o_min2, o_all_map, o_any_map, o_sorted_l, o_sorted_t, o_sorted_s, o_set_l, o_set_t, o_bor_s, o_tuple_l, o_tuple_t, o_list_l, o_list_t, o_list_scr, o_isint, o_isbool, o_isstr, o_istuple, o_islist, isO_non, isO_bl, isO_int, isO_str, isO_tup, isO_lst, o_isexc, o_tru_b, o_tru_i, o_tru_n, o_tru_l, o_tru_t, iterD_l, iterD_t, range1, range2, fin_ok, fin_err, fin_ok1, fin_err1, fin_if, withD_own, withD_ino, ml_own, ml_ino, unlend_nil, back_nil, store_eq, put_n, put_t, puts_nil, puts_cons, wipeR_eq, wipe_nil, wipe_cons, back_cons, cx_call, cx_lam, cx_noio, lim_lit, Int.toNat_natCast, cut_init, cut_from, cut_last, cut_but, at0, at1, at2, subR_ino0, subR_ino1, List.set_cons_zero, List.set_cons_succ, List.length_cons, List.length_nil, List.all_cons, List.all_nil, List.nil_append, List.cons_append, List.append_nil, List.map_cons, List.map_nil, List.elem_nil, not_true_eq_false, not_false_eq_true, Bool.and_true, Bool.true_and, Bool.and_self, Bool.not_true, Bool.not_false, Bool.and_false, Bool.false_and, Bool.or_true, Bool.true_or, Bool.or_false, Bool.false_or, Bool.or_self, decide_true, decide_false, decide_eq_true_eq, Bool.false_eq_true, if_true, if_false, ite_true, ite_false, Option.map_some, Option.map_none, Option.isSome_some, Nat.zero_add, Nat.reduceAdd, Nat.reduceLT, Nat.reduceLeDiff, Nat.reduceEqDiff, Nat.reduceBEq, Nat.reduceSub, Nat.reduceMul, Int.reduceLT, Int.reduceLE, Int.reduceAdd, Int.reduceSub, Int.reduceNeg, Int.reduceEq, Int.reduceMul, Int.reduceToNat, reduceIte, List.length_append, hodds, hsz, hsz2, hb]) (by simp)]
    have hmul : opD .mul [.lst [.bl false], .int 10] = some (.lst [.bl false, .bl false, .bl false, .bl false, .bl false, .bl false, .bl false, .bl false, .bl false, .bl false]) := rfl
    have g4 := law_like_ok 1 (n := n + 16) (d := .lst [.bl true, .bl false, .bl false, .bl false, .bl false, .bl false, .bl false, .bl false, .bl false, .bl false, .bl false]) rfl (by decide)
    simp -implicitDefEqProofs only [ev_k, ev_v, ev_op, ev_bop, evB_one, evB_and, evB_or, ev_nt, ev_ite, ev_chain, ev_call, ev_fn, ev_as0, ev_asE, ev_asB, ev_cs0, ev_cs, ev_iE, ev_iB, ev_iR, ev_iN, ev_iZ, ev_iV, ev_comp, ex_for, ev_conv, convR_range, lendR_some, ex_asg, ex_par, ex_tup, ex_ex, ex_ret, ex_retN, ex_ite, ex_raise, ex_pass, ex_cont, ex_app, ex_sub, exs0, exs, condR_bl, condS_bl, notR_bl, andR_bl, orR_bl, condC_bl, chR_bl, bind_ok, bind_err, bind_bad, bind_if, toS_ok, toS_err, toS_if, sbind_nx, sbind_rt, sbind_ct, sbind_er, sbind_if, ofO_some, ofO_if, ofO_none, putR_some, getS_z, getS_s, vS_fz, vS_own, appR_own, appR_ino, parS, open_no, open_fz, open_own, mut_own, mut_ino, loose_no, loose_fz, val_fz, val_own, val_ino, val_lent, As.bs, As.mask, nodupB, endS_rt, endS_nx, endS_er, endS_if, outE_some, outS_nil, outS_f, outS_t, Tg.slots, Tg.slotss, Option.bind_some, It.lends, bodyP_some, body_eq, fbody_eq, fbodyP_some, D.isNon, o_add_i, o_add_l, o_add_t, o_add_s, o_sub_i, o_mul_i, o_fdiv, o_mod, o_pow, o_neg, o_inv, o_band, o_bor_i, o_shl, o_shr, o_eq_i, o_ne_i, o_eq_s, o_ne_s, o_lt_i, o_le_i, o_gt_i, o_ge_i, o_in_t, o_in_l, o_nin_t, o_nin_l, o_isn, o_isnn, o_isb, o_isnb, o_tup, o_lst, o_item_l, o_item_t, o_sl00, o_sl10, o_sl01, o_sl11, slX_l, slX_t, o_rev_l, o_rev_t, o_len_l, o_len_t, o_len_s, o_abs, o_int_i, o_int_b, o_sum, o_max1, o_min1, o_max2, o_min2, o_all_map, o_any_map, o_sorted_l, o_sorted_t, o_sorted_s, o_set_l, o_set_t, o_bor_s, o_tuple_l, o_tuple_t, o_list_l, o_list_t, o_list_scr, o_isint, o_isbool, o_isstr, o_istuple, o_islist, isO_non, isO_bl, isO_int, isO_str, isO_tup, isO_lst, o_isexc, o_tru_b, o_tru_i, o_tru_n, o_tru_l, o_tru_t, iterD_l, iterD_t, range1, range2, fin_ok, fin_err, fin_ok1, fin_err1, fin_if, withD_own, withD_ino, ml_own, ml_ino, unlend_nil, back_nil, store_eq, put_n, put_t, puts_nil, puts_cons, wipeR_eq, wipe_nil, wipe_cons, back_cons, cx_call, cx_lam, cx_noio, lim_lit, Int.toNat_natCast, cut_init, cut_from, cut_last, cut_but, at0, at1, at2, subR_ino0, subR_ino1, List.set_cons_zero, List.set_cons_succ, List.length_cons, List.length_nil, List.all_cons, List.all_nil, List.nil_append, List.cons_append, List.append_nil, List.map_cons, List.map_nil, List.elem_nil, not_true_eq_false, not_false_eq_true, Bool.and_true, Bool.true_and, Bool.and_self, Bool.not_true, Bool.not_false, Bool.and_false, Bool.false_and, Bool.or_true, Bool.true_or, Bool.or_false, Bool.false_or, Bool.or_self, decide_true, decide_false, decide_eq_true_eq, Bool.false_eq_true, if_true, if_false, ite_true, ite_false, Option.map_some, Option.map_none, Option.isSome_some, Nat.zero_add, Nat.reduceAdd, Nat.reduceLT, Nat.reduceLeDiff, Nat.reduceEqDiff, Nat.reduceBEq, Nat.reduceSub, Nat.reduceMul, Int.reduceLT, Int.reduceLE, Int.reduceAdd, Int.reduceSub, Int.reduceNeg, Int.reduceEq, Int.reduceMul, Int.reduceToNat, reduceIte, hws, g2, g3, hmul, g4]
    · exact ⟨_, rfl, hc3⟩
    · exact ⟨odd_less (n := n + 14) hw hl, odd_more (n := n + 14) hw hl, odd_neg (n := n + 14) hw hl, odd_dup (n := n + 14) hw hl, odd_else (n := n + 14) hw (by omega) (by rw [D.okd]; exact okd_nats) (fun _ e => by cases e), odd_else (n := n + 14) hw (by omega) rfl (fun _ e => by cases e), h7, odd_none (n := n + 14) hw hl, trivial⟩

/-! ### drawn lots -/
theorem lot_ok {n m : Nat} {l : List Nat} (hm : 1 ≤ m) (h12 : m ≤ 12) (hl : l.length ≤ 16777216) : Φ prog (n + 4) 10 [nD m, .tup (l.map nD)] = .ok (.bl (isLot m (lotD l))) [] :=
  is_lot_ok (by simp only [isWh, Bool.and_eq_true, decide_eq_true_eq]; omega) (by rw [D.okd]; exact okd_nats) (fun es e => by cases e; rw [List.length_map]; exact hl)
theorem lot_neg {n m : Nat} {l : List Nat} (hm : 1 ≤ m) (h12 : m ≤ 12) (hl : l.length ≤ 16777000) : Φ prog (n + 4) 10 [nD m, .tup (.int (-1) :: l.map nD)] = .ok (.bl false) [] := by
  rw [is_lot_ok (by simp only [isWh, Bool.and_eq_true, decide_eq_true_eq]; omega) (by rw [D.okd, List.all_cons, okd_nats]; rfl) (fun es e => by cases e; rw [List.length_cons, List.length_map]; omega)]
  cases q : isLot (m : Int) (.tup (.int (-1) :: l.map nD)) with
  | false => rfl
  | true => exact not_lot (x := .int (-1)) (by simp) (by simp [isWh]) q
theorem lot_lst {n m : Nat} {ds : List D} (hm : 1 ≤ m) (h12 : m ≤ 12) (h : D.okd 2 (.lst ds) = true) : Φ prog (n + 4) 10 [nD m, .lst ds] = .ok (.bl false) [] := by
  rw [is_lot_ok (by simp only [isWh, Bool.and_eq_true, decide_eq_true_eq]; omega) h (fun es e => by cases e)]; rfl
theorem lot_odd {n m : Nat} {d : D} (hm : 1 ≤ m) (h12 : m ≤ 12) (h : D.okd 1 d = true) (hw : isWh 0 (m - 1) d = false) : Φ prog (n + 4) 10 [nD m, .tup [d]] = .ok (.bl false) [] := by
  rw [is_lot_ok (by simp only [isWh, Bool.and_eq_true, decide_eq_true_eq]; omega) (by rw [D.okd, List.all_cons, h]; rfl) (fun es e => by cases e; simp)]
  cases q : isLot (m : Int) (.tup [d]) with
  | false => rfl
  | true => exact not_lot (x := d) (by simp) hw q
theorem isLot_false {m : Nat} {l : List Nat} (h : ¬ LotOk m l) : isLot m (lotD l) = false := by
  cases q : isLot m (lotD l) with
  | false => rfl
  | true => exact absurd (isLot_nat.mp q) h
theorem map_cons0 (l : List Nat) : D.int 0 :: l.map nD = (0 :: l).map nD := rfl
theorem map_snoc (l : List Nat) (m : Nat) : l.map nD ++ [nD m] = (l ++ [m]).map nD := by simp
/-- all of so many -/
def upTo (m : Nat) : List Nat := List.range m
theorem law_lots_ok {n : Nat} {c : D} (h : CupOk c) : ∃ c', Φ prog (n + 20) 22 [c] = .ok (.bl true) [c'] ∧ CupOk c' := by
  obtain ⟨r, c1, e1, r0, r1, hc1⟩ := law_roll_ok (n := n + 18) h (show (1 : Int) ≤ 12 by decide) (by decide)
  obtain ⟨m, hm⟩ : ∃ m : Nat, 1 + r = m := ⟨(1 + r).toNat, by omega⟩
  have hm1 : 1 ≤ m := by omega
  have hm12 : m ≤ 12 := by omega
  rw [u22, k22]
  simp -implicitDefEqProofs only [ev_k, ev_v, ev_op, ev_bop, evB_one, evB_and, evB_or, ev_nt, ev_ite, ev_chain, ev_call, ev_fn, ev_as0, ev_asE, ev_asB, ev_cs0, ev_cs, ev_iE, ev_iB, ev_iR, ev_iN, ev_iZ, ev_iV, ev_comp, ex_for, ev_conv, convR_range, lendR_some, ex_asg, ex_par, ex_tup, ex_ex, ex_ret, ex_retN, ex_ite, ex_raise, ex_pass, ex_cont, ex_app, ex_sub, exs0, exs, condR_bl, condS_bl, notR_bl, andR_bl, orR_bl, condC_bl, chR_bl, bind_ok, bind_err, bind_bad, bind_if, toS_ok, toS_err, toS_if, sbind_nx, sbind_rt, sbind_ct, sbind_er, sbind_if, ofO_some, ofO_if, ofO_none, putR_some, getS_z, getS_s, vS_fz, vS_own, appR_own, appR_ino, parS, open_no, open_fz, open_own, mut_own, mut_ino, loose_no, loose_fz, val_fz, val_own, val_ino, val_lent, As.bs, As.mask, nodupB, endS_rt, endS_nx, endS_er, endS_if, outE_some, outS_nil, outS_f, outS_t, Tg.slots, Tg.slotss, Option.bind_some, It.lends, bodyP_some, body_eq, fbody_eq, fbodyP_some, D.isNon, o_add_i, o_add_l, o_add_t, o_add_s, o_sub_i, o_mul_i, o_fdiv, o_mod, o_pow, o_neg, o_inv, o_band, o_bor_i, o_shl, o_shr, o_eq_i, o_ne_i, o_eq_s, o_ne_s, o_lt_i, o_le_i, o_gt_i, o_ge_i, o_in_t, o_in_l, o_nin_t, o_nin_l, o_isn, o_isnn, o_isb, o_isnb, o_tup, o_lst, o_item_l, o_item_t, o_sl00, o_sl10, o_sl01, o_sl11, slX_l, slX_t, o_rev_l, o_rev_t, o_len_l, o_len_t, o_len_s, o_abs, o_int_i, o_int_b, o_sum, o_max1, o_min1, o_max2, o_min2, o_all_map, o_any_map, o_sorted_l, o_sorted_t, o_sorted_s, o_set_l, o_set_t, o_bor_s, o_tuple_l, o_tuple_t, o_list_l, o_list_t, o_list_scr, o_isint, o_isbool, o_isstr, o_istuple, o_islist, isO_non, isO_bl, isO_int, isO_str, isO_tup, isO_lst, o_isexc, o_tru_b, o_tru_i, o_tru_n, o_tru_l, o_tru_t, iterD_l, iterD_t, range1, range2, fin_ok, fin_err, fin_ok1, fin_err1, fin_if, withD_own, withD_ino, ml_own, ml_ino, unlend_nil, back_nil, store_eq, put_n, put_t, puts_nil, puts_cons, wipeR_eq, wipe_nil, wipe_cons, back_cons, cx_call, cx_lam, cx_noio, lim_lit, Int.toNat_natCast, cut_init, cut_from, cut_last, cut_but, at0, at1, at2, subR_ino0, subR_ino1, List.set_cons_zero, List.set_cons_succ, List.length_cons, List.length_nil, List.all_cons, List.all_nil, List.nil_append, List.cons_append, List.append_nil, List.map_cons, List.map_nil, List.elem_nil, not_true_eq_false, not_false_eq_true, Bool.and_true, Bool.true_and, Bool.and_self, Bool.not_true, Bool.not_false, Bool.and_false, Bool.false_and, Bool.or_true, Bool.true_or, Bool.or_false, Bool.false_or, Bool.or_self, decide_true, decide_false, decide_eq_true_eq, Bool.false_eq_true, if_true, if_false, ite_true, ite_false, Option.map_some, Option.map_none, Option.isSome_some, Nat.zero_add, Nat.reduceAdd, Nat.reduceLT, Nat.reduceLeDiff, Nat.reduceEqDiff, Nat.reduceBEq, Nat.reduceSub, Nat.reduceMul, Int.reduceLT, Int.reduceLE, Int.reduceAdd, Int.reduceSub, Int.reduceNeg, Int.reduceEq, Int.reduceMul, Int.reduceToNat, reduceIte, e1, hm, inR_nat (n := m) (by omega)]
  generalize hz : loopC _ _ _ _ = z
  obtain ⟨ws, s', rfl, ⟨c2, l, rfl, rfl, hc2, hl⟩⟩ := loopC_key hz m
    (fun i acc s => ∃ c2 l, acc = l.map nD ∧ s = [Slot.ino c2, .fz (nD m), .no, .no, .no] ∧ CupOk c2 ∧ Drawn m i l)
    (by rw [rangeL_len]) (by omega) ⟨c1, [], rfl, rfl, hc1, .nil⟩ (fun i d acc s hd hJ => by
      obtain ⟨c2, l, rfl, rfl, hc2, hl⟩ := hJ
      obtain ⟨hi, rfl⟩ := rangeL_get hd
      obtain ⟨r2, c4, e4, q0, q1, hc4⟩ := law_roll_ok (n := n + 18) hc2 (show (1 : Int) ≤ 2 by decide) (by decide)
      simp -implicitDefEqProofs only [ev_k, ev_v, ev_op, ev_bop, evB_one, evB_and, evB_or, ev_nt, ev_ite, ev_chain, ev_call, ev_fn, ev_as0, ev_asE, ev_asB, ev_cs0, ev_cs, ev_iE, ev_iB, ev_iR, ev_iN, ev_iZ, ev_iV, ev_comp, ex_for, ev_conv, convR_range, lendR_some, ex_asg, ex_par, ex_tup, ex_ex, ex_ret, ex_retN, ex_ite, ex_raise, ex_pass, ex_cont, ex_app, ex_sub, exs0, exs, condR_bl, condS_bl, notR_bl, andR_bl, orR_bl, condC_bl, chR_bl, bind_ok, bind_err, bind_bad, bind_if, toS_ok, toS_err, toS_if, sbind_nx, sbind_rt, sbind_ct, sbind_er, sbind_if, ofO_some, ofO_if, ofO_none, putR_some, getS_z, getS_s, vS_fz, vS_own, appR_own, appR_ino, parS, open_no, open_fz, open_own, mut_own, mut_ino, loose_no, loose_fz, val_fz, val_own, val_ino, val_lent, As.bs, As.mask, nodupB, endS_rt, endS_nx, endS_er, endS_if, outE_some, outS_nil, outS_f, outS_t, Tg.slots, Tg.slotss, Option.bind_some, It.lends, bodyP_some, body_eq, fbody_eq, fbodyP_some, D.isNon, o_add_i, o_add_l, o_add_t, o_add_s, o_sub_i, o_mul_i, o_fdiv, o_mod, o_pow, o_neg, o_inv, o_band, o_bor_i, o_shl, o_shr, o_eq_i, o_ne_i, o_eq_s, o_ne_s, o_lt_i, o_le_i, o_gt_i, o_ge_i, o_in_t, o_in_l, o_nin_t, o_nin_l, o_isn, o_isnn, o_isb, o_isnb, o_tup, o_lst, o_item_l, o_item_t, o_sl00, o_sl10, o_sl01, o_sl11, slX_l, slX_t, o_rev_l, o_rev_t, o_len_l, o_len_t, o_len_s, o_abs, o_int_i, o_int_b, o_sum, o_max1, o_min1, o_max2, o_min2, o_all_map, o_any_map, o_sorted_l, o_sorted_t, o_sorted_s, o_set_l, o_set_t, o_bor_s, o_tuple_l, o_tuple_t, o_list_l, o_list_t, o_list_scr, o_isint, o_isbool, o_isstr, o_istuple, o_islist, isO_non, isO_bl, isO_int, isO_str, isO_tup, isO_lst, o_isexc, o_tru_b, o_tru_i, o_tru_n, o_tru_l, o_tru_t, iterD_l, iterD_t, range1, range2, fin_ok, fin_err, fin_ok1, fin_err1, fin_if, withD_own, withD_ino, ml_own, ml_ino, unlend_nil, back_nil, store_eq, put_n, put_t, puts_nil, puts_cons, wipeR_eq, wipe_nil, wipe_cons, back_cons, cx_call, cx_lam, cx_noio, lim_lit, Int.toNat_natCast, cut_init, cut_from, cut_last, cut_but, at0, at1, at2, subR_ino0, subR_ino1, List.set_cons_zero, List.set_cons_succ, List.length_cons, List.length_nil, List.all_cons, List.all_nil, List.nil_append, List.cons_append, List.append_nil, List.map_cons, List.map_nil, List.elem_nil, not_true_eq_false, not_false_eq_true, Bool.and_true, Bool.true_and, Bool.and_self, Bool.not_true, Bool.not_false, Bool.and_false, Bool.false_and, Bool.or_true, Bool.true_or, Bool.or_false, Bool.false_or, Bool.or_self, decide_true, decide_false, decide_eq_true_eq, Bool.false_eq_true, if_true, if_false, ite_true, ite_false, Option.map_some, Option.map_none, Option.isSome_some, Nat.zero_add, Nat.reduceAdd, Nat.reduceLT, Nat.reduceLeDiff, Nat.reduceEqDiff, Nat.reduceBEq, Nat.reduceSub, Nat.reduceMul, Int.reduceLT, Int.reduceLE, Int.reduceAdd, Int.reduceSub, Int.reduceNeg, Int.reduceEq, Int.reduceMul, Int.reduceToNat, reduceIte, e4, Int.zero_add]
      split
      · exact ⟨_, _, rfl, c4, l ++ [i], by simp, rfl, hc4, hl.snoc⟩
      · exact ⟨_, _, rfl, c4, l, by simp, rfl, hc4, hl.skip (by omega)⟩)
  have hlo : LotOk m l := ⟨hl.asc, hl.lt⟩
  have hll := lot_len hlo
  have f1 : isLot m (lotD l) = true := isLot_nat.mpr hlo
  have f2 : isLot m (lotD (l ++ [m])) = false := isLot_false fun q => by
    have := q.lt m (by simp)
    omega
  have f3 : isLot m (lotD (0 :: l)) = !decide (0 ∈ l) := by
    by_cases h0 : 0 ∈ l
    · rw [decide_eq_true h0]
      exact isLot_false fun q => by
        have := (List.pairwise_cons.mp q.asc).1 0 h0
        omega
    · rw [decide_eq_false h0]
      refine isLot_nat.mpr ⟨List.pairwise_cons.mpr ⟨fun x hx => ?_, hl.asc⟩, fun x hx => ?_⟩
      · rcases Nat.eq_zero_or_pos x with rfl | hp
        · exact absurd hx h0
        · exact hp
      · rcases List.mem_cons.mp hx with rfl | hx
        · omega
        · exact hl.lt x hx
  have f4 : isLot m (lotD l.reverse) = decide ((l.length : Int) < 2) := by
    by_cases h2 : (l.length : Int) < 2
    · rw [decide_eq_true h2]
      refine isLot_nat.mpr ⟨?_, fun x hx => hl.lt x (List.mem_reverse.mp hx)⟩
      match l, h2 with
      | [], _ => exact .nil
      | [_], _ => exact List.pairwise_singleton _ _
      | _ :: _ :: _, h2 => simp only [List.length_cons] at h2; omega
    · rw [decide_eq_false h2]
      refine isLot_false fun q => ?_
      match l, h2, q.asc, hl.asc with
      | [], h2, _, _ => simp at h2
      | [_], h2, _, _ => simp at h2
      | a :: b :: t, _, q1, q2 =>
        rw [List.pairwise_reverse] at q1
        have h1 := (List.pairwise_cons.mp q1).1 b List.mem_cons_self
        have h2 := (List.pairwise_cons.mp q2).1 b List.mem_cons_self
        omega
  have g1 := lot_ok (n := n + 15) hm1 hm12 (l := l) (by omega)
  have g2 := lot_ok (n := n + 15) hm1 hm12 (l := l ++ [m]) (by simp; omega)
  have g3 := lot_ok (n := n + 15) hm1 hm12 (l := 0 :: l) (by simp; omega)
  have g4 := lot_lst (n := n + 15) hm1 hm12 (ds := l.map nD) (by rw [D.okd]; exact okd_nats)
  have g5 := lot_neg (n := n + 15) hm1 hm12 (l := l) (by omega)
  have g6 := lot_ok (n := n + 15) hm1 hm12 (l := l.reverse) (by simp; omega)
  rw [f1] at g1
  rw [f2, ← map_snoc] at g2
  rw [f3, ← map_cons0] at g3
  rw [f4, List.map_reverse] at g6
  have g7 : Φ prog (n + 19) 10 [.int 12, .tup (rangeL 0 12)] = .ok (.bl true) [] := by
    rw [rangeL0]
    exact (lot_ok (n := n + 15) (m := 12) (by omega) (by omega) (l := List.range 12) (by simp)).trans (by rw [show isLot ((12 : Nat) : Int) (lotD (List.range 12)) = true from by decide +kernel])
  have g8 : Φ prog (n + 19) 10 [.int 12, .tup (rangeL 0 13)] = .ok (.bl false) [] := by
    rw [rangeL0]
    exact (lot_ok (n := n + 15) (m := 12) (by omega) (by omega) (l := List.range 13) (by simp)).trans (by rw [show isLot ((12 : Nat) : Int) (lotD (List.range 13)) = false from by decide +kernel])
  have g9 := lot_odd (n := n + 15) hm1 hm12 (d := .bl false) rfl rfl
  have g10 := lot_odd (n := n + 15) hm1 hm12 (d := .str [48]) rfl rfl
  have e0 : ((l.map nD).any fun y => D.eqv y (.int 0)) = decide (0 ∈ l) := memD_nat (i := 0)
  have g11 := law_like_ok 1 (n := n + 16) (d := .lst [.bl true, .bl false, .bl (!decide (0 ∈ l)), .bl false, .bl false, .bl (decide ((l.length : Int) < 2))]) rfl (by decide)
  have g12 := law_like_ok 1 (n := n + 16) (d := .lst [.bl true, .bl false, .bl false, .bl false]) rfl (by decide)
  simp -implicitDefEqProofs only [ev_k, ev_v, ev_op, ev_bop, evB_one, evB_and, evB_or, ev_nt, ev_ite, ev_chain, ev_call, ev_fn, ev_as0, ev_asE, ev_asB, ev_cs0, ev_cs, ev_iE, ev_iB, ev_iR, ev_iN, ev_iZ, ev_iV, ev_comp, ex_for, ev_conv, convR_range, lendR_some, ex_asg, ex_par, ex_tup, ex_ex, ex_ret, ex_retN, ex_ite, ex_raise, ex_pass, ex_cont, ex_app, ex_sub, exs0, exs, condR_bl, condS_bl, notR_bl, andR_bl, orR_bl, condC_bl, chR_bl, bind_ok, bind_err, bind_bad, bind_if, toS_ok, toS_err, toS_if, sbind_nx, sbind_rt, sbind_ct, sbind_er, sbind_if, ofO_some, ofO_if, ofO_none, putR_some, getS_z, getS_s, vS_fz, vS_own, appR_own, appR_ino, parS, open_no, open_fz, open_own, mut_own, mut_ino, loose_no, loose_fz, val_fz, val_own, val_ino, val_lent, As.bs, As.mask, nodupB, endS_rt, endS_nx, endS_er, endS_if, outE_some, outS_nil, outS_f, outS_t, Tg.slots, Tg.slotss, Option.bind_some, It.lends, bodyP_some, body_eq, fbody_eq, fbodyP_some, D.isNon, o_add_i, o_add_l, o_add_t, o_add_s, o_sub_i, o_mul_i, o_fdiv, o_mod, o_pow, o_neg, o_inv, o_band, o_bor_i, o_shl, o_shr, o_eq_i, o_ne_i, o_eq_s, o_ne_s, o_lt_i, o_le_i, o_gt_i, o_ge_i, o_in_t, o_in_l, o_nin_t, o_nin_l, o_isn, o_isnn, o_isb, o_isnb, o_tup, o_lst, o_item_l, o_item_t, o_sl00, o_sl10, o_sl01, o_sl11, slX_l, slX_t, o_rev_l, o_rev_t, o_len_l, o_len_t, o_len_s, o_abs, o_int_i, o_int_b, o_sum, o_max1, o_min1, o_max2, o_min2, o_all_map, o_any_map, o_sorted_l, o_sorted_t, o_sorted_s, o_set_l, o_set_t, o_bor_s, o_tuple_l, o_tuple_t, o_list_l, o_list_t, o_list_scr, o_isint, o_isbool, o_isstr, o_istuple, o_islist, isO_non, isO_bl, isO_int, isO_str, isO_tup, isO_lst, o_isexc, o_tru_b, o_tru_i, o_tru_n, o_tru_l, o_tru_t, iterD_l, iterD_t, range1, range2, fin_ok, fin_err, fin_ok1, fin_err1, fin_if, withD_own, withD_ino, ml_own, ml_ino, unlend_nil, back_nil, store_eq, put_n, put_t, puts_nil, puts_cons, wipeR_eq, wipe_nil, wipe_cons, back_cons, cx_call, cx_lam, cx_noio, lim_lit, Int.toNat_natCast, cut_init, cut_from, cut_last, cut_but, at0, at1, at2, subR_ino0, subR_ino1, List.set_cons_zero, List.set_cons_succ, List.length_cons, List.length_nil, List.all_cons, List.all_nil, List.nil_append, List.cons_append, List.append_nil, List.map_cons, List.map_nil, List.elem_nil, not_true_eq_false, not_false_eq_true, Bool.and_true, Bool.true_and, Bool.and_self, Bool.not_true, Bool.not_false, Bool.and_false, Bool.false_and, Bool.or_true, Bool.true_or, Bool.or_false, Bool.false_or, Bool.or_self, decide_true, decide_false, decide_eq_true_eq, Bool.false_eq_true, if_true, if_false, ite_true, ite_false, Option.map_some, Option.map_none, Option.isSome_some, Nat.zero_add, Nat.reduceAdd, Nat.reduceLT, Nat.reduceLeDiff, Nat.reduceEqDiff, Nat.reduceBEq, Nat.reduceSub, Nat.reduceMul, Int.reduceLT, Int.reduceLE, Int.reduceAdd, Int.reduceSub, Int.reduceNeg, Int.reduceEq, Int.reduceMul, Int.reduceToNat, reduceIte, List.length_map, show l.length + 1 ≤ 16777216 by omega, show 1 + l.length ≤ 16777216 by omega, g1, g2, g3, g4, g5, g6, okd5, okd_lot, e0, g11, show inR 12 = true from rfl, show inR 13 = true from rfl, rangeL_len, g7, g8, g9, g10, g12]
  exact ⟨_, rfl, hc2⟩

/-! ### all rows of few members -/
theorem lot_snoc {i : Nat} {l : List Nat} (h : LotOk i l) : LotOk (i + 1) (l ++ [i]) :=
  ⟨by
    rw [List.pairwise_append]
    exact ⟨h.asc, List.pairwise_singleton _ _, fun a ha b hb => by
      have : b = i := by simpa using hb
      have := h.lt a ha
      omega⟩, fun x hx => by
    rcases List.mem_append.mp hx with hx | hx
    · have := h.lt x hx; omega
    · have : x = i := by simpa using hx
      omega⟩
theorem lot_mono {i j : Nat} {l : List Nat} (h : LotOk i l) (hij : i ≤ j) : LotOk j l := ⟨h.asc, fun x hx => by have := h.lt x hx; omega⟩
theorem law_alllots_ok {n m : Nat} (hm : m ≤ 13) : ∃ ls : List (List Nat), Φ prog (n + 1) 18 [nD m] = .ok (.lst (ls.map lotD)) [] ∧ ls.length = 2 ^ m ∧ ∀ l ∈ ls, LotOk m l := by
  rw [u18, k18]
  simp -implicitDefEqProofs only [ev_k, ev_v, ev_op, ev_bop, evB_one, evB_and, evB_or, ev_nt, ev_ite, ev_chain, ev_call, ev_fn, ev_as0, ev_asE, ev_asB, ev_cs0, ev_cs, ev_iE, ev_iB, ev_iR, ev_iN, ev_iZ, ev_iV, ev_comp, ex_for, ev_conv, convR_range, lendR_some, ex_asg, ex_par, ex_tup, ex_ex, ex_ret, ex_retN, ex_ite, ex_raise, ex_pass, ex_cont, ex_app, ex_sub, exs0, exs, condR_bl, condS_bl, notR_bl, andR_bl, orR_bl, condC_bl, chR_bl, bind_ok, bind_err, bind_bad, bind_if, toS_ok, toS_err, toS_if, sbind_nx, sbind_rt, sbind_ct, sbind_er, sbind_if, ofO_some, ofO_if, ofO_none, putR_some, getS_z, getS_s, vS_fz, vS_own, appR_own, appR_ino, parS, open_no, open_fz, open_own, mut_own, mut_ino, loose_no, loose_fz, val_fz, val_own, val_ino, val_lent, As.bs, As.mask, nodupB, endS_rt, endS_nx, endS_er, endS_if, outE_some, outS_nil, outS_f, outS_t, Tg.slots, Tg.slotss, Option.bind_some, It.lends, bodyP_some, body_eq, fbody_eq, fbodyP_some, D.isNon, o_add_i, o_add_l, o_add_t, o_add_s, o_sub_i, o_mul_i, o_fdiv, o_mod, o_pow, o_neg, o_inv, o_band, o_bor_i, o_shl, o_shr, o_eq_i, o_ne_i, o_eq_s, o_ne_s, o_lt_i, o_le_i, o_gt_i, o_ge_i, o_in_t, o_in_l, o_nin_t, o_nin_l, o_isn, o_isnn, o_isb, o_isnb, o_tup, o_lst, o_item_l, o_item_t, o_sl00, o_sl10, o_sl01, o_sl11, slX_l, slX_t, o_rev_l, o_rev_t, o_len_l, o_len_t, o_len_s, o_abs, o_int_i, o_int_b, o_sum, o_max1, o_min1, o_max2, o_min2, o_all_map, o_any_map, o_sorted_l, o_sorted_t, o_sorted_s, o_set_l, o_set_t, o_bor_s, o_tuple_l, o_tuple_t, o_list_l, o_list_t, o_list_scr, o_isint, o_isbool, o_isstr, o_istuple, o_islist, isO_non, isO_bl, isO_int, isO_str, isO_tup, isO_lst, o_isexc, o_tru_b, o_tru_i, o_tru_n, o_tru_l, o_tru_t, iterD_l, iterD_t, range1, range2, fin_ok, fin_err, fin_ok1, fin_err1, fin_if, withD_own, withD_ino, ml_own, ml_ino, unlend_nil, back_nil, store_eq, put_n, put_t, puts_nil, puts_cons, wipeR_eq, wipe_nil, wipe_cons, back_cons, cx_call, cx_lam, cx_noio, lim_lit, Int.toNat_natCast, cut_init, cut_from, cut_last, cut_but, at0, at1, at2, subR_ino0, subR_ino1, List.set_cons_zero, List.set_cons_succ, List.length_cons, List.length_nil, List.all_cons, List.all_nil, List.nil_append, List.cons_append, List.append_nil, List.map_cons, List.map_nil, List.elem_nil, not_true_eq_false, not_false_eq_true, Bool.and_true, Bool.true_and, Bool.and_self, Bool.not_true, Bool.not_false, Bool.and_false, Bool.false_and, Bool.or_true, Bool.true_or, Bool.or_false, Bool.false_or, Bool.or_self, decide_true, decide_false, decide_eq_true_eq, Bool.false_eq_true, if_true, if_false, ite_true, ite_false, Option.map_some, Option.map_none, Option.isSome_some, Nat.zero_add, Nat.reduceAdd, Nat.reduceLT, Nat.reduceLeDiff, Nat.reduceEqDiff, Nat.reduceBEq, Nat.reduceSub, Nat.reduceMul, Int.reduceLT, Int.reduceLE, Int.reduceAdd, Int.reduceSub, Int.reduceNeg, Int.reduceEq, Int.reduceMul, Int.reduceToNat, reduceIte, inR_nat (n := m) (by omega)]
  generalize hz : loopF _ _ _ = z
  obtain ⟨s', rfl, ⟨ls, x2, rfl, h2, hl, hls⟩⟩ := loopF_keyN hz m
    (fun i s => ∃ (ls : List (List Nat)) (x2 : Slot), s = [.fz (nD m), .fz (.lst (ls.map lotD)), x2, .no] ∧ x2.open = true ∧ ls.length = 2 ^ i ∧ ∀ l ∈ ls, LotOk i l)
    (by rw [rangeL_len]) ⟨[[]], .no, rfl, rfl, rfl, fun l hl => by
      have : l = [] := by simpa using hl
      subst this
      exact ⟨.nil, fun _ h => by cases h⟩⟩ (fun i d s hd hJ => by
      obtain ⟨ls, x2, rfl, h2, hl, hls⟩ := hJ
      obtain ⟨hi, rfl⟩ := rangeL_get hd
      have hp : 2 ^ i ≤ 2 ^ 13 := Nat.pow_le_pow_right (by omega) (by omega)
      have hp : 2 ^ i ≤ 8192 := hp
      simp -implicitDefEqProofs only [ev_k, ev_v, ev_op, ev_bop, evB_one, evB_and, evB_or, ev_nt, ev_ite, ev_chain, ev_call, ev_fn, ev_as0, ev_asE, ev_asB, ev_cs0, ev_cs, ev_iE, ev_iB, ev_iR, ev_iN, ev_iZ, ev_iV, ev_comp, ex_for, ev_conv, convR_range, lendR_some, ex_asg, ex_par, ex_tup, ex_ex, ex_ret, ex_retN, ex_ite, ex_raise, ex_pass, ex_cont, ex_app, ex_sub, exs0, exs, condR_bl, condS_bl, notR_bl, andR_bl, orR_bl, condC_bl, chR_bl, bind_ok, bind_err, bind_bad, bind_if, toS_ok, toS_err, toS_if, sbind_nx, sbind_rt, sbind_ct, sbind_er, sbind_if, ofO_some, ofO_if, ofO_none, putR_some, getS_z, getS_s, vS_fz, vS_own, appR_own, appR_ino, parS, open_no, open_fz, open_own, mut_own, mut_ino, loose_no, loose_fz, val_fz, val_own, val_ino, val_lent, As.bs, As.mask, nodupB, endS_rt, endS_nx, endS_er, endS_if, outE_some, outS_nil, outS_f, outS_t, Tg.slots, Tg.slotss, Option.bind_some, It.lends, bodyP_some, body_eq, fbody_eq, fbodyP_some, D.isNon, o_add_i, o_add_l, o_add_t, o_add_s, o_sub_i, o_mul_i, o_fdiv, o_mod, o_pow, o_neg, o_inv, o_band, o_bor_i, o_shl, o_shr, o_eq_i, o_ne_i, o_eq_s, o_ne_s, o_lt_i, o_le_i, o_gt_i, o_ge_i, o_in_t, o_in_l, o_nin_t, o_nin_l, o_isn, o_isnn, o_isb, o_isnb, o_tup, o_lst, o_item_l, o_item_t, o_sl00, o_sl10, o_sl01, o_sl11, slX_l, slX_t, o_rev_l, o_rev_t, o_len_l, o_len_t, o_len_s, o_abs, o_int_i, o_int_b, o_sum, o_max1, o_min1, o_max2, o_min2, o_all_map, o_any_map, o_sorted_l, o_sorted_t, o_sorted_s, o_set_l, o_set_t, o_bor_s, o_tuple_l, o_tuple_t, o_list_l, o_list_t, o_list_scr, o_isint, o_isbool, o_isstr, o_istuple, o_islist, isO_non, isO_bl, isO_int, isO_str, isO_tup, isO_lst, o_isexc, o_tru_b, o_tru_i, o_tru_n, o_tru_l, o_tru_t, iterD_l, iterD_t, range1, range2, fin_ok, fin_err, fin_ok1, fin_err1, fin_if, withD_own, withD_ino, ml_own, ml_ino, unlend_nil, back_nil, store_eq, put_n, put_t, puts_nil, puts_cons, wipeR_eq, wipe_nil, wipe_cons, back_cons, cx_call, cx_lam, cx_noio, lim_lit, Int.toNat_natCast, cut_init, cut_from, cut_last, cut_but, at0, at1, at2, subR_ino0, subR_ino1, List.set_cons_zero, List.set_cons_succ, List.length_cons, List.length_nil, List.all_cons, List.all_nil, List.nil_append, List.cons_append, List.append_nil, List.map_cons, List.map_nil, List.elem_nil, not_true_eq_false, not_false_eq_true, Bool.and_true, Bool.true_and, Bool.and_self, Bool.not_true, Bool.not_false, Bool.and_false, Bool.false_and, Bool.or_true, Bool.true_or, Bool.or_false, Bool.false_or, Bool.or_self, decide_true, decide_false, decide_eq_true_eq, Bool.false_eq_true, if_true, if_false, ite_true, ite_false, Option.map_some, Option.map_none, Option.isSome_some, Nat.zero_add, Nat.reduceAdd, Nat.reduceLT, Nat.reduceLeDiff, Nat.reduceEqDiff, Nat.reduceBEq, Nat.reduceSub, Nat.reduceMul, Int.reduceLT, Int.reduceLE, Int.reduceAdd, Int.reduceSub, Int.reduceNeg, Int.reduceEq, Int.reduceMul, Int.reduceToNat, reduceIte, h2, Int.zero_add]
      rw [loopC_mapL (fun l => lotD (l ++ [i])) (fun l hl => by
        have hll := lot_len (hls l hl)
        simp -implicitDefEqProofs only [ev_k, ev_v, ev_op, ev_bop, evB_one, evB_and, evB_or, ev_nt, ev_ite, ev_chain, ev_call, ev_fn, ev_as0, ev_asE, ev_asB, ev_cs0, ev_cs, ev_iE, ev_iB, ev_iR, ev_iN, ev_iZ, ev_iV, ev_comp, ex_for, ev_conv, convR_range, lendR_some, ex_asg, ex_par, ex_tup, ex_ex, ex_ret, ex_retN, ex_ite, ex_raise, ex_pass, ex_cont, ex_app, ex_sub, exs0, exs, condR_bl, condS_bl, notR_bl, andR_bl, orR_bl, condC_bl, chR_bl, bind_ok, bind_err, bind_bad, bind_if, toS_ok, toS_err, toS_if, sbind_nx, sbind_rt, sbind_ct, sbind_er, sbind_if, ofO_some, ofO_if, ofO_none, putR_some, getS_z, getS_s, vS_fz, vS_own, appR_own, appR_ino, parS, open_no, open_fz, open_own, mut_own, mut_ino, loose_no, loose_fz, val_fz, val_own, val_ino, val_lent, As.bs, As.mask, nodupB, endS_rt, endS_nx, endS_er, endS_if, outE_some, outS_nil, outS_f, outS_t, Tg.slots, Tg.slotss, Option.bind_some, It.lends, bodyP_some, body_eq, fbody_eq, fbodyP_some, D.isNon, o_add_i, o_add_l, o_add_t, o_add_s, o_sub_i, o_mul_i, o_fdiv, o_mod, o_pow, o_neg, o_inv, o_band, o_bor_i, o_shl, o_shr, o_eq_i, o_ne_i, o_eq_s, o_ne_s, o_lt_i, o_le_i, o_gt_i, o_ge_i, o_in_t, o_in_l, o_nin_t, o_nin_l, o_isn, o_isnn, o_isb, o_isnb, o_tup, o_lst, o_item_l, o_item_t, o_sl00, o_sl10, o_sl01, o_sl11, slX_l, slX_t, o_rev_l, o_rev_t, o_len_l, o_len_t, o_len_s, o_abs, o_int_i, o_int_b, o_sum, o_max1, o_min1, o_max2, o_min2, o_all_map, o_any_map, o_sorted_l, o_sorted_t, o_sorted_s, o_set_l, o_set_t, o_bor_s, o_tuple_l, o_tuple_t, o_list_l, o_list_t, o_list_scr, o_isint, o_isbool, o_isstr, o_istuple, o_islist, isO_non, isO_bl, isO_int, isO_str, isO_tup, isO_lst, o_isexc, o_tru_b, o_tru_i, o_tru_n, o_tru_l, o_tru_t, iterD_l, iterD_t, range1, range2, fin_ok, fin_err, fin_ok1, fin_err1, fin_if, withD_own, withD_ino, ml_own, ml_ino, unlend_nil, back_nil, store_eq, put_n, put_t, puts_nil, puts_cons, wipeR_eq, wipe_nil, wipe_cons, back_cons, cx_call, cx_lam, cx_noio, lim_lit, Int.toNat_natCast, cut_init, cut_from, cut_last, cut_but, at0, at1, at2, subR_ino0, subR_ino1, List.set_cons_zero, List.set_cons_succ, List.length_cons, List.length_nil, List.all_cons, List.all_nil, List.nil_append, List.cons_append, List.append_nil, List.map_cons, List.map_nil, List.elem_nil, not_true_eq_false, not_false_eq_true, Bool.and_true, Bool.true_and, Bool.and_self, Bool.not_true, Bool.not_false, Bool.and_false, Bool.false_and, Bool.or_true, Bool.true_or, Bool.or_false, Bool.false_or, Bool.or_self, decide_true, decide_false, decide_eq_true_eq, Bool.false_eq_true, if_true, if_false, ite_true, ite_false, Option.map_some, Option.map_none, Option.isSome_some, Nat.zero_add, Nat.reduceAdd, Nat.reduceLT, Nat.reduceLeDiff, Nat.reduceEqDiff, Nat.reduceBEq, Nat.reduceSub, Nat.reduceMul, Int.reduceLT, Int.reduceLE, Int.reduceAdd, Int.reduceSub, Int.reduceNeg, Int.reduceEq, Int.reduceMul, Int.reduceToNat, reduceIte, lotD, List.length_map, show l.length + 1 ≤ 16777216 by omega, List.map_append]) (by rw [lim_lit]; omega)]
      simp -implicitDefEqProofs only [ev_k, ev_v, ev_op, ev_bop, evB_one, evB_and, evB_or, ev_nt, ev_ite, ev_chain, ev_call, ev_fn, ev_as0, ev_asE, ev_asB, ev_cs0, ev_cs, ev_iE, ev_iB, ev_iR, ev_iN, ev_iZ, ev_iV, ev_comp, ex_for, ev_conv, convR_range, lendR_some, ex_asg, ex_par, ex_tup, ex_ex, ex_ret, ex_retN, ex_ite, ex_raise, ex_pass, ex_cont, ex_app, ex_sub, exs0, exs, condR_bl, condS_bl, notR_bl, andR_bl, orR_bl, condC_bl, chR_bl, bind_ok, bind_err, bind_bad, bind_if, toS_ok, toS_err, toS_if, sbind_nx, sbind_rt, sbind_ct, sbind_er, sbind_if, ofO_some, ofO_if, ofO_none, putR_some, getS_z, getS_s, vS_fz, vS_own, appR_own, appR_ino, parS, open_no, open_fz, open_own, mut_own, mut_ino, loose_no, loose_fz, val_fz, val_own, val_ino, val_lent, As.bs, As.mask, nodupB, endS_rt, endS_nx, endS_er, endS_if, outE_some, outS_nil, outS_f, outS_t, Tg.slots, Tg.slotss, Option.bind_some, It.lends, bodyP_some, body_eq, fbody_eq, fbodyP_some, D.isNon, o_add_i, o_add_l, o_add_t, o_add_s, o_sub_i, o_mul_i, o_fdiv, o_mod, o_pow, o_neg, o_inv, o_band, o_bor_i, o_shl, o_shr, o_eq_i, o_ne_i, o_eq_s, o_ne_s, o_lt_i, o_le_i, o_gt_i, o_ge_i, o_in_t, o_in_l, o_nin_t, o_nin_l, o_isn, o_isnn, o_isb, o_isnb, o_tup, o_lst, o_item_l, o_item_t, o_sl00, o_sl10, o_sl01, o_sl11, slX_l, slX_t, o_rev_l, o_rev_t, o_len_l, o_len_t, o_len_s, o_abs, o_int_i, o_int_b, o_sum, o_max1, o_min1, o_max2, o_min2, o_all_map, o_any_map, o_sorted_l, o_sorted_t, o_sorted_s, o_set_l, o_set_t, o_bor_s, o_tuple_l, o_tuple_t, o_list_l, o_list_t, o_list_scr, o_isint, o_isbool, o_isstr, o_istuple, o_islist, isO_non, isO_bl, isO_int, isO_str, isO_tup, isO_lst, o_isexc, o_tru_b, o_tru_i, o_tru_n, o_tru_l, o_tru_t, iterD_l, iterD_t, range1, range2, fin_ok, fin_err, fin_ok1, fin_err1, fin_if, withD_own, withD_ino, ml_own, ml_ino, unlend_nil, back_nil, store_eq, put_n, put_t, puts_nil, puts_cons, wipeR_eq, wipe_nil, wipe_cons, back_cons, cx_call, cx_lam, cx_noio, lim_lit, Int.toNat_natCast, cut_init, cut_from, cut_last, cut_but, at0, at1, at2, subR_ino0, subR_ino1, List.set_cons_zero, List.set_cons_succ, List.length_cons, List.length_nil, List.all_cons, List.all_nil, List.nil_append, List.cons_append, List.append_nil, List.map_cons, List.map_nil, List.elem_nil, not_true_eq_false, not_false_eq_true, Bool.and_true, Bool.true_and, Bool.and_self, Bool.not_true, Bool.not_false, Bool.and_false, Bool.false_and, Bool.or_true, Bool.true_or, Bool.or_false, Bool.false_or, Bool.or_self, decide_true, decide_false, decide_eq_true_eq, Bool.false_eq_true, if_true, if_false, ite_true, ite_false, Option.map_some, Option.map_none, Option.isSome_some, Nat.zero_add, Nat.reduceAdd, Nat.reduceLT, Nat.reduceLeDiff, Nat.reduceEqDiff, Nat.reduceBEq, Nat.reduceSub, Nat.reduceMul, Int.reduceLT, Int.reduceLE, Int.reduceAdd, Int.reduceSub, Int.reduceNeg, Int.reduceEq, Int.reduceMul, Int.reduceToNat, reduceIte, List.length_map, hl, show 2 ^ i + 2 ^ i ≤ 16777216 by omega]
      refine ⟨_, rfl, ls ++ ls.map (fun l => l ++ [i]), .fz (.int i), ?_, rfl, ?_, fun l hl => ?_⟩
      · rw [List.map_append, List.map_map]; rfl
      · rw [List.length_append, List.length_map, hl, Nat.pow_succ]; omega
      · rcases List.mem_append.mp hl with hl | hl
        · exact lot_mono (hls l hl) (by omega)
        · obtain ⟨l', hl', rfl⟩ := List.mem_map.mp hl
          exact lot_snoc (hls l' hl'))
  simp -implicitDefEqProofs only [ev_k, ev_v, ev_op, ev_bop, evB_one, evB_and, evB_or, ev_nt, ev_ite, ev_chain, ev_call, ev_fn, ev_as0, ev_asE, ev_asB, ev_cs0, ev_cs, ev_iE, ev_iB, ev_iR, ev_iN, ev_iZ, ev_iV, ev_comp, ex_for, ev_conv, convR_range, lendR_some, ex_asg, ex_par, ex_tup, ex_ex, ex_ret, ex_retN, ex_ite, ex_raise, ex_pass, ex_cont, ex_app, ex_sub, exs0, exs, condR_bl, condS_bl, notR_bl, andR_bl, orR_bl, condC_bl, chR_bl, bind_ok, bind_err, bind_bad, bind_if, toS_ok, toS_err, toS_if, sbind_nx, sbind_rt, sbind_ct, sbind_er, sbind_if, ofO_some, ofO_if, ofO_none, putR_some, getS_z, getS_s, vS_fz, vS_own, appR_own, appR_ino, parS, open_no, open_fz, open_own, mut_own, mut_ino, loose_no, loose_fz, val_fz, val_own, val_ino, val_lent, As.bs, As.mask, nodupB, endS_rt, endS_nx, endS_er, endS_if, outE_some, outS_nil, outS_f, outS_t, Tg.slots, Tg.slotss, Option.bind_some, It.lends, bodyP_some, body_eq, fbody_eq, fbodyP_some, D.isNon, o_add_i, o_add_l, o_add_t, o_add_s, o_sub_i, o_mul_i, o_fdiv, o_mod, o_pow, o_neg, o_inv, o_band, o_bor_i, o_shl, o_shr, o_eq_i, o_ne_i, o_eq_s, o_ne_s, o_lt_i, o_le_i, o_gt_i, o_ge_i, o_in_t, o_in_l, o_nin_t, o_nin_l, o_isn, o_isnn, o_isb, o_isnb, o_tup, o_lst, o_item_l, o_item_t, o_sl00, o_sl10, o_sl01, o_sl11, slX_l, slX_t, o_rev_l, o_rev_t, o_len_l, o_len_t, o_len_s, o_abs, o_int_i, o_int_b, o_sum, o_max1, o_min1, o_max2, o_min2, o_all_map, o_any_map, o_sorted_l, o_sorted_t, o_sorted_s, o_set_l, o_set_t, o_bor_s, o_tuple_l, o_tuple_t, o_list_l, o_list_t, o_list_scr, o_isint, o_isbool, o_isstr, o_istuple, o_islist, isO_non, isO_bl, isO_int, isO_str, isO_tup, isO_lst, o_isexc, o_tru_b, o_tru_i, o_tru_n, o_tru_l, o_tru_t, iterD_l, iterD_t, range1, range2, fin_ok, fin_err, fin_ok1, fin_err1, fin_if, withD_own, withD_ino, ml_own, ml_ino, unlend_nil, back_nil, store_eq, put_n, put_t, puts_nil, puts_cons, wipeR_eq, wipe_nil, wipe_cons, back_cons, cx_call, cx_lam, cx_noio, lim_lit, Int.toNat_natCast, cut_init, cut_from, cut_last, cut_but, at0, at1, at2, subR_ino0, subR_ino1, List.set_cons_zero, List.set_cons_succ, List.length_cons, List.length_nil, List.all_cons, List.all_nil, List.nil_append, List.cons_append, List.append_nil, List.map_cons, List.map_nil, List.elem_nil, not_true_eq_false, not_false_eq_true, Bool.and_true, Bool.true_and, Bool.and_self, Bool.not_true, Bool.not_false, Bool.and_false, Bool.false_and, Bool.or_true, Bool.true_or, Bool.or_false, Bool.false_or, Bool.or_self, decide_true, decide_false, decide_eq_true_eq, Bool.false_eq_true, if_true, if_false, ite_true, ite_false, Option.map_some, Option.map_none, Option.isSome_some, Nat.zero_add, Nat.reduceAdd, Nat.reduceLT, Nat.reduceLeDiff, Nat.reduceEqDiff, Nat.reduceBEq, Nat.reduceSub, Nat.reduceMul, Int.reduceLT, Int.reduceLE, Int.reduceAdd, Int.reduceSub, Int.reduceNeg, Int.reduceEq, Int.reduceMul, Int.reduceToNat, reduceIte]
  exact ⟨ls, rfl, hl, hls⟩
theorem isWeb_lots {m : Nat} {r : List (List Nat)} (hm : 1 ≤ m) (h12 : m ≤ 12) (hr : r.length = m) (h : ∀ l ∈ r, LotOk (m + 1) l) : isWeb (webD r) = !(r.zipIdx.any fun p => !decide (p.2 ∈ p.1) || decide (m ∈ p.1)) := by
  unfold webD
  rw [isWeb_tup, List.length_map, hr]
  have e1 : isTupOf 1 12 (.tup (r.map lotD)) = true := by
    simp only [isTupOf, List.length_map, hr, Bool.and_eq_true, decide_eq_true_eq]; omega
  rw [e1, Bool.true_and, List.zipIdx_map, List.all_map, List.not_any_eq_all_not]
  have key : ∀ p ∈ r.zipIdx, (webAt m ∘ Prod.map lotD id) p = !(!decide (p.2 ∈ p.1) || decide (m ∈ p.1)) := by
    rintro ⟨l, i⟩ hp
    have hl := h l (List.fst_mem_of_mem_zipIdx hp)
    show (isLot m (lotD l) && memD (nD i) (l.map nD)) = _
    rw [memD_nat]
    by_cases hml : m ∈ l
    · rw [isLot_false fun q => by have := q.lt m hml; omega, decide_eq_true hml]; simp
    · rw [isLot_nat.mpr ⟨hl.asc, fun x hx => by
        have := hl.lt x hx
        have : x ≠ m := fun e => hml (e ▸ hx)
        omega⟩, decide_eq_false hml]; simp
  rw [Bool.eq_iff_iff, List.all_eq_true, List.all_eq_true]
  exact ⟨fun h p hp => by rw [← key p hp]; exact h p hp, fun h p hp => by rw [key p hp]; exact h p hp⟩
theorem isEmpty_map {α β : Type} (f : α → β) (l : List α) : (l.map f).isEmpty = l.isEmpty := by cases l <;> rfl
theorem eqvs_nil : ∀ (l : List D), D.eqvs l [] = l.isEmpty
  | [] => rfl
  | _ :: _ => rfl
theorem filter_isEmpty {α : Type} (p : α → Bool) : ∀ l : List α, (l.filter p).isEmpty = !l.any p
  | [] => rfl
  | a :: l => by
    rw [List.filter_cons, List.any_cons]
    cases p a with
    | true => rfl
    | false => simpa using filter_isEmpty p l
theorem law_small_ok {n m : Nat} (hm : 1 ≤ m) (h3 : m ≤ 3) : Φ prog (n + 20) 19 [nD m] = .ok (.bl true) [] := by
  obtain ⟨ls, e1, hl, hls⟩ := law_alllots_ok (n := n + 18) (m := m + 1) (by omega)
  have e1 : Φ prog (n + 19) 18 [.int ((m : Int) + 1)] = .ok (.lst (ls.map lotD)) [] := e1
  have hp : 2 ^ (m + 1) ≤ 16 := Nat.pow_le_pow_right (show 0 < 2 by omega) (show m + 1 ≤ 4 by omega)
  rw [u19, k19]
  simp -implicitDefEqProofs only [ev_k, ev_v, ev_op, ev_bop, evB_one, evB_and, evB_or, ev_nt, ev_ite, ev_chain, ev_call, ev_fn, ev_as0, ev_asE, ev_asB, ev_cs0, ev_cs, ev_iE, ev_iB, ev_iR, ev_iN, ev_iZ, ev_iV, ev_comp, ex_for, ev_conv, convR_range, lendR_some, ex_asg, ex_par, ex_tup, ex_ex, ex_ret, ex_retN, ex_ite, ex_raise, ex_pass, ex_cont, ex_app, ex_sub, exs0, exs, condR_bl, condS_bl, notR_bl, andR_bl, orR_bl, condC_bl, chR_bl, bind_ok, bind_err, bind_bad, bind_if, toS_ok, toS_err, toS_if, sbind_nx, sbind_rt, sbind_ct, sbind_er, sbind_if, ofO_some, ofO_if, ofO_none, putR_some, getS_z, getS_s, vS_fz, vS_own, appR_own, appR_ino, parS, open_no, open_fz, open_own, mut_own, mut_ino, loose_no, loose_fz, val_fz, val_own, val_ino, val_lent, As.bs, As.mask, nodupB, endS_rt, endS_nx, endS_er, endS_if, outE_some, outS_nil, outS_f, outS_t, Tg.slots, Tg.slotss, Option.bind_some, It.lends, bodyP_some, body_eq, fbody_eq, fbodyP_some, D.isNon, o_add_i, o_add_l, o_add_t, o_add_s, o_sub_i, o_mul_i, o_fdiv, o_mod, o_pow, o_neg, o_inv, o_band, o_bor_i, o_shl, o_shr, o_eq_i, o_ne_i, o_eq_s, o_ne_s, o_lt_i, o_le_i, o_gt_i, o_ge_i, o_in_t, o_in_l, o_nin_t, o_nin_l, o_isn, o_isnn, o_isb, o_isnb, o_tup, o_lst, o_item_l, o_item_t, o_sl00, o_sl10, o_sl01, o_sl11, slX_l, slX_t, o_rev_l, o_rev_t, o_len_l, o_len_t, o_len_s, o_abs, o_int_i, o_int_b, o_sum, o_max1, o_min1, o_max2, o_min2, o_all_map, o_any_map, o_sorted_l, o_sorted_t, o_sorted_s, o_set_l, o_set_t, o_bor_s, o_tuple_l, o_tuple_t, o_list_l, o_list_t, o_list_scr, o_isint, o_isbool, o_isstr, o_istuple, o_islist, isO_non, isO_bl, isO_int, isO_str, isO_tup, isO_lst, o_isexc, o_tru_b, o_tru_i, o_tru_n, o_tru_l, o_tru_t, iterD_l, iterD_t, range1, range2, fin_ok, fin_err, fin_ok1, fin_err1, fin_if, withD_own, withD_ino, ml_own, ml_ino, unlend_nil, back_nil, store_eq, put_n, put_t, puts_nil, puts_cons, wipeR_eq, wipe_nil, wipe_cons, back_cons, cx_call, cx_lam, cx_noio, lim_lit, Int.toNat_natCast, cut_init, cut_from, cut_last, cut_but, at0, at1, at2, subR_ino0, subR_ino1, List.set_cons_zero, List.set_cons_succ, List.length_cons, List.length_nil, List.all_cons, List.all_nil, List.nil_append, List.cons_append, List.append_nil, List.map_cons, List.map_nil, List.elem_nil, not_true_eq_false, not_false_eq_true, Bool.and_true, Bool.true_and, Bool.and_self, Bool.not_true, Bool.not_false, Bool.and_false, Bool.false_and, Bool.or_true, Bool.true_or, Bool.or_false, Bool.false_or, Bool.or_self, decide_true, decide_false, decide_eq_true_eq, Bool.false_eq_true, if_true, if_false, ite_true, ite_false, Option.map_some, Option.map_none, Option.isSome_some, Nat.zero_add, Nat.reduceAdd, Nat.reduceLT, Nat.reduceLeDiff, Nat.reduceEqDiff, Nat.reduceBEq, Nat.reduceSub, Nat.reduceMul, Int.reduceLT, Int.reduceLE, Int.reduceAdd, Int.reduceSub, Int.reduceNeg, Int.reduceEq, Int.reduceMul, Int.reduceToNat, reduceIte, e1, inR_nat (n := m) (by omega)]
  generalize hz : loopF _ (rangeL 0 m) _ = z
  obtain ⟨s', rfl, ⟨rs, x3, x4, x5, rfl, h3', h4, h5, hrl, hrs⟩⟩ := loopF_keyN hz m
    (fun i s => ∃ (rs : List (List (List Nat))) (x3 x4 x5 : Slot), s = [.fz (nD m), .fz (.lst (ls.map lotD)), .fz (.lst (rs.map webD)), x3, x4, x5, .no, .no, .no, .no] ∧ (x3.open = true ∧ x3.loose = true) ∧ x4.open = true ∧ x5.open = true ∧ rs.length ≤ 16 ^ i ∧ ∀ r ∈ rs, r.length = i ∧ ∀ l ∈ r, LotOk (m + 1) l)
    (by rw [rangeL_len]) ⟨[[]], .no, .no, .no, rfl, ⟨rfl, rfl⟩, rfl, rfl, Nat.le_refl _, fun r hr => by
      have : r = [] := by simpa using hr
      subst this
      exact ⟨rfl, fun _ h => by cases h⟩⟩ (fun i d s hd hJ => by
      obtain ⟨rs, x3, x4, x5, rfl, ⟨h3', h3''⟩, h4, h5, hrl, hrs⟩ := hJ
      obtain ⟨hi, rfl⟩ := rangeL_get hd
      have hp2 : 16 ^ i ≤ 256 := Nat.pow_le_pow_right (show 0 < 16 by omega) (show i ≤ 2 by omega)
      simp -implicitDefEqProofs only [ev_k, ev_v, ev_op, ev_bop, evB_one, evB_and, evB_or, ev_nt, ev_ite, ev_chain, ev_call, ev_fn, ev_as0, ev_asE, ev_asB, ev_cs0, ev_cs, ev_iE, ev_iB, ev_iR, ev_iN, ev_iZ, ev_iV, ev_comp, ex_for, ev_conv, convR_range, lendR_some, ex_asg, ex_par, ex_tup, ex_ex, ex_ret, ex_retN, ex_ite, ex_raise, ex_pass, ex_cont, ex_app, ex_sub, exs0, exs, condR_bl, condS_bl, notR_bl, andR_bl, orR_bl, condC_bl, chR_bl, bind_ok, bind_err, bind_bad, bind_if, toS_ok, toS_err, toS_if, sbind_nx, sbind_rt, sbind_ct, sbind_er, sbind_if, ofO_some, ofO_if, ofO_none, putR_some, getS_z, getS_s, vS_fz, vS_own, appR_own, appR_ino, parS, open_no, open_fz, open_own, mut_own, mut_ino, loose_no, loose_fz, val_fz, val_own, val_ino, val_lent, As.bs, As.mask, nodupB, endS_rt, endS_nx, endS_er, endS_if, outE_some, outS_nil, outS_f, outS_t, Tg.slots, Tg.slotss, Option.bind_some, It.lends, bodyP_some, body_eq, fbody_eq, fbodyP_some, D.isNon, o_add_i, o_add_l, o_add_t, o_add_s, o_sub_i, o_mul_i, o_fdiv, o_mod, o_pow, o_neg, o_inv, o_band, o_bor_i, o_shl, o_shr, o_eq_i, o_ne_i, o_eq_s, o_ne_s, o_lt_i, o_le_i, o_gt_i, o_ge_i, o_in_t, o_in_l, o_nin_t, o_nin_l, o_isn, o_isnn, o_isb, o_isnb, o_tup, o_lst, o_item_l, o_item_t, o_sl00, o_sl10, o_sl01, o_sl11, slX_l, slX_t, o_rev_l, o_rev_t, o_len_l, o_len_t, o_len_s, o_abs, o_int_i, o_int_b, o_sum, o_max1, o_min1, o_max2, o_min2, o_all_map, o_any_map, o_sorted_l, o_sorted_t, o_sorted_s, o_set_l, o_set_t, o_bor_s, o_tuple_l, o_tuple_t, o_list_l, o_list_t, o_list_scr, o_isint, o_isbool, o_isstr, o_istuple, o_islist, isO_non, isO_bl, isO_int, isO_str, isO_tup, isO_lst, o_isexc, o_tru_b, o_tru_i, o_tru_n, o_tru_l, o_tru_t, iterD_l, iterD_t, range1, range2, fin_ok, fin_err, fin_ok1, fin_err1, fin_if, withD_own, withD_ino, ml_own, ml_ino, unlend_nil, back_nil, store_eq, put_n, put_t, puts_nil, puts_cons, wipeR_eq, wipe_nil, wipe_cons, back_cons, cx_call, cx_lam, cx_noio, lim_lit, Int.toNat_natCast, cut_init, cut_from, cut_last, cut_but, at0, at1, at2, subR_ino0, subR_ino1, List.set_cons_zero, List.set_cons_succ, List.length_cons, List.length_nil, List.all_cons, List.all_nil, List.nil_append, List.cons_append, List.append_nil, List.map_cons, List.map_nil, List.elem_nil, not_true_eq_false, not_false_eq_true, Bool.and_true, Bool.true_and, Bool.and_self, Bool.not_true, Bool.not_false, Bool.and_false, Bool.false_and, Bool.or_true, Bool.true_or, Bool.or_false, Bool.false_or, Bool.or_self, decide_true, decide_false, decide_eq_true_eq, Bool.false_eq_true, if_true, if_false, ite_true, ite_false, Option.map_some, Option.map_none, Option.isSome_some, Nat.zero_add, Nat.reduceAdd, Nat.reduceLT, Nat.reduceLeDiff, Nat.reduceEqDiff, Nat.reduceBEq, Nat.reduceSub, Nat.reduceMul, Int.reduceLT, Int.reduceLE, Int.reduceAdd, Int.reduceSub, Int.reduceNeg, Int.reduceEq, Int.reduceMul, Int.reduceToNat, reduceIte, h3', h4, h5, Int.zero_add]
      generalize hz : loopF _ (rs.map webD) _ = z
      obtain ⟨s', rfl, ⟨lg, x5', rfl, h5', hlg, hlr⟩⟩ := loopF_keyN hz rs.length
        (fun j s => ∃ (lg : List (List (List Nat))) (x5 : Slot), s = [.fz (nD m), .fz (.lst (ls.map lotD)), .fz (.lst (rs.map webD)), .fz (.int i), .fz (.lst (lg.map webD)), x5, .no, .no, .no, .no] ∧ x5.open = true ∧ lg.length = j * 2 ^ (m + 1) ∧ ∀ r ∈ lg, r.length = i + 1 ∧ ∀ l ∈ r, LotOk (m + 1) l)
        (by rw [List.length_map]) ⟨[], x5, rfl, h5, by simp, fun r hr => by cases hr⟩ (fun j d s hd hJ => by
          obtain ⟨lg, x5, rfl, h5, hlg, hlr⟩ := hJ
          rw [List.getElem?_map] at hd
          obtain ⟨r, hr, rfl⟩ := Option.map_eq_some_iff.mp hd
          have hj := (List.getElem?_eq_some_iff.mp hr).1
          have hrr := hrs r (List.mem_of_getElem? hr)
          have hb : j * 2 ^ (m + 1) ≤ 256 * 16 := Nat.mul_le_mul (by omega) hp
          simp -implicitDefEqProofs only [ev_k, ev_v, ev_op, ev_bop, evB_one, evB_and, evB_or, ev_nt, ev_ite, ev_chain, ev_call, ev_fn, ev_as0, ev_asE, ev_asB, ev_cs0, ev_cs, ev_iE, ev_iB, ev_iR, ev_iN, ev_iZ, ev_iV, ev_comp, ex_for, ev_conv, convR_range, lendR_some, ex_asg, ex_par, ex_tup, ex_ex, ex_ret, ex_retN, ex_ite, ex_raise, ex_pass, ex_cont, ex_app, ex_sub, exs0, exs, condR_bl, condS_bl, notR_bl, andR_bl, orR_bl, condC_bl, chR_bl, bind_ok, bind_err, bind_bad, bind_if, toS_ok, toS_err, toS_if, sbind_nx, sbind_rt, sbind_ct, sbind_er, sbind_if, ofO_some, ofO_if, ofO_none, putR_some, getS_z, getS_s, vS_fz, vS_own, appR_own, appR_ino, parS, open_no, open_fz, open_own, mut_own, mut_ino, loose_no, loose_fz, val_fz, val_own, val_ino, val_lent, As.bs, As.mask, nodupB, endS_rt, endS_nx, endS_er, endS_if, outE_some, outS_nil, outS_f, outS_t, Tg.slots, Tg.slotss, Option.bind_some, It.lends, bodyP_some, body_eq, fbody_eq, fbodyP_some, D.isNon, o_add_i, o_add_l, o_add_t, o_add_s, o_sub_i, o_mul_i, o_fdiv, o_mod, o_pow, o_neg, o_inv, o_band, o_bor_i, o_shl, o_shr, o_eq_i, o_ne_i, o_eq_s, o_ne_s, o_lt_i, o_le_i, o_gt_i, o_ge_i, o_in_t, o_in_l, o_nin_t, o_nin_l, o_isn, o_isnn, o_isb, o_isnb, o_tup, o_lst, o_item_l, o_item_t, o_sl00, o_sl10, o_sl01, o_sl11, slX_l, slX_t, o_rev_l, o_rev_t, o_len_l, o_len_t, o_len_s, o_abs, o_int_i, o_int_b, o_sum, o_max1, o_min1, o_max2, o_min2, o_all_map, o_any_map, o_sorted_l, o_sorted_t, o_sorted_s, o_set_l, o_set_t, o_bor_s, o_tuple_l, o_tuple_t, o_list_l, o_list_t, o_list_scr, o_isint, o_isbool, o_isstr, o_istuple, o_islist, isO_non, isO_bl, isO_int, isO_str, isO_tup, isO_lst, o_isexc, o_tru_b, o_tru_i, o_tru_n, o_tru_l, o_tru_t, iterD_l, iterD_t, range1, range2, fin_ok, fin_err, fin_ok1, fin_err1, fin_if, withD_own, withD_ino, ml_own, ml_ino, unlend_nil, back_nil, store_eq, put_n, put_t, puts_nil, puts_cons, wipeR_eq, wipe_nil, wipe_cons, back_cons, cx_call, cx_lam, cx_noio, lim_lit, Int.toNat_natCast, cut_init, cut_from, cut_last, cut_but, at0, at1, at2, subR_ino0, subR_ino1, List.set_cons_zero, List.set_cons_succ, List.length_cons, List.length_nil, List.all_cons, List.all_nil, List.nil_append, List.cons_append, List.append_nil, List.map_cons, List.map_nil, List.elem_nil, not_true_eq_false, not_false_eq_true, Bool.and_true, Bool.true_and, Bool.and_self, Bool.not_true, Bool.not_false, Bool.and_false, Bool.false_and, Bool.or_true, Bool.true_or, Bool.or_false, Bool.false_or, Bool.or_self, decide_true, decide_false, decide_eq_true_eq, Bool.false_eq_true, if_true, if_false, ite_true, ite_false, Option.map_some, Option.map_none, Option.isSome_some, Nat.zero_add, Nat.reduceAdd, Nat.reduceLT, Nat.reduceLeDiff, Nat.reduceEqDiff, Nat.reduceBEq, Nat.reduceSub, Nat.reduceMul, Int.reduceLT, Int.reduceLE, Int.reduceAdd, Int.reduceSub, Int.reduceNeg, Int.reduceEq, Int.reduceMul, Int.reduceToNat, reduceIte, h5, webD]
          rw [loopC_mapL (fun l => webD (r ++ [l])) (fun l hl => by
            simp -implicitDefEqProofs only [ev_k, ev_v, ev_op, ev_bop, evB_one, evB_and, evB_or, ev_nt, ev_ite, ev_chain, ev_call, ev_fn, ev_as0, ev_asE, ev_asB, ev_cs0, ev_cs, ev_iE, ev_iB, ev_iR, ev_iN, ev_iZ, ev_iV, ev_comp, ex_for, ev_conv, convR_range, lendR_some, ex_asg, ex_par, ex_tup, ex_ex, ex_ret, ex_retN, ex_ite, ex_raise, ex_pass, ex_cont, ex_app, ex_sub, exs0, exs, condR_bl, condS_bl, notR_bl, andR_bl, orR_bl, condC_bl, chR_bl, bind_ok, bind_err, bind_bad, bind_if, toS_ok, toS_err, toS_if, sbind_nx, sbind_rt, sbind_ct, sbind_er, sbind_if, ofO_some, ofO_if, ofO_none, putR_some, getS_z, getS_s, vS_fz, vS_own, appR_own, appR_ino, parS, open_no, open_fz, open_own, mut_own, mut_ino, loose_no, loose_fz, val_fz, val_own, val_ino, val_lent, As.bs, As.mask, nodupB, endS_rt, endS_nx, endS_er, endS_if, outE_some, outS_nil, outS_f, outS_t, Tg.slots, Tg.slotss, Option.bind_some, It.lends, bodyP_some, body_eq, fbody_eq, fbodyP_some, D.isNon, o_add_i, o_add_l, o_add_t, o_add_s, o_sub_i, o_mul_i, o_fdiv, o_mod, o_pow, o_neg, o_inv, o_band, o_bor_i, o_shl, o_shr, o_eq_i, o_ne_i, o_eq_s, o_ne_s, o_lt_i, o_le_i, o_gt_i, o_ge_i, o_in_t, o_in_l, o_nin_t, o_nin_l, o_isn, o_isnn, o_isb, o_isnb, o_tup, o_lst, o_item_l, o_item_t, o_sl00, o_sl10, o_sl01, o_sl11, slX_l, slX_t, o_rev_l, o_rev_t, o_len_l, o_len_t, o_len_s, o_abs, o_int_i, o_int_b, o_sum, o_max1, o_min1, o_max2, o_min2, o_all_map, o_any_map, o_sorted_l, o_sorted_t, o_sorted_s, o_set_l, o_set_t, o_bor_s, o_tuple_l, o_tuple_t, o_list_l, o_list_t, o_list_scr, o_isint, o_isbool, o_isstr, o_istuple, o_islist, isO_non, isO_bl, isO_int, isO_str, isO_tup, isO_lst, o_isexc, o_tru_b, o_tru_i, o_tru_n, o_tru_l, o_tru_t, iterD_l, iterD_t, range1, range2, fin_ok, fin_err, fin_ok1, fin_err1, fin_if, withD_own, withD_ino, ml_own, ml_ino, unlend_nil, back_nil, store_eq, put_n, put_t, puts_nil, puts_cons, wipeR_eq, wipe_nil, wipe_cons, back_cons, cx_call, cx_lam, cx_noio, lim_lit, Int.toNat_natCast, cut_init, cut_from, cut_last, cut_but, at0, at1, at2, subR_ino0, subR_ino1, List.set_cons_zero, List.set_cons_succ, List.length_cons, List.length_nil, List.all_cons, List.all_nil, List.nil_append, List.cons_append, List.append_nil, List.map_cons, List.map_nil, List.elem_nil, not_true_eq_false, not_false_eq_true, Bool.and_true, Bool.true_and, Bool.and_self, Bool.not_true, Bool.not_false, Bool.and_false, Bool.false_and, Bool.or_true, Bool.true_or, Bool.or_false, Bool.false_or, Bool.or_self, decide_true, decide_false, decide_eq_true_eq, Bool.false_eq_true, if_true, if_false, ite_true, ite_false, Option.map_some, Option.map_none, Option.isSome_some, Nat.zero_add, Nat.reduceAdd, Nat.reduceLT, Nat.reduceLeDiff, Nat.reduceEqDiff, Nat.reduceBEq, Nat.reduceSub, Nat.reduceMul, Int.reduceLT, Int.reduceLE, Int.reduceAdd, Int.reduceSub, Int.reduceNeg, Int.reduceEq, Int.reduceMul, Int.reduceToNat, reduceIte, webD, List.length_map, hrr.1, show i + 1 ≤ 16777216 by omega, List.map_append]) (by rw [lim_lit]; omega)]
          simp -implicitDefEqProofs only [ev_k, ev_v, ev_op, ev_bop, evB_one, evB_and, evB_or, ev_nt, ev_ite, ev_chain, ev_call, ev_fn, ev_as0, ev_asE, ev_asB, ev_cs0, ev_cs, ev_iE, ev_iB, ev_iR, ev_iN, ev_iZ, ev_iV, ev_comp, ex_for, ev_conv, convR_range, lendR_some, ex_asg, ex_par, ex_tup, ex_ex, ex_ret, ex_retN, ex_ite, ex_raise, ex_pass, ex_cont, ex_app, ex_sub, exs0, exs, condR_bl, condS_bl, notR_bl, andR_bl, orR_bl, condC_bl, chR_bl, bind_ok, bind_err, bind_bad, bind_if, toS_ok, toS_err, toS_if, sbind_nx, sbind_rt, sbind_ct, sbind_er, sbind_if, ofO_some, ofO_if, ofO_none, putR_some, getS_z, getS_s, vS_fz, vS_own, appR_own, appR_ino, parS, open_no, open_fz, open_own, mut_own, mut_ino, loose_no, loose_fz, val_fz, val_own, val_ino, val_lent, As.bs, As.mask, nodupB, endS_rt, endS_nx, endS_er, endS_if, outE_some, outS_nil, outS_f, outS_t, Tg.slots, Tg.slotss, Option.bind_some, It.lends, bodyP_some, body_eq, fbody_eq, fbodyP_some, D.isNon, o_add_i, o_add_l, o_add_t, o_add_s, o_sub_i, o_mul_i, o_fdiv, o_mod, o_pow, o_neg, o_inv, o_band, o_bor_i, o_shl, o_shr, o_eq_i, o_ne_i, o_eq_s, o_ne_s, o_lt_i, o_le_i, o_gt_i, o_ge_i, o_in_t, o_in_l, o_nin_t, o_nin_l, o_isn, o_isnn, o_isb, o_isnb, o_tup, o_lst, o_item_l, o_item_t, o_sl00, o_sl10, o_sl01, o_sl11, slX_l, slX_t, o_rev_l, o_rev_t, o_len_l, o_len_t, o_len_s, o_abs, o_int_i, o_int_b, o_sum, o_max1, o_min1, o_max2, o_min2, o_all_map, o_any_map, o_sorted_l, o_sorted_t, o_sorted_s, o_set_l, o_set_t, o_bor_s, o_tuple_l, o_tuple_t, o_list_l, o_list_t, o_list_scr, o_isint, o_isbool, o_isstr, o_istuple, o_islist, isO_non, isO_bl, isO_int, isO_str, isO_tup, isO_lst, o_isexc, o_tru_b, o_tru_i, o_tru_n, o_tru_l, o_tru_t, iterD_l, iterD_t, range1, range2, fin_ok, fin_err, fin_ok1, fin_err1, fin_if, withD_own, withD_ino, ml_own, ml_ino, unlend_nil, back_nil, store_eq, put_n, put_t, puts_nil, puts_cons, wipeR_eq, wipe_nil, wipe_cons, back_cons, cx_call, cx_lam, cx_noio, lim_lit, Int.toNat_natCast, cut_init, cut_from, cut_last, cut_but, at0, at1, at2, subR_ino0, subR_ino1, List.set_cons_zero, List.set_cons_succ, List.length_cons, List.length_nil, List.all_cons, List.all_nil, List.nil_append, List.cons_append, List.append_nil, List.map_cons, List.map_nil, List.elem_nil, not_true_eq_false, not_false_eq_true, Bool.and_true, Bool.true_and, Bool.and_self, Bool.not_true, Bool.not_false, Bool.and_false, Bool.false_and, Bool.or_true, Bool.true_or, Bool.or_false, Bool.false_or, Bool.or_self, decide_true, decide_false, decide_eq_true_eq, Bool.false_eq_true, if_true, if_false, ite_true, ite_false, Option.map_some, Option.map_none, Option.isSome_some, Nat.zero_add, Nat.reduceAdd, Nat.reduceLT, Nat.reduceLeDiff, Nat.reduceEqDiff, Nat.reduceBEq, Nat.reduceSub, Nat.reduceMul, Int.reduceLT, Int.reduceLE, Int.reduceAdd, Int.reduceSub, Int.reduceNeg, Int.reduceEq, Int.reduceMul, Int.reduceToNat, reduceIte, List.length_map, hl, hlg, show j * 2 ^ (m + 1) + 2 ^ (m + 1) ≤ 16777216 by omega]
          refine ⟨_, rfl, lg ++ ls.map (fun l => r ++ [l]), .fz (.tup (r.map lotD)), ?_, rfl, ?_, fun r' hr' => ?_⟩
          · rw [List.map_append, List.map_map]; rfl
          · rw [List.length_append, List.length_map, hl, hlg, Nat.succ_mul]
          · rcases List.mem_append.mp hr' with hr' | hr'
            · exact hlr r' hr'
            · obtain ⟨l', hl', rfl⟩ := List.mem_map.mp hr'
              refine ⟨by rw [List.length_append, hrr.1]; rfl, fun l hl => ?_⟩
              rcases List.mem_append.mp hl with hl | hl
              · exact hrr.2 l hl
              · have : l = l' := by simpa using hl
                subst this
                exact hls l hl')
      simp -implicitDefEqProofs only [ev_k, ev_v, ev_op, ev_bop, evB_one, evB_and, evB_or, ev_nt, ev_ite, ev_chain, ev_call, ev_fn, ev_as0, ev_asE, ev_asB, ev_cs0, ev_cs, ev_iE, ev_iB, ev_iR, ev_iN, ev_iZ, ev_iV, ev_comp, ex_for, ev_conv, convR_range, lendR_some, ex_asg, ex_par, ex_tup, ex_ex, ex_ret, ex_retN, ex_ite, ex_raise, ex_pass, ex_cont, ex_app, ex_sub, exs0, exs, condR_bl, condS_bl, notR_bl, andR_bl, orR_bl, condC_bl, chR_bl, bind_ok, bind_err, bind_bad, bind_if, toS_ok, toS_err, toS_if, sbind_nx, sbind_rt, sbind_ct, sbind_er, sbind_if, ofO_some, ofO_if, ofO_none, putR_some, getS_z, getS_s, vS_fz, vS_own, appR_own, appR_ino, parS, open_no, open_fz, open_own, mut_own, mut_ino, loose_no, loose_fz, val_fz, val_own, val_ino, val_lent, As.bs, As.mask, nodupB, endS_rt, endS_nx, endS_er, endS_if, outE_some, outS_nil, outS_f, outS_t, Tg.slots, Tg.slotss, Option.bind_some, It.lends, bodyP_some, body_eq, fbody_eq, fbodyP_some, D.isNon, o_add_i, o_add_l, o_add_t, o_add_s, o_sub_i, o_mul_i, o_fdiv, o_mod, o_pow, o_neg, o_inv, o_band, o_bor_i, o_shl, o_shr, o_eq_i, o_ne_i, o_eq_s, o_ne_s, o_lt_i, o_le_i, o_gt_i, o_ge_i, o_in_t, o_in_l, o_nin_t, o_nin_l, o_isn, o_isnn, o_isb, o_isnb, o_tup, o_lst, o_item_l, o_item_t, o_sl00, o_sl10, o_sl01, o_sl11, slX_l, slX_t, o_rev_l, o_rev_t, o_len_l, o_len_t, o_len_s, o_abs, o_int_i, o_int_b, o_sum, o_max1, o_min1, o_max2, o_min2, o_all_map, o_any_map, o_sorted_l, o_sorted_t, o_sorted_s, o_set_l, o_set_t, o_bor_s, o_tuple_l, o_tuple_t, o_list_l, o_list_t, o_list_scr, o_isint, o_isbool, o_isstr, o_istuple, o_islist, isO_non, isO_bl, isO_int, isO_str, isO_tup, isO_lst, o_isexc, o_tru_b, o_tru_i, o_tru_n, o_tru_l, o_tru_t, iterD_l, iterD_t, range1, range2, fin_ok, fin_err, fin_ok1, fin_err1, fin_if, withD_own, withD_ino, ml_own, ml_ino, unlend_nil, back_nil, store_eq, put_n, put_t, puts_nil, puts_cons, wipeR_eq, wipe_nil, wipe_cons, back_cons, cx_call, cx_lam, cx_noio, lim_lit, Int.toNat_natCast, cut_init, cut_from, cut_last, cut_but, at0, at1, at2, subR_ino0, subR_ino1, List.set_cons_zero, List.set_cons_succ, List.length_cons, List.length_nil, List.all_cons, List.all_nil, List.nil_append, List.cons_append, List.append_nil, List.map_cons, List.map_nil, List.elem_nil, not_true_eq_false, not_false_eq_true, Bool.and_true, Bool.true_and, Bool.and_self, Bool.not_true, Bool.not_false, Bool.and_false, Bool.false_and, Bool.or_true, Bool.true_or, Bool.or_false, Bool.false_or, Bool.or_self, decide_true, decide_false, decide_eq_true_eq, Bool.false_eq_true, if_true, if_false, ite_true, ite_false, Option.map_some, Option.map_none, Option.isSome_some, Nat.zero_add, Nat.reduceAdd, Nat.reduceLT, Nat.reduceLeDiff, Nat.reduceEqDiff, Nat.reduceBEq, Nat.reduceSub, Nat.reduceMul, Int.reduceLT, Int.reduceLE, Int.reduceAdd, Int.reduceSub, Int.reduceNeg, Int.reduceEq, Int.reduceMul, Int.reduceToNat, reduceIte]
      refine ⟨_, rfl, lg, .fz (.int i), .fz (.lst (lg.map webD)), x5', rfl, ⟨rfl, rfl⟩, rfl, h5', ?_, hlr⟩
      rw [hlg, Nat.pow_succ]
      exact Nat.mul_le_mul hrl hp)
  have hp3 : 16 ^ m ≤ 4096 := Nat.pow_le_pow_right (show 0 < 16 by omega) (show m ≤ 3 by omega)
  simp -implicitDefEqProofs only [ev_k, ev_v, ev_op, ev_bop, evB_one, evB_and, evB_or, ev_nt, ev_ite, ev_chain, ev_call, ev_fn, ev_as0, ev_asE, ev_asB, ev_cs0, ev_cs, ev_iE, ev_iB, ev_iR, ev_iN, ev_iZ, ev_iV, ev_comp, ex_for, ev_conv, convR_range, lendR_some, ex_asg, ex_par, ex_tup, ex_ex, ex_ret, ex_retN, ex_ite, ex_raise, ex_pass, ex_cont, ex_app, ex_sub, exs0, exs, condR_bl, condS_bl, notR_bl, andR_bl, orR_bl, condC_bl, chR_bl, bind_ok, bind_err, bind_bad, bind_if, toS_ok, toS_err, toS_if, sbind_nx, sbind_rt, sbind_ct, sbind_er, sbind_if, ofO_some, ofO_if, ofO_none, putR_some, getS_z, getS_s, vS_fz, vS_own, appR_own, appR_ino, parS, open_no, open_fz, open_own, mut_own, mut_ino, loose_no, loose_fz, val_fz, val_own, val_ino, val_lent, As.bs, As.mask, nodupB, endS_rt, endS_nx, endS_er, endS_if, outE_some, outS_nil, outS_f, outS_t, Tg.slots, Tg.slotss, Option.bind_some, It.lends, bodyP_some, body_eq, fbody_eq, fbodyP_some, D.isNon, o_add_i, o_add_l, o_add_t, o_add_s, o_sub_i, o_mul_i, o_fdiv, o_mod, o_pow, o_neg, o_inv, o_band, o_bor_i, o_shl, o_shr, o_eq_i, o_ne_i, o_eq_s, o_ne_s, o_lt_i, o_le_i, o_gt_i, o_ge_i, o_in_t, o_in_l, o_nin_t, o_nin_l, o_isn, o_isnn, o_isb, o_isnb, o_tup, o_lst, o_item_l, o_item_t, o_sl00, o_sl10, o_sl01, o_sl11, slX_l, slX_t, o_rev_l, o_rev_t, o_len_l, o_len_t, o_len_s, o_abs, o_int_i, o_int_b, o_sum, o_max1, o_min1, o_max2, o_min2, o_all_map, o_any_map, o_sorted_l, o_sorted_t, o_sorted_s, o_set_l, o_set_t, o_bor_s, o_tuple_l, o_tuple_t, o_list_l, o_list_t, o_list_scr, o_isint, o_isbool, o_isstr, o_istuple, o_islist, isO_non, isO_bl, isO_int, isO_str, isO_tup, isO_lst, o_isexc, o_tru_b, o_tru_i, o_tru_n, o_tru_l, o_tru_t, iterD_l, iterD_t, range1, range2, fin_ok, fin_err, fin_ok1, fin_err1, fin_if, withD_own, withD_ino, ml_own, ml_ino, unlend_nil, back_nil, store_eq, put_n, put_t, puts_nil, puts_cons, wipeR_eq, wipe_nil, wipe_cons, back_cons, cx_call, cx_lam, cx_noio, lim_lit, Int.toNat_natCast, cut_init, cut_from, cut_last, cut_but, at0, at1, at2, subR_ino0, subR_ino1, List.set_cons_zero, List.set_cons_succ, List.length_cons, List.length_nil, List.all_cons, List.all_nil, List.nil_append, List.cons_append, List.append_nil, List.map_cons, List.map_nil, List.elem_nil, not_true_eq_false, not_false_eq_true, Bool.and_true, Bool.true_and, Bool.and_self, Bool.not_true, Bool.not_false, Bool.and_false, Bool.false_and, Bool.or_true, Bool.true_or, Bool.or_false, Bool.false_or, Bool.or_self, decide_true, decide_false, decide_eq_true_eq, Bool.false_eq_true, if_true, if_false, ite_true, ite_false, Option.map_some, Option.map_none, Option.isSome_some, Nat.zero_add, Nat.reduceAdd, Nat.reduceLT, Nat.reduceLeDiff, Nat.reduceEqDiff, Nat.reduceBEq, Nat.reduceSub, Nat.reduceMul, Int.reduceLT, Int.reduceLE, Int.reduceAdd, Int.reduceSub, Int.reduceNeg, Int.reduceEq, Int.reduceMul, Int.reduceToNat, reduceIte]
  generalize hz2 : loopF _ (rs.map webD) _ = z2
  obtain ⟨s', rfl, ⟨x3', x5', x6', rfl, o3, o5, o6⟩⟩ := loopF_keyN hz2 rs.length
    (fun j s => ∃ (x3 x5 x6 : Slot), s = [.fz (nD m), .fz (.lst (ls.map lotD)), .fz (.lst (rs.map webD)), x3, x4, x5, x6, .no, .no, .no] ∧ (x3.open = true ∧ x3.loose = true) ∧ x5.open = true ∧ x6.open = true)
    (by rw [List.length_map]) ⟨x3, x5, .no, rfl, h3', h5, rfl⟩ (fun j d s hd hJ => by
      obtain ⟨x3, x5, x6, rfl, ⟨o3, o3'⟩, o5, o6⟩ := hJ
      rw [List.getElem?_map] at hd
      obtain ⟨r, hr, rfl⟩ := Option.map_eq_some_iff.mp hd
      have hrr := hrs r (List.mem_of_getElem? hr)
      have hw := isWeb_lots hm (by omega) hrr.1 hrr.2
      have hsz : ∀ l ∈ r, l.length ≤ 16777216 := fun l hl => by have := lot_len (hrr.2 l hl); omega
      have g1 : Φ prog (n + 19) 9 [.tup (r.map lotD)] = .ok (.bl (isWeb (webD r))) [] := is_web_ok (n := n + 14) (by
        rw [D.okd, List.all_map, List.all_eq_true]
        exact fun l hl => small_okd (small_lot (k := 1) (hsz l hl))) (fun ds e es he => by
        cases e
        obtain ⟨l, hl, e⟩ := List.mem_map.mp he
        cases e
        rw [List.length_map]; exact hsz l hl)
      have g2 := fun b => law_like_ok 0 (n := n + 17) (d := .bl b) rfl (by decide)
      simp -implicitDefEqProofs only [ev_k, ev_v, ev_op, ev_bop, evB_one, evB_and, evB_or, ev_nt, ev_ite, ev_chain, ev_call, ev_fn, ev_as0, ev_asE, ev_asB, ev_cs0, ev_cs, ev_iE, ev_iB, ev_iR, ev_iN, ev_iZ, ev_iV, ev_comp, ex_for, ev_conv, convR_range, lendR_some, ex_asg, ex_par, ex_tup, ex_ex, ex_ret, ex_retN, ex_ite, ex_raise, ex_pass, ex_cont, ex_app, ex_sub, exs0, exs, condR_bl, condS_bl, notR_bl, andR_bl, orR_bl, condC_bl, chR_bl, bind_ok, bind_err, bind_bad, bind_if, toS_ok, toS_err, toS_if, sbind_nx, sbind_rt, sbind_ct, sbind_er, sbind_if, ofO_some, ofO_if, ofO_none, putR_some, getS_z, getS_s, vS_fz, vS_own, appR_own, appR_ino, parS, open_no, open_fz, open_own, mut_own, mut_ino, loose_no, loose_fz, val_fz, val_own, val_ino, val_lent, As.bs, As.mask, nodupB, endS_rt, endS_nx, endS_er, endS_if, outE_some, outS_nil, outS_f, outS_t, Tg.slots, Tg.slotss, Option.bind_some, It.lends, bodyP_some, body_eq, fbody_eq, fbodyP_some, D.isNon, o_add_i, o_add_l, o_add_t, o_add_s, o_sub_i, o_mul_i, o_fdiv, o_mod, o_pow, o_neg, o_inv, o_band, o_bor_i, o_shl, o_shr, o_eq_i, o_ne_i, o_eq_s, o_ne_s, o_lt_i, o_le_i, o_gt_i, o_ge_i, o_in_t, o_in_l, o_nin_t, o_nin_l, o_isn, o_isnn, o_isb, o_isnb, o_tup, o_lst, o_item_l, o_item_t, o_sl00, o_sl10, o_sl01, o_sl11, slX_l, slX_t, o_rev_l, o_rev_t, o_len_l, o_len_t, o_len_s, o_abs, o_int_i, o_int_b, o_sum, o_max1, o_min1, o_max2, o_min2, o_all_map, o_any_map, o_sorted_l, o_sorted_t, o_sorted_s, o_set_l, o_set_t, o_bor_s, o_tuple_l, o_tuple_t, o_list_l, o_list_t, o_list_scr, o_isint, o_isbool, o_isstr, o_istuple, o_islist, isO_non, isO_bl, isO_int, isO_str, isO_tup, isO_lst, o_isexc, o_tru_b, o_tru_i, o_tru_n, o_tru_l, o_tru_t, iterD_l, iterD_t, range1, range2, fin_ok, fin_err, fin_ok1, fin_err1, fin_if, withD_own, withD_ino, ml_own, ml_ino, unlend_nil, back_nil, store_eq, put_n, put_t, puts_nil, puts_cons, wipeR_eq, wipe_nil, wipe_cons, back_cons, cx_call, cx_lam, cx_noio, lim_lit, Int.toNat_natCast, cut_init, cut_from, cut_last, cut_but, at0, at1, at2, subR_ino0, subR_ino1, List.set_cons_zero, List.set_cons_succ, List.length_cons, List.length_nil, List.all_cons, List.all_nil, List.nil_append, List.cons_append, List.append_nil, List.map_cons, List.map_nil, List.elem_nil, not_true_eq_false, not_false_eq_true, Bool.and_true, Bool.true_and, Bool.and_self, Bool.not_true, Bool.not_false, Bool.and_false, Bool.false_and, Bool.or_true, Bool.true_or, Bool.or_false, Bool.false_or, Bool.or_self, decide_true, decide_false, decide_eq_true_eq, Bool.false_eq_true, if_true, if_false, ite_true, ite_false, Option.map_some, Option.map_none, Option.isSome_some, Nat.zero_add, Nat.reduceAdd, Nat.reduceLT, Nat.reduceLeDiff, Nat.reduceEqDiff, Nat.reduceBEq, Nat.reduceSub, Nat.reduceMul, Int.reduceLT, Int.reduceLE, Int.reduceAdd, Int.reduceSub, Int.reduceNeg, Int.reduceEq, Int.reduceMul, Int.reduceToNat, reduceIte, o3, o3', o5, o6, webD]
      rw [zip_webD, loopC_filtL (fun p => !decide (p.2 ∈ p.1) || decide (m ∈ p.1)) (fun p => .int (p.2 : Nat)) (fun p hp => by
        obtain ⟨l, j⟩ := p
        have e1 := memD_nat (i := j) (l := l)
        have e2 := memD_nat (i := m) (l := l)
        unfold memD at e1 e2
        simp -implicitDefEqProofs only [ev_k, ev_v, ev_op, ev_bop, evB_one, evB_and, evB_or, ev_nt, ev_ite, ev_chain, ev_call, ev_fn, ev_as0, ev_asE, ev_asB, ev_cs0, ev_cs, ev_iE, ev_iB, ev_iR, ev_iN, ev_iZ, ev_iV, ev_comp, ex_for, ev_conv, convR_range, lendR_some, ex_asg, ex_par, ex_tup, ex_ex, ex_ret, ex_retN, ex_ite, ex_raise, ex_pass, ex_cont, ex_app, ex_sub, exs0, exs, condR_bl, condS_bl, notR_bl, andR_bl, orR_bl, condC_bl, chR_bl, bind_ok, bind_err, bind_bad, bind_if, toS_ok, toS_err, toS_if, sbind_nx, sbind_rt, sbind_ct, sbind_er, sbind_if, ofO_some, ofO_if, ofO_none, putR_some, getS_z, getS_s, vS_fz, vS_own, appR_own, appR_ino, parS, open_no, open_fz, open_own, mut_own, mut_ino, loose_no, loose_fz, val_fz, val_own, val_ino, val_lent, As.bs, As.mask, nodupB, endS_rt, endS_nx, endS_er, endS_if, outE_some, outS_nil, outS_f, outS_t, Tg.slots, Tg.slotss, Option.bind_some, It.lends, bodyP_some, body_eq, fbody_eq, fbodyP_some, D.isNon, o_add_i, o_add_l, o_add_t, o_add_s, o_sub_i, o_mul_i, o_fdiv, o_mod, o_pow, o_neg, o_inv, o_band, o_bor_i, o_shl, o_shr, o_eq_i, o_ne_i, o_eq_s, o_ne_s, o_lt_i, o_le_i, o_gt_i, o_ge_i, o_in_t, o_in_l, o_nin_t, o_nin_l, o_isn, o_isnn, o_isb, o_isnb, o_tup, o_lst, o_item_l, o_item_t, o_sl00, o_sl10, o_sl01, o_sl11, slX_l, slX_t, o_rev_l, o_rev_t, o_len_l, o_len_t, o_len_s, o_abs, o_int_i, o_int_b, o_sum, o_max1, o_min1, o_max2, o_min2, o_all_map, o_any_map, o_sorted_l, o_sorted_t, o_sorted_s, o_set_l, o_set_t, o_bor_s, o_tuple_l, o_tuple_t, o_list_l, o_list_t, o_list_scr, o_isint, o_isbool, o_isstr, o_istuple, o_islist, isO_non, isO_bl, isO_int, isO_str, isO_tup, isO_lst, o_isexc, o_tru_b, o_tru_i, o_tru_n, o_tru_l, o_tru_t, iterD_l, iterD_t, range1, range2, fin_ok, fin_err, fin_ok1, fin_err1, fin_if, withD_own, withD_ino, ml_own, ml_ino, unlend_nil, back_nil, store_eq, put_n, put_t, puts_nil, puts_cons, wipeR_eq, wipe_nil, wipe_cons, back_cons, cx_call, cx_lam, cx_noio, lim_lit, Int.toNat_natCast, cut_init, cut_from, cut_last, cut_but, at0, at1, at2, subR_ino0, subR_ino1, List.set_cons_zero, List.set_cons_succ, List.length_cons, List.length_nil, List.all_cons, List.all_nil, List.nil_append, List.cons_append, List.append_nil, List.map_cons, List.map_nil, List.elem_nil, not_true_eq_false, not_false_eq_true, Bool.and_true, Bool.true_and, Bool.and_self, Bool.not_true, Bool.not_false, Bool.and_false, Bool.false_and, Bool.or_true, Bool.true_or, Bool.or_false, Bool.false_or, Bool.or_self, decide_true, decide_false, decide_eq_true_eq, Bool.false_eq_true, if_true, if_false, ite_true, ite_false, Option.map_some, Option.map_none, Option.isSome_some, Nat.zero_add, Nat.reduceAdd, Nat.reduceLT, Nat.reduceLeDiff, Nat.reduceEqDiff, Nat.reduceBEq, Nat.reduceSub, Nat.reduceMul, Int.reduceLT, Int.reduceLE, Int.reduceAdd, Int.reduceSub, Int.reduceNeg, Int.reduceEq, Int.reduceMul, Int.reduceToNat, reduceIte, lotD, okd5, okd_lot, e1, e2]
        by_cases h1 : j ∈ l <;> by_cases h2 : m ∈ l <;> simp [h1, h2]) (by rw [List.length_zipIdx, hrr.1, lim_lit]; omega)]
      have hok : ∀ l : List (List Nat × Nat), okE (.lst (l.map fun p => D.int (p.2 : Nat))) (.lst []) = true := fun l => by
        unfold okE
        have : D.okd 60 (.lst (l.map fun p => D.int (p.2 : Nat))) = true := by
          rw [D.okd, List.all_map, List.all_eq_true]; intro x _; rfl
        rw [this]; rfl
      simp -implicitDefEqProofs only [ev_k, ev_v, ev_op, ev_bop, evB_one, evB_and, evB_or, ev_nt, ev_ite, ev_chain, ev_call, ev_fn, ev_as0, ev_asE, ev_asB, ev_cs0, ev_cs, ev_iE, ev_iB, ev_iR, ev_iN, ev_iZ, ev_iV, ev_comp, ex_for, ev_conv, convR_range, lendR_some, ex_asg, ex_par, ex_tup, ex_ex, ex_ret, ex_retN, ex_ite, ex_raise, ex_pass, ex_cont, ex_app, ex_sub, exs0, exs, condR_bl, condS_bl, notR_bl, andR_bl, orR_bl, condC_bl, chR_bl, bind_ok, bind_err, bind_bad, bind_if, toS_ok, toS_err, toS_if, sbind_nx, sbind_rt, sbind_ct, sbind_er, sbind_if, ofO_some, ofO_if, ofO_none, putR_some, getS_z, getS_s, vS_fz, vS_own, appR_own, appR_ino, parS, open_no, open_fz, open_own, mut_own, mut_ino, loose_no, loose_fz, val_fz, val_own, val_ino, val_lent, As.bs, As.mask, nodupB, endS_rt, endS_nx, endS_er, endS_if, outE_some, outS_nil, outS_f, outS_t, Tg.slots, Tg.slotss, Option.bind_some, It.lends, bodyP_some, body_eq, fbody_eq, fbodyP_some, D.isNon, o_add_i, o_add_l, o_add_t, o_add_s, o_sub_i, o_mul_i, o_fdiv, o_mod, o_pow, o_neg, o_inv, o_band, o_bor_i, o_shl, o_shr, o_eq_i, o_ne_i, o_eq_s, o_ne_s, o_lt_i, o_le_i, o_gt_i, o_ge_i, o_in_t, o_in_l, o_nin_t, o_nin_l, o_isn, o_isnn, o_isb, o_isnb, o_tup, o_lst, o_item_l, o_item_t, o_sl00, o_sl10, o_sl01, o_sl11, slX_l, slX_t, o_rev_l, o_rev_t, o_len_l, o_len_t, o_len_s, o_abs, o_int_i, o_int_b, o_sum, o_max1, o_min1, o_max2, o_min2, o_all_map, o_any_map, o_sorted_l, o_sorted_t, o_sorted_s, o_set_l, o_set_t, o_bor_s, o_tuple_l, o_tuple_t, o_list_l, o_list_t, o_list_scr, o_isint, o_isbool, o_isstr, o_istuple, o_islist, isO_non, isO_bl, isO_int, isO_str, isO_tup, isO_lst, o_isexc, o_tru_b, o_tru_i, o_tru_n, o_tru_l, o_tru_t, iterD_l, iterD_t, range1, range2, fin_ok, fin_err, fin_ok1, fin_err1, fin_if, withD_own, withD_ino, ml_own, ml_ino, unlend_nil, back_nil, store_eq, put_n, put_t, puts_nil, puts_cons, wipeR_eq, wipe_nil, wipe_cons, back_cons, cx_call, cx_lam, cx_noio, lim_lit, Int.toNat_natCast, cut_init, cut_from, cut_last, cut_but, at0, at1, at2, subR_ino0, subR_ino1, List.set_cons_zero, List.set_cons_succ, List.length_cons, List.length_nil, List.all_cons, List.all_nil, List.nil_append, List.cons_append, List.append_nil, List.map_cons, List.map_nil, List.elem_nil, not_true_eq_false, not_false_eq_true, Bool.and_true, Bool.true_and, Bool.and_self, Bool.not_true, Bool.not_false, Bool.and_false, Bool.false_and, Bool.or_true, Bool.true_or, Bool.or_false, Bool.false_or, Bool.or_self, decide_true, decide_false, decide_eq_true_eq, Bool.false_eq_true, if_true, if_false, ite_true, ite_false, Option.map_some, Option.map_none, Option.isSome_some, Nat.zero_add, Nat.reduceAdd, Nat.reduceLT, Nat.reduceLeDiff, Nat.reduceEqDiff, Nat.reduceBEq, Nat.reduceSub, Nat.reduceMul, Int.reduceLT, Int.reduceLE, Int.reduceAdd, Int.reduceSub, Int.reduceNeg, Int.reduceEq, Int.reduceMul, Int.reduceToNat, reduceIte, o3, o3', o5, o6, g1, o_eq, hok, D.eqv, eqvs_nil, isEmpty_map, filter_isEmpty, hw, g2]
      exact ⟨_, rfl, x3, _, _, rfl, ⟨o3, o3'⟩, rfl, rfl⟩)
  simp -implicitDefEqProofs only [ev_k, ev_v, ev_op, ev_bop, evB_one, evB_and, evB_or, ev_nt, ev_ite, ev_chain, ev_call, ev_fn, ev_as0, ev_asE, ev_asB, ev_cs0, ev_cs, ev_iE, ev_iB, ev_iR, ev_iN, ev_iZ, ev_iV, ev_comp, ex_for, ev_conv, convR_range, lendR_some, ex_asg, ex_par, ex_tup, ex_ex, ex_ret, ex_retN, ex_ite, ex_raise, ex_pass, ex_cont, ex_app, ex_sub, exs0, exs, condR_bl, condS_bl, notR_bl, andR_bl, orR_bl, condC_bl, chR_bl, bind_ok, bind_err, bind_bad, bind_if, toS_ok, toS_err, toS_if, sbind_nx, sbind_rt, sbind_ct, sbind_er, sbind_if, ofO_some, ofO_if, ofO_none, putR_some, getS_z, getS_s, vS_fz, vS_own, appR_own, appR_ino, parS, open_no, open_fz, open_own, mut_own, mut_ino, loose_no, loose_fz, val_fz, val_own, val_ino, val_lent, As.bs, As.mask, nodupB, endS_rt, endS_nx, endS_er, endS_if, outE_some, outS_nil, outS_f, outS_t, Tg.slots, Tg.slotss, Option.bind_some, It.lends, bodyP_some, body_eq, fbody_eq, fbodyP_some, D.isNon, o_add_i, o_add_l, o_add_t, o_add_s, o_sub_i, o_mul_i, o_fdiv, o_mod, o_pow, o_neg, o_inv, o_band, o_bor_i, o_shl, o_shr, o_eq_i, o_ne_i, o_eq_s, o_ne_s, o_lt_i, o_le_i, o_gt_i, o_ge_i, o_in_t, o_in_l, o_nin_t, o_nin_l, o_isn, o_isnn, o_isb, o_isnb, o_tup, o_lst, o_item_l, o_item_t, o_sl00, o_sl10, o_sl01, o_sl11, slX_l, slX_t, o_rev_l, o_rev_t, o_len_l, o_len_t, o_len_s, o_abs, o_int_i, o_int_b, o_sum, o_max1, o_min1, o_max2, o_min2, o_all_map, o_any_map, o_sorted_l, o_sorted_t, o_sorted_s, o_set_l, o_set_t, o_bor_s, o_tuple_l, o_tuple_t, o_list_l, o_list_t, o_list_scr, o_isint, o_isbool, o_isstr, o_istuple, o_islist, isO_non, isO_bl, isO_int, isO_str, isO_tup, isO_lst, o_isexc, o_tru_b, o_tru_i, o_tru_n, o_tru_l, o_tru_t, iterD_l, iterD_t, range1, range2, fin_ok, fin_err, fin_ok1, fin_err1, fin_if, withD_own, withD_ino, ml_own, ml_ino, unlend_nil, back_nil, store_eq, put_n, put_t, puts_nil, puts_cons, wipeR_eq, wipe_nil, wipe_cons, back_cons, cx_call, cx_lam, cx_noio, lim_lit, Int.toNat_natCast, cut_init, cut_from, cut_last, cut_but, at0, at1, at2, subR_ino0, subR_ino1, List.set_cons_zero, List.set_cons_succ, List.length_cons, List.length_nil, List.all_cons, List.all_nil, List.nil_append, List.cons_append, List.append_nil, List.map_cons, List.map_nil, List.elem_nil, not_true_eq_false, not_false_eq_true, Bool.and_true, Bool.true_and, Bool.and_self, Bool.not_true, Bool.not_false, Bool.and_false, Bool.false_and, Bool.or_true, Bool.true_or, Bool.or_false, Bool.false_or, Bool.or_self, decide_true, decide_false, decide_eq_true_eq, Bool.false_eq_true, if_true, if_false, ite_true, ite_false, Option.map_some, Option.map_none, Option.isSome_some, Nat.zero_add, Nat.reduceAdd, Nat.reduceLT, Nat.reduceLeDiff, Nat.reduceEqDiff, Nat.reduceBEq, Nat.reduceSub, Nat.reduceMul, Int.reduceLT, Int.reduceLE, Int.reduceAdd, Int.reduceSub, Int.reduceNeg, Int.reduceEq, Int.reduceMul, Int.reduceToNat, reduceIte]
  have hsz : ∀ l ∈ ls, l.length ≤ 4 := fun l hl => by have := lot_len (hls l hl); omega
  obtain ⟨o3, o3'⟩ := o3
  rw [loopC_mapL (fun l => .bl (isLot m (lotD l))) (fun l hl => by
    simp -implicitDefEqProofs only [ev_k, ev_v, ev_op, ev_bop, evB_one, evB_and, evB_or, ev_nt, ev_ite, ev_chain, ev_call, ev_fn, ev_as0, ev_asE, ev_asB, ev_cs0, ev_cs, ev_iE, ev_iB, ev_iR, ev_iN, ev_iZ, ev_iV, ev_comp, ex_for, ev_conv, convR_range, lendR_some, ex_asg, ex_par, ex_tup, ex_ex, ex_ret, ex_retN, ex_ite, ex_raise, ex_pass, ex_cont, ex_app, ex_sub, exs0, exs, condR_bl, condS_bl, notR_bl, andR_bl, orR_bl, condC_bl, chR_bl, bind_ok, bind_err, bind_bad, bind_if, toS_ok, toS_err, toS_if, sbind_nx, sbind_rt, sbind_ct, sbind_er, sbind_if, ofO_some, ofO_if, ofO_none, putR_some, getS_z, getS_s, vS_fz, vS_own, appR_own, appR_ino, parS, open_no, open_fz, open_own, mut_own, mut_ino, loose_no, loose_fz, val_fz, val_own, val_ino, val_lent, As.bs, As.mask, nodupB, endS_rt, endS_nx, endS_er, endS_if, outE_some, outS_nil, outS_f, outS_t, Tg.slots, Tg.slotss, Option.bind_some, It.lends, bodyP_some, body_eq, fbody_eq, fbodyP_some, D.isNon, o_add_i, o_add_l, o_add_t, o_add_s, o_sub_i, o_mul_i, o_fdiv, o_mod, o_pow, o_neg, o_inv, o_band, o_bor_i, o_shl, o_shr, o_eq_i, o_ne_i, o_eq_s, o_ne_s, o_lt_i, o_le_i, o_gt_i, o_ge_i, o_in_t, o_in_l, o_nin_t, o_nin_l, o_isn, o_isnn, o_isb, o_isnb, o_tup, o_lst, o_item_l, o_item_t, o_sl00, o_sl10, o_sl01, o_sl11, slX_l, slX_t, o_rev_l, o_rev_t, o_len_l, o_len_t, o_len_s, o_abs, o_int_i, o_int_b, o_sum, o_max1, o_min1, o_max2, o_min2, o_all_map, o_any_map, o_sorted_l, o_sorted_t, o_sorted_s, o_set_l, o_set_t, o_bor_s, o_tuple_l, o_tuple_t, o_list_l, o_list_t, o_list_scr, o_isint, o_isbool, o_isstr, o_istuple, o_islist, isO_non, isO_bl, isO_int, isO_str, isO_tup, isO_lst, o_isexc, o_tru_b, o_tru_i, o_tru_n, o_tru_l, o_tru_t, iterD_l, iterD_t, range1, range2, fin_ok, fin_err, fin_ok1, fin_err1, fin_if, withD_own, withD_ino, ml_own, ml_ino, unlend_nil, back_nil, store_eq, put_n, put_t, puts_nil, puts_cons, wipeR_eq, wipe_nil, wipe_cons, back_cons, cx_call, cx_lam, cx_noio, lim_lit, Int.toNat_natCast, cut_init, cut_from, cut_last, cut_but, at0, at1, at2, subR_ino0, subR_ino1, List.set_cons_zero, List.set_cons_succ, List.length_cons, List.length_nil, List.all_cons, List.all_nil, List.nil_append, List.cons_append, List.append_nil, List.map_cons, List.map_nil, List.elem_nil, not_true_eq_false, not_false_eq_true, Bool.and_true, Bool.true_and, Bool.and_self, Bool.not_true, Bool.not_false, Bool.and_false, Bool.false_and, Bool.or_true, Bool.true_or, Bool.or_false, Bool.false_or, Bool.or_self, decide_true, decide_false, decide_eq_true_eq, Bool.false_eq_true, if_true, if_false, ite_true, ite_false, Option.map_some, Option.map_none, Option.isSome_some, Nat.zero_add, Nat.reduceAdd, Nat.reduceLT, Nat.reduceLeDiff, Nat.reduceEqDiff, Nat.reduceBEq, Nat.reduceSub, Nat.reduceMul, Int.reduceLT, Int.reduceLE, Int.reduceAdd, Int.reduceSub, Int.reduceNeg, Int.reduceEq, Int.reduceMul, Int.reduceToNat, reduceIte, o3, o3', o5, o6, lotD]
    rw [loopC_filtL (fun (x : Nat) => decide ((m : Int) ≤ x)) (fun _ => .int 1) (fun x hx => by
      simp -implicitDefEqProofs only [ev_k, ev_v, ev_op, ev_bop, evB_one, evB_and, evB_or, ev_nt, ev_ite, ev_chain, ev_call, ev_fn, ev_as0, ev_asE, ev_asB, ev_cs0, ev_cs, ev_iE, ev_iB, ev_iR, ev_iN, ev_iZ, ev_iV, ev_comp, ex_for, ev_conv, convR_range, lendR_some, ex_asg, ex_par, ex_tup, ex_ex, ex_ret, ex_retN, ex_ite, ex_raise, ex_pass, ex_cont, ex_app, ex_sub, exs0, exs, condR_bl, condS_bl, notR_bl, andR_bl, orR_bl, condC_bl, chR_bl, bind_ok, bind_err, bind_bad, bind_if, toS_ok, toS_err, toS_if, sbind_nx, sbind_rt, sbind_ct, sbind_er, sbind_if, ofO_some, ofO_if, ofO_none, putR_some, getS_z, getS_s, vS_fz, vS_own, appR_own, appR_ino, parS, open_no, open_fz, open_own, mut_own, mut_ino, loose_no, loose_fz, val_fz, val_own, val_ino, val_lent, As.bs, As.mask, nodupB, endS_rt, endS_nx, endS_er, endS_if, outE_some, outS_nil, outS_f, outS_t, Tg.slots, Tg.slotss, Option.bind_some, It.lends, bodyP_some, body_eq, fbody_eq, fbodyP_some, D.isNon, o_add_i, o_add_l, o_add_t, o_add_s, o_sub_i, o_mul_i, o_fdiv, o_mod, o_pow, o_neg, o_inv, o_band, o_bor_i, o_shl, o_shr, o_eq_i, o_ne_i, o_eq_s, o_ne_s, o_lt_i, o_le_i, o_gt_i, o_ge_i, o_in_t, o_in_l, o_nin_t, o_nin_l, o_isn, o_isnn, o_isb, o_isnb, o_tup, o_lst, o_item_l, o_item_t, o_sl00, o_sl10, o_sl01, o_sl11, slX_l, slX_t, o_rev_l, o_rev_t, o_len_l, o_len_t, o_len_s, o_abs, o_int_i, o_int_b, o_sum, o_max1, o_min1, o_max2, o_min2, o_all_map, o_any_map, o_sorted_l, o_sorted_t, o_sorted_s, o_set_l, o_set_t, o_bor_s, o_tuple_l, o_tuple_t, o_list_l, o_list_t, o_list_scr, o_isint, o_isbool, o_isstr, o_istuple, o_islist, isO_non, isO_bl, isO_int, isO_str, isO_tup, isO_lst, o_isexc, o_tru_b, o_tru_i, o_tru_n, o_tru_l, o_tru_t, iterD_l, iterD_t, range1, range2, fin_ok, fin_err, fin_ok1, fin_err1, fin_if, withD_own, withD_ino, ml_own, ml_ino, unlend_nil, back_nil, store_eq, put_n, put_t, puts_nil, puts_cons, wipeR_eq, wipe_nil, wipe_cons, back_cons, cx_call, cx_lam, cx_noio, lim_lit, Int.toNat_natCast, cut_init, cut_from, cut_last, cut_but, at0, at1, at2, subR_ino0, subR_ino1, List.set_cons_zero, List.set_cons_succ, List.length_cons, List.length_nil, List.all_cons, List.all_nil, List.nil_append, List.cons_append, List.append_nil, List.map_cons, List.map_nil, List.elem_nil, not_true_eq_false, not_false_eq_true, Bool.and_true, Bool.true_and, Bool.and_self, Bool.not_true, Bool.not_false, Bool.and_false, Bool.false_and, Bool.or_true, Bool.true_or, Bool.or_false, Bool.false_or, Bool.or_self, decide_true, decide_false, decide_eq_true_eq, Bool.false_eq_true, if_true, if_false, ite_true, ite_false, Option.map_some, Option.map_none, Option.isSome_some, Nat.zero_add, Nat.reduceAdd, Nat.reduceLT, Nat.reduceLeDiff, Nat.reduceEqDiff, Nat.reduceBEq, Nat.reduceSub, Nat.reduceMul, Int.reduceLT, Int.reduceLE, Int.reduceAdd, Int.reduceSub, Int.reduceNeg, Int.reduceEq, Int.reduceMul, Int.reduceToNat, reduceIte]
      split <;> rfl) (by have := hsz l hl; rw [lim_lit]; omega)]
    simp -implicitDefEqProofs only [ev_k, ev_v, ev_op, ev_bop, evB_one, evB_and, evB_or, ev_nt, ev_ite, ev_chain, ev_call, ev_fn, ev_as0, ev_asE, ev_asB, ev_cs0, ev_cs, ev_iE, ev_iB, ev_iR, ev_iN, ev_iZ, ev_iV, ev_comp, ex_for, ev_conv, convR_range, lendR_some, ex_asg, ex_par, ex_tup, ex_ex, ex_ret, ex_retN, ex_ite, ex_raise, ex_pass, ex_cont, ex_app, ex_sub, exs0, exs, condR_bl, condS_bl, notR_bl, andR_bl, orR_bl, condC_bl, chR_bl, bind_ok, bind_err, bind_bad, bind_if, toS_ok, toS_err, toS_if, sbind_nx, sbind_rt, sbind_ct, sbind_er, sbind_if, ofO_some, ofO_if, ofO_none, putR_some, getS_z, getS_s, vS_fz, vS_own, appR_own, appR_ino, parS, open_no, open_fz, open_own, mut_own, mut_ino, loose_no, loose_fz, val_fz, val_own, val_ino, val_lent, As.bs, As.mask, nodupB, endS_rt, endS_nx, endS_er, endS_if, outE_some, outS_nil, outS_f, outS_t, Tg.slots, Tg.slotss, Option.bind_some, It.lends, bodyP_some, body_eq, fbody_eq, fbodyP_some, D.isNon, o_add_i, o_add_l, o_add_t, o_add_s, o_sub_i, o_mul_i, o_fdiv, o_mod, o_pow, o_neg, o_inv, o_band, o_bor_i, o_shl, o_shr, o_eq_i, o_ne_i, o_eq_s, o_ne_s, o_lt_i, o_le_i, o_gt_i, o_ge_i, o_in_t, o_in_l, o_nin_t, o_nin_l, o_isn, o_isnn, o_isb, o_isnb, o_tup, o_lst, o_item_l, o_item_t, o_sl00, o_sl10, o_sl01, o_sl11, slX_l, slX_t, o_rev_l, o_rev_t, o_len_l, o_len_t, o_len_s, o_abs, o_int_i, o_int_b, o_sum, o_max1, o_min1, o_max2, o_min2, o_all_map, o_any_map, o_sorted_l, o_sorted_t, o_sorted_s, o_set_l, o_set_t, o_bor_s, o_tuple_l, o_tuple_t, o_list_l, o_list_t, o_list_scr, o_isint, o_isbool, o_isstr, o_istuple, o_islist, isO_non, isO_bl, isO_int, isO_str, isO_tup, isO_lst, o_isexc, o_tru_b, o_tru_i, o_tru_n, o_tru_l, o_tru_t, iterD_l, iterD_t, range1, range2, fin_ok, fin_err, fin_ok1, fin_err1, fin_if, withD_own, withD_ino, ml_own, ml_ino, unlend_nil, back_nil, store_eq, put_n, put_t, puts_nil, puts_cons, wipeR_eq, wipe_nil, wipe_cons, back_cons, cx_call, cx_lam, cx_noio, lim_lit, Int.toNat_natCast, cut_init, cut_from, cut_last, cut_but, at0, at1, at2, subR_ino0, subR_ino1, List.set_cons_zero, List.set_cons_succ, List.length_cons, List.length_nil, List.all_cons, List.all_nil, List.nil_append, List.cons_append, List.append_nil, List.map_cons, List.map_nil, List.elem_nil, not_true_eq_false, not_false_eq_true, Bool.and_true, Bool.true_and, Bool.and_self, Bool.not_true, Bool.not_false, Bool.and_false, Bool.false_and, Bool.or_true, Bool.true_or, Bool.or_false, Bool.false_or, Bool.or_self, decide_true, decide_false, decide_eq_true_eq, Bool.false_eq_true, if_true, if_false, ite_true, ite_false, Option.map_some, Option.map_none, Option.isSome_some, Nat.zero_add, Nat.reduceAdd, Nat.reduceLT, Nat.reduceLeDiff, Nat.reduceEqDiff, Nat.reduceBEq, Nat.reduceSub, Nat.reduceMul, Int.reduceLT, Int.reduceLE, Int.reduceAdd, Int.reduceSub, Int.reduceNeg, Int.reduceEq, Int.reduceMul, Int.reduceToNat, reduceIte, List.length_map]
    have e : decide (((l.filter fun (x : Nat) => decide ((m : Int) ≤ x)).length : Int) = 0) = isLot m (lotD l) := by
      have hq := hls l hl
      by_cases hm2 : m ∈ l
      · rw [isLot_false fun q => by have := q.lt m hm2; omega, decide_eq_false]
        have : 0 < (l.filter fun (x : Nat) => decide ((m : Int) ≤ x)).length := List.length_pos_of_mem (List.mem_filter.mpr ⟨hm2, by simp⟩)
        omega
      · rw [isLot_nat.mpr ⟨hq.asc, fun x hx => by
          have := hq.lt x hx
          have : x ≠ m := fun e => hm2 (e ▸ hx)
          omega⟩, decide_eq_true]
        have : (l.filter fun (x : Nat) => decide ((m : Int) ≤ x)) = [] := by
          rw [List.filter_eq_nil_iff]
          intro x hx
          have := hq.lt x hx
          have : x ≠ m := fun e => hm2 (e ▸ hx)
          simp only [decide_eq_true_eq]
          omega
        rw [this]; rfl
    rw [e]
    rfl) (by rw [lim_lit]; omega)]
  simp -implicitDefEqProofs only [ev_k, ev_v, ev_op, ev_bop, evB_one, evB_and, evB_or, ev_nt, ev_ite, ev_chain, ev_call, ev_fn, ev_as0, ev_asE, ev_asB, ev_cs0, ev_cs, ev_iE, ev_iB, ev_iR, ev_iN, ev_iZ, ev_iV, ev_comp, ex_for, ev_conv, convR_range, lendR_some, ex_asg, ex_par, ex_tup, ex_ex, ex_ret, ex_retN, ex_ite, ex_raise, ex_pass, ex_cont, ex_app, ex_sub, exs0, exs, condR_bl, condS_bl, notR_bl, andR_bl, orR_bl, condC_bl, chR_bl, bind_ok, bind_err, bind_bad, bind_if, toS_ok, toS_err, toS_if, sbind_nx, sbind_rt, sbind_ct, sbind_er, sbind_if, ofO_some, ofO_if, ofO_none, putR_some, getS_z, getS_s, vS_fz, vS_own, appR_own, appR_ino, parS, open_no, open_fz, open_own, mut_own, mut_ino, loose_no, loose_fz, val_fz, val_own, val_ino, val_lent, As.bs, As.mask, nodupB, endS_rt, endS_nx, endS_er, endS_if, outE_some, outS_nil, outS_f, outS_t, Tg.slots, Tg.slotss, Option.bind_some, It.lends, bodyP_some, body_eq, fbody_eq, fbodyP_some, D.isNon, o_add_i, o_add_l, o_add_t, o_add_s, o_sub_i, o_mul_i, o_fdiv, o_mod, o_pow, o_neg, o_inv, o_band, o_bor_i, o_shl, o_shr, o_eq_i, o_ne_i, o_eq_s, o_ne_s, o_lt_i, o_le_i, o_gt_i, o_ge_i, o_in_t, o_in_l, o_nin_t, o_nin_l, o_isn, o_isnn, o_isb, o_isnb, o_tup, o_lst, o_item_l, o_item_t, o_sl00, o_sl10, o_sl01, o_sl11, slX_l, slX_t, o_rev_l, o_rev_t, o_len_l, o_len_t, o_len_s, o_abs, o_int_i, o_int_b, o_sum, o_max1, o_min1, o_max2, o_min2, o_all_map, o_any_map, o_sorted_l, o_sorted_t, o_sorted_s, o_set_l, o_set_t, o_bor_s, o_tuple_l, o_tuple_t, o_list_l, o_list_t, o_list_scr, o_isint, o_isbool, o_isstr, o_istuple, o_islist, isO_non, isO_bl, isO_int, isO_str, isO_tup, isO_lst, o_isexc, o_tru_b, o_tru_i, o_tru_n, o_tru_l, o_tru_t, iterD_l, iterD_t, range1, range2, fin_ok, fin_err, fin_ok1, fin_err1, fin_if, withD_own, withD_ino, ml_own, ml_ino, unlend_nil, back_nil, store_eq, put_n, put_t, puts_nil, puts_cons, wipeR_eq, wipe_nil, wipe_cons, back_cons, cx_call, cx_lam, cx_noio, lim_lit, Int.toNat_natCast, cut_init, cut_from, cut_last, cut_but, at0, at1, at2, subR_ino0, subR_ino1, List.set_cons_zero, List.set_cons_succ, List.length_cons, List.length_nil, List.all_cons, List.all_nil, List.nil_append, List.cons_append, List.append_nil, List.map_cons, List.map_nil, List.elem_nil, not_true_eq_false, not_false_eq_true, Bool.and_true, Bool.true_and, Bool.and_self, Bool.not_true, Bool.not_false, Bool.and_false, Bool.false_and, Bool.or_true, Bool.true_or, Bool.or_false, Bool.false_or, Bool.or_self, decide_true, decide_false, decide_eq_true_eq, Bool.false_eq_true, if_true, if_false, ite_true, ite_false, Option.map_some, Option.map_none, Option.isSome_some, Nat.zero_add, Nat.reduceAdd, Nat.reduceLT, Nat.reduceLeDiff, Nat.reduceEqDiff, Nat.reduceBEq, Nat.reduceSub, Nat.reduceMul, Int.reduceLT, Int.reduceLE, Int.reduceAdd, Int.reduceSub, Int.reduceNeg, Int.reduceEq, Int.reduceMul, Int.reduceToNat, reduceIte, o3, o3', o5, o6]
  rw [loopC_mapL (fun l => .bl (isLot m (lotD l))) (fun l hl => by
    have g := lot_ok (n := n + 15) (m := m) hm (by omega) (l := l) (by have := hsz l hl; omega)
    simp -implicitDefEqProofs only [ev_k, ev_v, ev_op, ev_bop, evB_one, evB_and, evB_or, ev_nt, ev_ite, ev_chain, ev_call, ev_fn, ev_as0, ev_asE, ev_asB, ev_cs0, ev_cs, ev_iE, ev_iB, ev_iR, ev_iN, ev_iZ, ev_iV, ev_comp, ex_for, ev_conv, convR_range, lendR_some, ex_asg, ex_par, ex_tup, ex_ex, ex_ret, ex_retN, ex_ite, ex_raise, ex_pass, ex_cont, ex_app, ex_sub, exs0, exs, condR_bl, condS_bl, notR_bl, andR_bl, orR_bl, condC_bl, chR_bl, bind_ok, bind_err, bind_bad, bind_if, toS_ok, toS_err, toS_if, sbind_nx, sbind_rt, sbind_ct, sbind_er, sbind_if, ofO_some, ofO_if, ofO_none, putR_some, getS_z, getS_s, vS_fz, vS_own, appR_own, appR_ino, parS, open_no, open_fz, open_own, mut_own, mut_ino, loose_no, loose_fz, val_fz, val_own, val_ino, val_lent, As.bs, As.mask, nodupB, endS_rt, endS_nx, endS_er, endS_if, outE_some, outS_nil, outS_f, outS_t, Tg.slots, Tg.slotss, Option.bind_some, It.lends, bodyP_some, body_eq, fbody_eq, fbodyP_some, D.isNon, o_add_i, o_add_l, o_add_t, o_add_s, o_sub_i, o_mul_i, o_fdiv, o_mod, o_pow, o_neg, o_inv, o_band, o_bor_i, o_shl, o_shr, o_eq_i, o_ne_i, o_eq_s, o_ne_s, o_lt_i, o_le_i, o_gt_i, o_ge_i, o_in_t, o_in_l, o_nin_t, o_nin_l, o_isn, o_isnn, o_isb, o_isnb, o_tup, o_lst, o_item_l, o_item_t, o_sl00, o_sl10, o_sl01, o_sl11, slX_l, slX_t, o_rev_l, o_rev_t, o_len_l, o_len_t, o_len_s, o_abs, o_int_i, o_int_b, o_sum, o_max1, o_min1, o_max2, o_min2, o_all_map, o_any_map, o_sorted_l, o_sorted_t, o_sorted_s, o_set_l, o_set_t, o_bor_s, o_tuple_l, o_tuple_t, o_list_l, o_list_t, o_list_scr, o_isint, o_isbool, o_isstr, o_istuple, o_islist, isO_non, isO_bl, isO_int, isO_str, isO_tup, isO_lst, o_isexc, o_tru_b, o_tru_i, o_tru_n, o_tru_l, o_tru_t, iterD_l, iterD_t, range1, range2, fin_ok, fin_err, fin_ok1, fin_err1, fin_if, withD_own, withD_ino, ml_own, ml_ino, unlend_nil, back_nil, store_eq, put_n, put_t, puts_nil, puts_cons, wipeR_eq, wipe_nil, wipe_cons, back_cons, cx_call, cx_lam, cx_noio, lim_lit, Int.toNat_natCast, cut_init, cut_from, cut_last, cut_but, at0, at1, at2, subR_ino0, subR_ino1, List.set_cons_zero, List.set_cons_succ, List.length_cons, List.length_nil, List.all_cons, List.all_nil, List.nil_append, List.cons_append, List.append_nil, List.map_cons, List.map_nil, List.elem_nil, not_true_eq_false, not_false_eq_true, Bool.and_true, Bool.true_and, Bool.and_self, Bool.not_true, Bool.not_false, Bool.and_false, Bool.false_and, Bool.or_true, Bool.true_or, Bool.or_false, Bool.false_or, Bool.or_self, decide_true, decide_false, decide_eq_true_eq, Bool.false_eq_true, if_true, if_false, ite_true, ite_false, Option.map_some, Option.map_none, Option.isSome_some, Nat.zero_add, Nat.reduceAdd, Nat.reduceLT, Nat.reduceLeDiff, Nat.reduceEqDiff, Nat.reduceBEq, Nat.reduceSub, Nat.reduceMul, Int.reduceLT, Int.reduceLE, Int.reduceAdd, Int.reduceSub, Int.reduceNeg, Int.reduceEq, Int.reduceMul, Int.reduceToNat, reduceIte, o3, o3', o5, o6, lotD, g]) (by rw [lim_lit]; omega)]
  have g := law_like_ok 1 (n := n + 16) (d := .lst (ls.map fun l => D.bl (isLot m (lotD l)))) (small1 (by rw [List.length_map]; omega) (fun x hx => by
    obtain ⟨l, _, rfl⟩ := List.mem_map.mp hx
    rfl)) (by decide)
  simp -implicitDefEqProofs only [ev_k, ev_v, ev_op, ev_bop, evB_one, evB_and, evB_or, ev_nt, ev_ite, ev_chain, ev_call, ev_fn, ev_as0, ev_asE, ev_asB, ev_cs0, ev_cs, ev_iE, ev_iB, ev_iR, ev_iN, ev_iZ, ev_iV, ev_comp, ex_for, ev_conv, convR_range, lendR_some, ex_asg, ex_par, ex_tup, ex_ex, ex_ret, ex_retN, ex_ite, ex_raise, ex_pass, ex_cont, ex_app, ex_sub, exs0, exs, condR_bl, condS_bl, notR_bl, andR_bl, orR_bl, condC_bl, chR_bl, bind_ok, bind_err, bind_bad, bind_if, toS_ok, toS_err, toS_if, sbind_nx, sbind_rt, sbind_ct, sbind_er, sbind_if, ofO_some, ofO_if, ofO_none, putR_some, getS_z, getS_s, vS_fz, vS_own, appR_own, appR_ino, parS, open_no, open_fz, open_own, mut_own, mut_ino, loose_no, loose_fz, val_fz, val_own, val_ino, val_lent, As.bs, As.mask, nodupB, endS_rt, endS_nx, endS_er, endS_if, outE_some, outS_nil, outS_f, outS_t, Tg.slots, Tg.slotss, Option.bind_some, It.lends, bodyP_some, body_eq, fbody_eq, fbodyP_some, D.isNon, o_add_i, o_add_l, o_add_t, o_add_s, o_sub_i, o_mul_i, o_fdiv, o_mod, o_pow, o_neg, o_inv, o_band, o_bor_i, o_shl, o_shr, o_eq_i, o_ne_i, o_eq_s, o_ne_s, o_lt_i, o_le_i, o_gt_i, o_ge_i, o_in_t, o_in_l, o_nin_t, o_nin_l, o_isn, o_isnn, o_isb, o_isnb, o_tup, o_lst, o_item_l, o_item_t, o_sl00, o_sl10, o_sl01, o_sl11, slX_l, slX_t, o_rev_l, o_rev_t, o_len_l, o_len_t, o_len_s, o_abs, o_int_i, o_int_b, o_sum, o_max1, o_min1, o_max2, o_min2, o_all_map, o_any_map, o_sorted_l, o_sorted_t, o_sorted_s, o_set_l, o_set_t, o_bor_s, o_tuple_l, o_tuple_t, o_list_l, o_list_t, o_list_scr, o_isint, o_isbool, o_isstr, o_istuple, o_islist, isO_non, isO_bl, isO_int, isO_str, isO_tup, isO_lst, o_isexc, o_tru_b, o_tru_i, o_tru_n, o_tru_l, o_tru_t, iterD_l, iterD_t, range1, range2, fin_ok, fin_err, fin_ok1, fin_err1, fin_if, withD_own, withD_ino, ml_own, ml_ino, unlend_nil, back_nil, store_eq, put_n, put_t, puts_nil, puts_cons, wipeR_eq, wipe_nil, wipe_cons, back_cons, cx_call, cx_lam, cx_noio, lim_lit, Int.toNat_natCast, cut_init, cut_from, cut_last, cut_but, at0, at1, at2, subR_ino0, subR_ino1, List.set_cons_zero, List.set_cons_succ, List.length_cons, List.length_nil, List.all_cons, List.all_nil, List.nil_append, List.cons_append, List.append_nil, List.map_cons, List.map_nil, List.elem_nil, not_true_eq_false, not_false_eq_true, Bool.and_true, Bool.true_and, Bool.and_self, Bool.not_true, Bool.not_false, Bool.and_false, Bool.false_and, Bool.or_true, Bool.true_or, Bool.or_false, Bool.false_or, Bool.or_self, decide_true, decide_false, decide_eq_true_eq, Bool.false_eq_true, if_true, if_false, ite_true, ite_false, Option.map_some, Option.map_none, Option.isSome_some, Nat.zero_add, Nat.reduceAdd, Nat.reduceLT, Nat.reduceLeDiff, Nat.reduceEqDiff, Nat.reduceBEq, Nat.reduceSub, Nat.reduceMul, Int.reduceLT, Int.reduceLE, Int.reduceAdd, Int.reduceSub, Int.reduceNeg, Int.reduceEq, Int.reduceMul, Int.reduceToNat, reduceIte, g]

/-! ### the law -/
def isT : FRes → Bool
  | .ok (.bl b) [] => b
  | _ => false
theorem isT_ok {r : FRes} (h : isT r = true) : r = .ok (.bl true) [] := by
  unfold isT at h
  split at h
  · subst h; rfl
  · cases h
theorem errors_right : Φ prog 39 23 [] = .ok (.bl true) [] := isT_ok (by decide +kernel)
mutual
def sameD : D → D → Bool
  | .non, .non => true
  | .bl a, .bl b => decide (a = b)
  | .int a, .int b => decide (a = b)
  | .str a, .str b => decide (a = b)
  | .tup a, .tup b => sameDs a b
  | .lst a, .lst b => sameDs a b
  | _, _ => false
def sameDs : List D → List D → Bool
  | [], [] => true
  | a :: as, b :: bs => sameD a b && sameDs as bs
  | _, _ => false
end
mutual
theorem sameD_eq : ∀ (a b : D), sameD a b = true → a = b
  | .non, b, h => by cases b <;> simp_all [sameD]
  | .bl a, b, h => by cases b <;> simp_all [sameD]
  | .int a, b, h => by cases b <;> simp_all [sameD]
  | .str a, b, h => by cases b <;> simp_all [sameD]
  | .tup a, b, h => by
    cases b with
    | tup b => rw [sameD] at h; rw [sameDs_eq a b h]
    | _ => simp [sameD] at h
  | .lst a, b, h => by
    cases b with
    | lst b => rw [sameD] at h; rw [sameDs_eq a b h]
    | _ => simp [sameD] at h
  | .set a, b, h => by simp [sameD] at h
  | .dic a c, b, h => by simp [sameD] at h
  | .fn a, b, h => by simp [sameD] at h
  | .exc a x, b, h => by simp [sameD] at h
  | .scr a, b, h => by simp [sameD] at h
  | .lam, b, h => by simp [sameD] at h
theorem sameDs_eq : ∀ (a b : List D), sameDs a b = true → a = b
  | [], [], h => rfl
  | [], _ :: _, h => by simp [sameDs] at h
  | _ :: _, [], h => by simp [sameDs] at h
  | a :: as, b :: bs, h => by
    rw [sameDs, Bool.and_eq_true] at h
    rw [sameD_eq a b h.1, sameDs_eq as bs h.2]
end
def isV (d : D) : FRes → Bool
  | .ok e [] => sameD e d
  | _ => false
theorem isV_ok {r : FRes} {d : D} (h : isV d r = true) : r = .ok d [] := by
  unfold isV at h
  split at h
  · rw [sameD_eq _ _ h]
  · cases h
theorem law_phi : ∀ ns : List Int, ns.length ≤ 63 → (∀ z ∈ ns, PySem.Builtin.Int.intBits z ≤ 1048576) → Φ prog 40 24 [.scr ns] = .ok (.bl true) [] := by
  intro ns hns _
  obtain ⟨c, e1, hc⟩ := law_cup_ok (n := 38) hns
  have s1 : Φ prog 39 19 [.int 1] = .ok (.bl true) [] := law_small_ok (n := 19) (m := 1) (by omega) (by omega)
  have s2 : Φ prog 39 19 [.int 2] = .ok (.bl true) [] := law_small_ok (n := 19) (m := 2) (by omega) (by omega)
  have s3 : Φ prog 39 19 [.int 3] = .ok (.bl true) [] := law_small_ok (n := 19) (m := 3) (by omega) (by omega)
  have w1 : Φ prog 39 9 [.tup [.tup [.int 0, .int 1], .tup [.int 1], .tup [.int 0, .int 1, .int 2]]] = .ok (.bl true) [] := isV_ok (by decide +kernel)
  have w2 : Φ prog 39 9 [.tup [.tup [.int 0]]] = .ok (.bl true) [] := isV_ok (by decide +kernel)
  have w3 : Φ prog 39 9 [.tup [.tup [.int 1, .int 0], .tup [.int 1]]] = .ok (.bl false) [] := isV_ok (by decide +kernel)
  have w4 : Φ prog 39 10 [.int 3, .tup [.int 0, .int 2]] = .ok (.bl true) [] := isV_ok (by decide +kernel)
  have w5 : Φ prog 39 10 [.int 3, .tup []] = .ok (.bl true) [] := isV_ok (by decide +kernel)
  have w6 : Φ prog 39 10 [.int 3, .tup [.int 3]] = .ok (.bl false) [] := isV_ok (by decide +kernel)
  have w7 : Φ prog 39 11 [.tup [.tup [.int 0, .int 1], .tup [.int 1], .tup [.int 0, .int 1, .int 2]], .int 2] = .ok (.tup [.int 0, .int 1, .int 2]) [] := isV_ok (by decide +kernel)
  have w8 : Φ prog 39 12 [.tup [.tup [.int 0, .int 1], .tup [.int 1], .tup [.int 0, .int 1, .int 2]], .int 1] = .ok (.tup [.int 0, .int 1, .int 2]) [] := isV_ok (by decide +kernel)
  have w9 : Φ prog 39 12 [.tup [.tup [.int 0, .int 1], .tup [.int 1], .tup [.int 0, .int 1, .int 2]], .int 2] = .ok (.tup [.int 2]) [] := isV_ok (by decide +kernel)
  have g := law_like_ok 2 (n := 35) (d := .lst [.bl true, .bl true, .bl false, .bl true, .bl true, .bl false, .tup [.int 0, .int 1, .int 2], .tup [.int 0, .int 1, .int 2], .tup [.int 2]]) (by decide +kernel) (by decide)
  rw [u24, k24]
  simp -implicitDefEqProofs only [ev_k, ev_v, ev_op, ev_bop, evB_one, evB_and, evB_or, ev_nt, ev_ite, ev_chain, ev_call, ev_fn, ev_as0, ev_asE, ev_asB, ev_cs0, ev_cs, ev_iE, ev_iB, ev_iR, ev_iN, ev_iZ, ev_iV, ev_comp, ex_for, ev_conv, convR_range, lendR_some, ex_asg, ex_par, ex_tup, ex_ex, ex_ret, ex_retN, ex_ite, ex_raise, ex_pass, ex_cont, ex_app, ex_sub, exs0, exs, condR_bl, condS_bl, notR_bl, andR_bl, orR_bl, condC_bl, chR_bl, bind_ok, bind_err, bind_bad, bind_if, toS_ok, toS_err, toS_if, sbind_nx, sbind_rt, sbind_ct, sbind_er, sbind_if, ofO_some, ofO_if, ofO_none, putR_some, getS_z, getS_s, vS_fz, vS_own, appR_own, appR_ino, parS, open_no, open_fz, open_own, mut_own, mut_ino, loose_no, loose_fz, val_fz, val_own, val_ino, val_lent, As.bs, As.mask, nodupB, endS_rt, endS_nx, endS_er, endS_if, outE_some, outS_nil, outS_f, outS_t, Tg.slots, Tg.slotss, Option.bind_some, It.lends, bodyP_some, body_eq, fbody_eq, fbodyP_some, D.isNon, o_add_i, o_add_l, o_add_t, o_add_s, o_sub_i, o_mul_i, o_fdiv, o_mod, o_pow, o_neg, o_inv, o_band, o_bor_i, o_shl, o_shr, o_eq_i, o_ne_i, o_eq_s, o_ne_s, o_lt_i, o_le_i, o_gt_i, o_ge_i, o_in_t, o_in_l, o_nin_t, o_nin_l, o_isn, o_isnn, o_isb, o_isnb, o_tup, o_lst, o_item_l, o_item_t, o_sl00, o_sl10, o_sl01, o_sl11, slX_l, slX_t, o_rev_l, o_rev_t, o_len_l, o_len_t, o_len_s, o_abs, o_int_i, o_int_b, o_sum, o_max1, o_min1, o_max2, o_min2, o_all_map, o_any_map, o_sorted_l, o_sorted_t, o_sorted_s, o_set_l, o_set_t, o_bor_s, o_tuple_l, o_tuple_t, o_list_l, o_list_t, o_list_scr, o_isint, o_isbool, o_isstr, o_istuple, o_islist, isO_non, isO_bl, isO_int, isO_str, isO_tup, isO_lst, o_isexc, o_tru_b, o_tru_i, o_tru_n, o_tru_l, o_tru_t, iterD_l, iterD_t, range1, range2, fin_ok, fin_err, fin_ok1, fin_err1, fin_if, withD_own, withD_ino, ml_own, ml_ino, unlend_nil, back_nil, store_eq, put_n, put_t, puts_nil, puts_cons, wipeR_eq, wipe_nil, wipe_cons, back_cons, cx_call, cx_lam, cx_noio, lim_lit, Int.toNat_natCast, cut_init, cut_from, cut_last, cut_but, at0, at1, at2, subR_ino0, subR_ino1, List.set_cons_zero, List.set_cons_succ, List.length_cons, List.length_nil, List.all_cons, List.all_nil, List.nil_append, List.cons_append, List.append_nil, List.map_cons, List.map_nil, List.elem_nil, not_true_eq_false, not_false_eq_true, Bool.and_true, Bool.true_and, Bool.and_self, Bool.not_true, Bool.not_false, Bool.and_false, Bool.false_and, Bool.or_true, Bool.true_or, Bool.or_false, Bool.false_or, Bool.or_self, decide_true, decide_false, decide_eq_true_eq, Bool.false_eq_true, if_true, if_false, ite_true, ite_false, Option.map_some, Option.map_none, Option.isSome_some, Nat.zero_add, Nat.reduceAdd, Nat.reduceLT, Nat.reduceLeDiff, Nat.reduceEqDiff, Nat.reduceBEq, Nat.reduceSub, Nat.reduceMul, Int.reduceLT, Int.reduceLE, Int.reduceAdd, Int.reduceSub, Int.reduceNeg, Int.reduceEq, Int.reduceMul, Int.reduceToNat, reduceIte, w1, w2, w3, w4, w5, w6, w7, w8, w9, g, errors_right]
  rw [loopC_none (by simp -implicitDefEqProofs only [ev_k, ev_v, ev_op, ev_bop, evB_one, evB_and, evB_or, ev_nt, ev_ite, ev_chain, ev_call, ev_fn, ev_as0, ev_asE, ev_asB, ev_cs0, ev_cs, ev_iE, ev_iB, ev_iR, ev_iN, ev_iZ, ev_iV, ev_comp, ex_for, ev_conv, convR_range, lendR_some, ex_asg, ex_par, ex_tup, ex_ex, ex_ret, ex_retN, ex_ite, ex_raise, ex_pass, ex_cont, ex_app, ex_sub, exs0, exs, condR_bl, condS_bl, notR_bl, andR_bl, orR_bl, condC_bl, chR_bl, bind_ok, bind_err, bind_bad, bind_if, toS_ok, toS_err, toS_if, sbind_nx, sbind_rt, sbind_ct, sbind_er, sbind_if, ofO_some, ofO_if, ofO_none, putR_some, getS_z, getS_s, vS_fz, vS_own, appR_own, appR_ino, parS, open_no, open_fz, open_own, mut_own, mut_ino, loose_no, loose_fz, val_fz, val_own, val_ino, val_lent, As.bs, As.mask, nodupB, endS_rt, endS_nx, endS_er, endS_if, outE_some, outS_nil, outS_f, outS_t, Tg.slots, Tg.slotss, Option.bind_some, It.lends, bodyP_some, body_eq, fbody_eq, fbodyP_some, D.isNon, o_add_i, o_add_l, o_add_t, o_add_s, o_sub_i, o_mul_i, o_fdiv, o_mod, o_pow, o_neg, o_inv, o_band, o_bor_i, o_shl, o_shr, o_eq_i, o_ne_i, o_eq_s, o_ne_s, o_lt_i, o_le_i, o_gt_i, o_ge_i, o_in_t, o_in_l, o_nin_t, o_nin_l, o_isn, o_isnn, o_isb, o_isnb, o_tup, o_lst, o_item_l, o_item_t, o_sl00, o_sl10, o_sl01, o_sl11, slX_l, slX_t, o_rev_l, o_rev_t, o_len_l, o_len_t, o_len_s, o_abs, o_int_i, o_int_b, o_sum, o_max1, o_min1, o_max2, o_min2, o_all_map, o_any_map, o_sorted_l, o_sorted_t, o_sorted_s, o_set_l, o_set_t, o_bor_s, o_tuple_l, o_tuple_t, o_list_l, o_list_t, o_list_scr, o_isint, o_isbool, o_isstr, o_istuple, o_islist, isO_non, isO_bl, isO_int, isO_str, isO_tup, isO_lst, o_isexc, o_tru_b, o_tru_i, o_tru_n, o_tru_l, o_tru_t, iterD_l, iterD_t, range1, range2, fin_ok, fin_err, fin_ok1, fin_err1, fin_if, withD_own, withD_ino, ml_own, ml_ino, unlend_nil, back_nil, store_eq, put_n, put_t, puts_nil, puts_cons, wipeR_eq, wipe_nil, wipe_cons, back_cons, cx_call, cx_lam, cx_noio, lim_lit, Int.toNat_natCast, cut_init, cut_from, cut_last, cut_but, at0, at1, at2, subR_ino0, subR_ino1, List.set_cons_zero, List.set_cons_succ, List.length_cons, List.length_nil, List.all_cons, List.all_nil, List.nil_append, List.cons_append, List.append_nil, List.map_cons, List.map_nil, List.elem_nil, not_true_eq_false, not_false_eq_true, Bool.and_true, Bool.true_and, Bool.and_self, Bool.not_true, Bool.not_false, Bool.and_false, Bool.false_and, Bool.or_true, Bool.true_or, Bool.or_false, Bool.false_or, Bool.or_self, decide_true, decide_false, decide_eq_true_eq, Bool.false_eq_true, if_true, if_false, ite_true, ite_false, Option.map_some, Option.map_none, Option.isSome_some, Nat.zero_add, Nat.reduceAdd, Nat.reduceLT, Nat.reduceLeDiff, Nat.reduceEqDiff, Nat.reduceBEq, Nat.reduceSub, Nat.reduceMul, Int.reduceLT, Int.reduceLE, Int.reduceAdd, Int.reduceSub, Int.reduceNeg, Int.reduceEq, Int.reduceMul, Int.reduceToNat, reduceIte, s1]; rfl), loopC_none (by simp -implicitDefEqProofs only [ev_k, ev_v, ev_op, ev_bop, evB_one, evB_and, evB_or, ev_nt, ev_ite, ev_chain, ev_call, ev_fn, ev_as0, ev_asE, ev_asB, ev_cs0, ev_cs, ev_iE, ev_iB, ev_iR, ev_iN, ev_iZ, ev_iV, ev_comp, ex_for, ev_conv, convR_range, lendR_some, ex_asg, ex_par, ex_tup, ex_ex, ex_ret, ex_retN, ex_ite, ex_raise, ex_pass, ex_cont, ex_app, ex_sub, exs0, exs, condR_bl, condS_bl, notR_bl, andR_bl, orR_bl, condC_bl, chR_bl, bind_ok, bind_err, bind_bad, bind_if, toS_ok, toS_err, toS_if, sbind_nx, sbind_rt, sbind_ct, sbind_er, sbind_if, ofO_some, ofO_if, ofO_none, putR_some, getS_z, getS_s, vS_fz, vS_own, appR_own, appR_ino, parS, open_no, open_fz, open_own, mut_own, mut_ino, loose_no, loose_fz, val_fz, val_own, val_ino, val_lent, As.bs, As.mask, nodupB, endS_rt, endS_nx, endS_er, endS_if, outE_some, outS_nil, outS_f, outS_t, Tg.slots, Tg.slotss, Option.bind_some, It.lends, bodyP_some, body_eq, fbody_eq, fbodyP_some, D.isNon, o_add_i, o_add_l, o_add_t, o_add_s, o_sub_i, o_mul_i, o_fdiv, o_mod, o_pow, o_neg, o_inv, o_band, o_bor_i, o_shl, o_shr, o_eq_i, o_ne_i, o_eq_s, o_ne_s, o_lt_i, o_le_i, o_gt_i, o_ge_i, o_in_t, o_in_l, o_nin_t, o_nin_l, o_isn, o_isnn, o_isb, o_isnb, o_tup, o_lst, o_item_l, o_item_t, o_sl00, o_sl10, o_sl01, o_sl11, slX_l, slX_t, o_rev_l, o_rev_t, o_len_l, o_len_t, o_len_s, o_abs, o_int_i, o_int_b, o_sum, o_max1, o_min1, o_max2, o_min2, o_all_map, o_any_map, o_sorted_l, o_sorted_t, o_sorted_s, o_set_l, o_set_t, o_bor_s, o_tuple_l, o_tuple_t, o_list_l, o_list_t, o_list_scr, o_isint, o_isbool, o_isstr, o_istuple, o_islist, isO_non, isO_bl, isO_int, isO_str, isO_tup, isO_lst, o_isexc, o_tru_b, o_tru_i, o_tru_n, o_tru_l, o_tru_t, iterD_l, iterD_t, range1, range2, fin_ok, fin_err, fin_ok1, fin_err1, fin_if, withD_own, withD_ino, ml_own, ml_ino, unlend_nil, back_nil, store_eq, put_n, put_t, puts_nil, puts_cons, wipeR_eq, wipe_nil, wipe_cons, back_cons, cx_call, cx_lam, cx_noio, lim_lit, Int.toNat_natCast, cut_init, cut_from, cut_last, cut_but, at0, at1, at2, subR_ino0, subR_ino1, List.set_cons_zero, List.set_cons_succ, List.length_cons, List.length_nil, List.all_cons, List.all_nil, List.nil_append, List.cons_append, List.append_nil, List.map_cons, List.map_nil, List.elem_nil, not_true_eq_false, not_false_eq_true, Bool.and_true, Bool.true_and, Bool.and_self, Bool.not_true, Bool.not_false, Bool.and_false, Bool.false_and, Bool.or_true, Bool.true_or, Bool.or_false, Bool.false_or, Bool.or_self, decide_true, decide_false, decide_eq_true_eq, Bool.false_eq_true, if_true, if_false, ite_true, ite_false, Option.map_some, Option.map_none, Option.isSome_some, Nat.zero_add, Nat.reduceAdd, Nat.reduceLT, Nat.reduceLeDiff, Nat.reduceEqDiff, Nat.reduceBEq, Nat.reduceSub, Nat.reduceMul, Int.reduceLT, Int.reduceLE, Int.reduceAdd, Int.reduceSub, Int.reduceNeg, Int.reduceEq, Int.reduceMul, Int.reduceToNat, reduceIte, s2]; rfl), loopC_none (by simp -implicitDefEqProofs only [ev_k, ev_v, ev_op, ev_bop, evB_one, evB_and, evB_or, ev_nt, ev_ite, ev_chain, ev_call, ev_fn, ev_as0, ev_asE, ev_asB, ev_cs0, ev_cs, ev_iE, ev_iB, ev_iR, ev_iN, ev_iZ, ev_iV, ev_comp, ex_for, ev_conv, convR_range, lendR_some, ex_asg, ex_par, ex_tup, ex_ex, ex_ret, ex_retN, ex_ite, ex_raise, ex_pass, ex_cont, ex_app, ex_sub, exs0, exs, condR_bl, condS_bl, notR_bl, andR_bl, orR_bl, condC_bl, chR_bl, bind_ok, bind_err, bind_bad, bind_if, toS_ok, toS_err, toS_if, sbind_nx, sbind_rt, sbind_ct, sbind_er, sbind_if, ofO_some, ofO_if, ofO_none, putR_some, getS_z, getS_s, vS_fz, vS_own, appR_own, appR_ino, parS, open_no, open_fz, open_own, mut_own, mut_ino, loose_no, loose_fz, val_fz, val_own, val_ino, val_lent, As.bs, As.mask, nodupB, endS_rt, endS_nx, endS_er, endS_if, outE_some, outS_nil, outS_f, outS_t, Tg.slots, Tg.slotss, Option.bind_some, It.lends, bodyP_some, body_eq, fbody_eq, fbodyP_some, D.isNon, o_add_i, o_add_l, o_add_t, o_add_s, o_sub_i, o_mul_i, o_fdiv, o_mod, o_pow, o_neg, o_inv, o_band, o_bor_i, o_shl, o_shr, o_eq_i, o_ne_i, o_eq_s, o_ne_s, o_lt_i, o_le_i, o_gt_i, o_ge_i, o_in_t, o_in_l, o_nin_t, o_nin_l, o_isn, o_isnn, o_isb, o_isnb, o_tup, o_lst, o_item_l, o_item_t, o_sl00, o_sl10, o_sl01, o_sl11, slX_l, slX_t, o_rev_l, o_rev_t, o_len_l, o_len_t, o_len_s, o_abs, o_int_i, o_int_b, o_sum, o_max1, o_min1, o_max2, o_min2, o_all_map, o_any_map, o_sorted_l, o_sorted_t, o_sorted_s, o_set_l, o_set_t, o_bor_s, o_tuple_l, o_tuple_t, o_list_l, o_list_t, o_list_scr, o_isint, o_isbool, o_isstr, o_istuple, o_islist, isO_non, isO_bl, isO_int, isO_str, isO_tup, isO_lst, o_isexc, o_tru_b, o_tru_i, o_tru_n, o_tru_l, o_tru_t, iterD_l, iterD_t, range1, range2, fin_ok, fin_err, fin_ok1, fin_err1, fin_if, withD_own, withD_ino, ml_own, ml_ino, unlend_nil, back_nil, store_eq, put_n, put_t, puts_nil, puts_cons, wipeR_eq, wipe_nil, wipe_cons, back_cons, cx_call, cx_lam, cx_noio, lim_lit, Int.toNat_natCast, cut_init, cut_from, cut_last, cut_but, at0, at1, at2, subR_ino0, subR_ino1, List.set_cons_zero, List.set_cons_succ, List.length_cons, List.length_nil, List.all_cons, List.all_nil, List.nil_append, List.cons_append, List.append_nil, List.map_cons, List.map_nil, List.elem_nil, not_true_eq_false, not_false_eq_true, Bool.and_true, Bool.true_and, Bool.and_self, Bool.not_true, Bool.not_false, Bool.and_false, Bool.false_and, Bool.or_true, Bool.true_or, Bool.or_false, Bool.false_or, Bool.or_self, decide_true, decide_false, decide_eq_true_eq, Bool.false_eq_true, if_true, if_false, ite_true, ite_false, Option.map_some, Option.map_none, Option.isSome_some, Nat.zero_add, Nat.reduceAdd, Nat.reduceLT, Nat.reduceLeDiff, Nat.reduceEqDiff, Nat.reduceBEq, Nat.reduceSub, Nat.reduceMul, Int.reduceLT, Int.reduceLE, Int.reduceAdd, Int.reduceSub, Int.reduceNeg, Int.reduceEq, Int.reduceMul, Int.reduceToNat, reduceIte, s3]; rfl), loopC_nil]
  simp -implicitDefEqProofs only [ev_k, ev_v, ev_op, ev_bop, evB_one, evB_and, evB_or, ev_nt, ev_ite, ev_chain, ev_call, ev_fn, ev_as0, ev_asE, ev_asB, ev_cs0, ev_cs, ev_iE, ev_iB, ev_iR, ev_iN, ev_iZ, ev_iV, ev_comp, ex_for, ev_conv, convR_range, lendR_some, ex_asg, ex_par, ex_tup, ex_ex, ex_ret, ex_retN, ex_ite, ex_raise, ex_pass, ex_cont, ex_app, ex_sub, exs0, exs, condR_bl, condS_bl, notR_bl, andR_bl, orR_bl, condC_bl, chR_bl, bind_ok, bind_err, bind_bad, bind_if, toS_ok, toS_err, toS_if, sbind_nx, sbind_rt, sbind_ct, sbind_er, sbind_if, ofO_some, ofO_if, ofO_none, putR_some, getS_z, getS_s, vS_fz, vS_own, appR_own, appR_ino, parS, open_no, open_fz, open_own, mut_own, mut_ino, loose_no, loose_fz, val_fz, val_own, val_ino, val_lent, As.bs, As.mask, nodupB, endS_rt, endS_nx, endS_er, endS_if, outE_some, outS_nil, outS_f, outS_t, Tg.slots, Tg.slotss, Option.bind_some, It.lends, bodyP_some, body_eq, fbody_eq, fbodyP_some, D.isNon, o_add_i, o_add_l, o_add_t, o_add_s, o_sub_i, o_mul_i, o_fdiv, o_mod, o_pow, o_neg, o_inv, o_band, o_bor_i, o_shl, o_shr, o_eq_i, o_ne_i, o_eq_s, o_ne_s, o_lt_i, o_le_i, o_gt_i, o_ge_i, o_in_t, o_in_l, o_nin_t, o_nin_l, o_isn, o_isnn, o_isb, o_isnb, o_tup, o_lst, o_item_l, o_item_t, o_sl00, o_sl10, o_sl01, o_sl11, slX_l, slX_t, o_rev_l, o_rev_t, o_len_l, o_len_t, o_len_s, o_abs, o_int_i, o_int_b, o_sum, o_max1, o_min1, o_max2, o_min2, o_all_map, o_any_map, o_sorted_l, o_sorted_t, o_sorted_s, o_set_l, o_set_t, o_bor_s, o_tuple_l, o_tuple_t, o_list_l, o_list_t, o_list_scr, o_isint, o_isbool, o_isstr, o_istuple, o_islist, isO_non, isO_bl, isO_int, isO_str, isO_tup, isO_lst, o_isexc, o_tru_b, o_tru_i, o_tru_n, o_tru_l, o_tru_t, iterD_l, iterD_t, range1, range2, fin_ok, fin_err, fin_ok1, fin_err1, fin_if, withD_own, withD_ino, ml_own, ml_ino, unlend_nil, back_nil, store_eq, put_n, put_t, puts_nil, puts_cons, wipeR_eq, wipe_nil, wipe_cons, back_cons, cx_call, cx_lam, cx_noio, lim_lit, Int.toNat_natCast, cut_init, cut_from, cut_last, cut_but, at0, at1, at2, subR_ino0, subR_ino1, List.set_cons_zero, List.set_cons_succ, List.length_cons, List.length_nil, List.all_cons, List.all_nil, List.nil_append, List.cons_append, List.append_nil, List.map_cons, List.map_nil, List.elem_nil, not_true_eq_false, not_false_eq_true, Bool.and_true, Bool.true_and, Bool.and_self, Bool.not_true, Bool.not_false, Bool.and_false, Bool.false_and, Bool.or_true, Bool.true_or, Bool.or_false, Bool.false_or, Bool.or_self, decide_true, decide_false, decide_eq_true_eq, Bool.false_eq_true, if_true, if_false, ite_true, ite_false, Option.map_some, Option.map_none, Option.isSome_some, Nat.zero_add, Nat.reduceAdd, Nat.reduceLT, Nat.reduceLeDiff, Nat.reduceEqDiff, Nat.reduceBEq, Nat.reduceSub, Nat.reduceMul, Int.reduceLT, Int.reduceLE, Int.reduceAdd, Int.reduceSub, Int.reduceNeg, Int.reduceEq, Int.reduceMul, Int.reduceToNat, reduceIte, o_ne, okE, D.okd, D.eqv, D.eqvs, List.reverse_nil, e1, show inR 12 = true from rfl]
  generalize hz : loopF _ _ _ = z
  obtain ⟨s', rfl, ⟨c', x4, rfl, hc', h4⟩⟩ := loopF_keyN hz 12
    (fun i s => ∃ (c : D) (x4 : Slot), s = [.fz (.scr ns), .fz (.tup [.tup [.int 0, .int 1], .tup [.int 1], .tup [.int 0, .int 1, .int 2]]), .fz (.lst [.bl true, .bl true, .bl false, .bl true, .bl true, .bl false, .tup [.int 0, .int 1, .int 2], .tup [.int 0, .int 1, .int 2], .tup [.int 2]]), .own c, x4, .no] ∧ CupOk c ∧ x4.open = true)
    (by rw [rangeL_len]) ⟨c, .no, rfl, hc, rfl⟩ (fun i d s hd hJ => by
      obtain ⟨c, x4, rfl, hc, h4⟩ := hJ
      obtain ⟨hi, rfl⟩ := rangeL_get hd
      obtain ⟨c2, e2, hc2⟩ := law_drawn_ok (n := 19) hc
      obtain ⟨c3, e3, hc3⟩ := law_lots_ok (n := 19) hc2
      simp -implicitDefEqProofs only [ev_k, ev_v, ev_op, ev_bop, evB_one, evB_and, evB_or, ev_nt, ev_ite, ev_chain, ev_call, ev_fn, ev_as0, ev_asE, ev_asB, ev_cs0, ev_cs, ev_iE, ev_iB, ev_iR, ev_iN, ev_iZ, ev_iV, ev_comp, ex_for, ev_conv, convR_range, lendR_some, ex_asg, ex_par, ex_tup, ex_ex, ex_ret, ex_retN, ex_ite, ex_raise, ex_pass, ex_cont, ex_app, ex_sub, exs0, exs, condR_bl, condS_bl, notR_bl, andR_bl, orR_bl, condC_bl, chR_bl, bind_ok, bind_err, bind_bad, bind_if, toS_ok, toS_err, toS_if, sbind_nx, sbind_rt, sbind_ct, sbind_er, sbind_if, ofO_some, ofO_if, ofO_none, putR_some, getS_z, getS_s, vS_fz, vS_own, appR_own, appR_ino, parS, open_no, open_fz, open_own, mut_own, mut_ino, loose_no, loose_fz, val_fz, val_own, val_ino, val_lent, As.bs, As.mask, nodupB, endS_rt, endS_nx, endS_er, endS_if, outE_some, outS_nil, outS_f, outS_t, Tg.slots, Tg.slotss, Option.bind_some, It.lends, bodyP_some, body_eq, fbody_eq, fbodyP_some, D.isNon, o_add_i, o_add_l, o_add_t, o_add_s, o_sub_i, o_mul_i, o_fdiv, o_mod, o_pow, o_neg, o_inv, o_band, o_bor_i, o_shl, o_shr, o_eq_i, o_ne_i, o_eq_s, o_ne_s, o_lt_i, o_le_i, o_gt_i, o_ge_i, o_in_t, o_in_l, o_nin_t, o_nin_l, o_isn, o_isnn, o_isb, o_isnb, o_tup, o_lst, o_item_l, o_item_t, o_sl00, o_sl10, o_sl01, o_sl11, slX_l, slX_t, o_rev_l, o_rev_t, o_len_l, o_len_t, o_len_s, o_abs, o_int_i, o_int_b, o_sum, o_max1, o_min1, o_max2, o_min2, o_all_map, o_any_map, o_sorted_l, o_sorted_t, o_sorted_s, o_set_l, o_set_t, o_bor_s, o_tuple_l, o_tuple_t, o_list_l, o_list_t, o_list_scr, o_isint, o_isbool, o_isstr, o_istuple, o_islist, isO_non, isO_bl, isO_int, isO_str, isO_tup, isO_lst, o_isexc, o_tru_b, o_tru_i, o_tru_n, o_tru_l, o_tru_t, iterD_l, iterD_t, range1, range2, fin_ok, fin_err, fin_ok1, fin_err1, fin_if, withD_own, withD_ino, ml_own, ml_ino, unlend_nil, back_nil, store_eq, put_n, put_t, puts_nil, puts_cons, wipeR_eq, wipe_nil, wipe_cons, back_cons, cx_call, cx_lam, cx_noio, lim_lit, Int.toNat_natCast, cut_init, cut_from, cut_last, cut_but, at0, at1, at2, subR_ino0, subR_ino1, List.set_cons_zero, List.set_cons_succ, List.length_cons, List.length_nil, List.all_cons, List.all_nil, List.nil_append, List.cons_append, List.append_nil, List.map_cons, List.map_nil, List.elem_nil, not_true_eq_false, not_false_eq_true, Bool.and_true, Bool.true_and, Bool.and_self, Bool.not_true, Bool.not_false, Bool.and_false, Bool.false_and, Bool.or_true, Bool.true_or, Bool.or_false, Bool.false_or, Bool.or_self, decide_true, decide_false, decide_eq_true_eq, Bool.false_eq_true, if_true, if_false, ite_true, ite_false, Option.map_some, Option.map_none, Option.isSome_some, Nat.zero_add, Nat.reduceAdd, Nat.reduceLT, Nat.reduceLeDiff, Nat.reduceEqDiff, Nat.reduceBEq, Nat.reduceSub, Nat.reduceMul, Int.reduceLT, Int.reduceLE, Int.reduceAdd, Int.reduceSub, Int.reduceNeg, Int.reduceEq, Int.reduceMul, Int.reduceToNat, reduceIte, h4, e2, e3]
      exact ⟨_, rfl, c3, _, rfl, hc3, rfl⟩)
  simp -implicitDefEqProofs only [ev_k, ev_v, ev_op, ev_bop, evB_one, evB_and, evB_or, ev_nt, ev_ite, ev_chain, ev_call, ev_fn, ev_as0, ev_asE, ev_asB, ev_cs0, ev_cs, ev_iE, ev_iB, ev_iR, ev_iN, ev_iZ, ev_iV, ev_comp, ex_for, ev_conv, convR_range, lendR_some, ex_asg, ex_par, ex_tup, ex_ex, ex_ret, ex_retN, ex_ite, ex_raise, ex_pass, ex_cont, ex_app, ex_sub, exs0, exs, condR_bl, condS_bl, notR_bl, andR_bl, orR_bl, condC_bl, chR_bl, bind_ok, bind_err, bind_bad, bind_if, toS_ok, toS_err, toS_if, sbind_nx, sbind_rt, sbind_ct, sbind_er, sbind_if, ofO_some, ofO_if, ofO_none, putR_some, getS_z, getS_s, vS_fz, vS_own, appR_own, appR_ino, parS, open_no, open_fz, open_own, mut_own, mut_ino, loose_no, loose_fz, val_fz, val_own, val_ino, val_lent, As.bs, As.mask, nodupB, endS_rt, endS_nx, endS_er, endS_if, outE_some, outS_nil, outS_f, outS_t, Tg.slots, Tg.slotss, Option.bind_some, It.lends, bodyP_some, body_eq, fbody_eq, fbodyP_some, D.isNon, o_add_i, o_add_l, o_add_t, o_add_s, o_sub_i, o_mul_i, o_fdiv, o_mod, o_pow, o_neg, o_inv, o_band, o_bor_i, o_shl, o_shr, o_eq_i, o_ne_i, o_eq_s, o_ne_s, o_lt_i, o_le_i, o_gt_i, o_ge_i, o_in_t, o_in_l, o_nin_t, o_nin_l, o_isn, o_isnn, o_isb, o_isnb, o_tup, o_lst, o_item_l, o_item_t, o_sl00, o_sl10, o_sl01, o_sl11, slX_l, slX_t, o_rev_l, o_rev_t, o_len_l, o_len_t, o_len_s, o_abs, o_int_i, o_int_b, o_sum, o_max1, o_min1, o_max2, o_min2, o_all_map, o_any_map, o_sorted_l, o_sorted_t, o_sorted_s, o_set_l, o_set_t, o_bor_s, o_tuple_l, o_tuple_t, o_list_l, o_list_t, o_list_scr, o_isint, o_isbool, o_isstr, o_istuple, o_islist, isO_non, isO_bl, isO_int, isO_str, isO_tup, isO_lst, o_isexc, o_tru_b, o_tru_i, o_tru_n, o_tru_l, o_tru_t, iterD_l, iterD_t, range1, range2, fin_ok, fin_err, fin_ok1, fin_err1, fin_if, withD_own, withD_ino, ml_own, ml_ino, unlend_nil, back_nil, store_eq, put_n, put_t, puts_nil, puts_cons, wipeR_eq, wipe_nil, wipe_cons, back_cons, cx_call, cx_lam, cx_noio, lim_lit, Int.toNat_natCast, cut_init, cut_from, cut_last, cut_but, at0, at1, at2, subR_ino0, subR_ino1, List.set_cons_zero, List.set_cons_succ, List.length_cons, List.length_nil, List.all_cons, List.all_nil, List.nil_append, List.cons_append, List.append_nil, List.map_cons, List.map_nil, List.elem_nil, not_true_eq_false, not_false_eq_true, Bool.and_true, Bool.true_and, Bool.and_self, Bool.not_true, Bool.not_false, Bool.and_false, Bool.false_and, Bool.or_true, Bool.true_or, Bool.or_false, Bool.false_or, Bool.or_self, decide_true, decide_false, decide_eq_true_eq, Bool.false_eq_true, if_true, if_false, ite_true, ite_false, Option.map_some, Option.map_none, Option.isSome_some, Nat.zero_add, Nat.reduceAdd, Nat.reduceLT, Nat.reduceLeDiff, Nat.reduceEqDiff, Nat.reduceBEq, Nat.reduceSub, Nat.reduceMul, Int.reduceLT, Int.reduceLE, Int.reduceAdd, Int.reduceSub, Int.reduceNeg, Int.reduceEq, Int.reduceMul, Int.reduceToNat, reduceIte]


def top (i : Nat) : PySem.Stmt := PySem.Challenge.pw_fewtellall_k00_whole_webs_and_lots.main.body.getD i (.Pass ⟨0, 0, 0, 0⟩)
def d0 : Df := ⟨"is_whole", top 5, [("value" : PySem.Str), ("low" : PySem.Str), ("high" : PySem.Str)], [("value" : PySem.Str), ("low" : PySem.Str), ("high" : PySem.Str)]⟩
def d1 : Df := ⟨"need_whole", top 6, [("value" : PySem.Str), ("low" : PySem.Str), ("high" : PySem.Str)], [("value" : PySem.Str), ("low" : PySem.Str), ("high" : PySem.Str)]⟩
def d2 : Df := ⟨"is_tuple_of", top 7, [("value" : PySem.Str), ("low" : PySem.Str), ("high" : PySem.Str)], [("value" : PySem.Str), ("low" : PySem.Str), ("high" : PySem.Str)]⟩
def d3 : Df := ⟨"is_ascending", top 8, [("values" : PySem.Str)], [("values" : PySem.Str), ("one" : PySem.Str), ("other" : PySem.Str)]⟩
def d4 : Df := ⟨"is_set_below", top 9, [("value" : PySem.Str), ("many" : PySem.Str)], [("value" : PySem.Str), ("many" : PySem.Str), ("one" : PySem.Str)]⟩
def d5 : Df := ⟨"need_members", top 11, [("value" : PySem.Str)], [("value" : PySem.Str)]⟩
def d6 : Df := ⟨"is_web_in", top 13, [("value" : PySem.Str)], [("value" : PySem.Str), ("own" : PySem.Str), ("heard" : PySem.Str)]⟩
def d7 : Df := ⟨"need_web", top 14, [("value" : PySem.Str)], [("value" : PySem.Str)]⟩
def d8 : Df := ⟨"hearers_in", top 15, [("web" : PySem.Str), ("member" : PySem.Str)], [("web" : PySem.Str), ("member" : PySem.Str), ("own" : PySem.Str), ("heard" : PySem.Str)]⟩
def d9 : Df := ⟨"is_web", top 16, [("value" : PySem.Str)], [("value" : PySem.Str)]⟩
def d10 : Df := ⟨"is_lot", top 17, [("members" : PySem.Str), ("value" : PySem.Str)], [("members" : PySem.Str), ("value" : PySem.Str)]⟩
def d11 : Df := ⟨"heard_by", top 18, [("web" : PySem.Str), ("member" : PySem.Str)], [("web" : PySem.Str), ("member" : PySem.Str)]⟩
def d12 : Df := ⟨"hearers_of", top 19, [("web" : PySem.Str), ("member" : PySem.Str)], [("web" : PySem.Str), ("member" : PySem.Str)]⟩
def d13 : Df := ⟨"_law_cup", top 21, [("script" : PySem.Str)], [("script" : PySem.Str), ("cell" : PySem.Str)]⟩
def d14 : Df := ⟨"_law_roll", top 22, [("cup" : PySem.Str), ("many" : PySem.Str)], [("cup" : PySem.Str), ("many" : PySem.Str), ("found" : PySem.Str)]⟩
def d15 : Df := ⟨"_law_sort", top 23, [("value" : PySem.Str)], [("value" : PySem.Str)]⟩
def d16 : Df := ⟨"_law_like", top 24, [("one" : PySem.Str), ("other" : PySem.Str)], [("one" : PySem.Str), ("other" : PySem.Str), ("sort" : PySem.Str), ("first" : PySem.Str), ("second" : PySem.Str)]⟩
def d17 : Df := ⟨"_law_error", top 25, [("call" : PySem.Str)], [("call" : PySem.Str), ("e" : PySem.Str), ("word" : PySem.Str), ("is_so" : PySem.Str)]⟩
def d18 : Df := ⟨"_law_lots", top 26, [("many" : PySem.Str)], [("many" : PySem.Str), ("found" : PySem.Str), ("own" : PySem.Str), ("lot" : PySem.Str)]⟩
def d19 : Df := ⟨"_law_small_right", top 27, [("many" : PySem.Str)], [("many" : PySem.Str), ("lots" : PySem.Str), ("rows" : PySem.Str), ("own" : PySem.Str), ("longer" : PySem.Str), ("row" : PySem.Str), ("bad" : PySem.Str), ("due" : PySem.Str), ("lot" : PySem.Str), ("heard" : PySem.Str)]⟩
def d20 : Df := ⟨"_law_web", top 28, [("cup" : PySem.Str), ("many" : PySem.Str)], [("cup" : PySem.Str), ("many" : PySem.Str), ("part" : PySem.Str), ("own" : PySem.Str), ("far" : PySem.Str)]⟩
def d21 : Df := ⟨"_law_drawn_right", top 29, [("cup" : PySem.Str)], [("cup" : PySem.Str), ("many" : PySem.Str), ("web" : PySem.Str), ("own" : PySem.Str), ("heard" : PySem.Str), ("less" : PySem.Str), ("odds" : PySem.Str), ("told" : PySem.Str), ("far" : PySem.Str), ("odd" : PySem.Str)]⟩
def d22 : Df := ⟨"_law_lots_right", top 30, [("cup" : PySem.Str)], [("cup" : PySem.Str), ("many" : PySem.Str), ("lot" : PySem.Str), ("told" : PySem.Str), ("own" : PySem.Str)]⟩
def d23 : Df := ⟨"_law_errors_right", top 31, [], [("odds" : PySem.Str), ("good" : PySem.Str), ("words" : PySem.Str), ("odd" : PySem.Str), ("own" : PySem.Str), ("call" : PySem.Str)]⟩
def d24 : Df := ⟨"law", top 32, [("script" : PySem.Str)], [("script" : PySem.Str), ("web" : PySem.Str), ("told" : PySem.Str), ("cup" : PySem.Str), ("turn" : PySem.Str), ("many" : PySem.Str)]⟩
def pg : Pg := { P := prog, df := [d0, d1, d2, d3, d4, d5, d6, d7, d8, d9, d10, d11, d12, d13, d14, d15, d16, d17, d18, d19, d20, d21, d22, d23, d24], exn := ["TellError", "InvalidNumber", "InvalidWeb"], exp := [true, true, true], cns := [("MEMBERS", .int (12))], hl := [23] }
-- 0 is_whole 1 need_whole 2 is_tuple_of 3 is_ascending 4 is_set_below 5 need_members 6 is_web_in 7 need_web 8 hearers_in 9 is_web 10 is_lot 11 heard_by 12 hearers_of 13 _law_cup 14 _law_roll 15 _law_sort 16 _law_like 17 _law_error 18 _law_lots 19 _law_small_right 20 _law_web 21 _law_drawn_right 22 _law_lots_right 23 _law_errors_right 24 law

end PI
set_option maxHeartbeats 0
namespace PI
open PySem PySem.Spec PyProof.Rows L2
theorem b0 : BindsD d0 := fun kV doc pm an cdv ct us hl => match us, hl with | [_, _, _], _ => rfl
theorem b1 : BindsD d1 := fun kV doc pm an cdv ct us hl => match us, hl with | [_, _, _], _ => rfl
theorem b2 : BindsD d2 := fun kV doc pm an cdv ct us hl => match us, hl with | [_, _, _], _ => rfl
theorem b3 : BindsD d3 := fun kV doc pm an cdv ct us hl => match us, hl with | [_], _ => rfl
theorem b4 : BindsD d4 := fun kV doc pm an cdv ct us hl => match us, hl with | [_, _], _ => rfl
theorem b5 : BindsD d5 := fun kV doc pm an cdv ct us hl => match us, hl with | [_], _ => rfl
theorem b6 : BindsD d6 := fun kV doc pm an cdv ct us hl => match us, hl with | [_], _ => rfl
theorem b7 : BindsD d7 := fun kV doc pm an cdv ct us hl => match us, hl with | [_], _ => rfl
theorem b8 : BindsD d8 := fun kV doc pm an cdv ct us hl => match us, hl with | [_, _], _ => rfl
theorem b9 : BindsD d9 := fun kV doc pm an cdv ct us hl => match us, hl with | [_], _ => rfl
theorem b10 : BindsD d10 := fun kV doc pm an cdv ct us hl => match us, hl with | [_, _], _ => rfl
theorem b11 : BindsD d11 := fun kV doc pm an cdv ct us hl => match us, hl with | [_, _], _ => rfl
theorem b12 : BindsD d12 := fun kV doc pm an cdv ct us hl => match us, hl with | [_, _], _ => rfl
theorem b13 : BindsD d13 := fun kV doc pm an cdv ct us hl => match us, hl with | [_], _ => rfl
theorem b14 : BindsD d14 := fun kV doc pm an cdv ct us hl => match us, hl with | [_, _], _ => rfl
theorem b15 : BindsD d15 := fun kV doc pm an cdv ct us hl => match us, hl with | [_], _ => rfl
theorem b16 : BindsD d16 := fun kV doc pm an cdv ct us hl => match us, hl with | [_, _], _ => rfl
theorem b17 : BindsD d17 := fun kV doc pm an cdv ct us hl => match us, hl with | [_], _ => rfl
theorem b18 : BindsD d18 := fun kV doc pm an cdv ct us hl => match us, hl with | [_], _ => rfl
theorem b19 : BindsD d19 := fun kV doc pm an cdv ct us hl => match us, hl with | [_], _ => rfl
theorem b20 : BindsD d20 := fun kV doc pm an cdv ct us hl => match us, hl with | [_, _], _ => rfl
theorem b21 : BindsD d21 := fun kV doc pm an cdv ct us hl => match us, hl with | [_], _ => rfl
theorem b22 : BindsD d22 := fun kV doc pm an cdv ct us hl => match us, hl with | [_], _ => rfl
theorem b23 : BindsD d23 := fun kV doc pm an cdv ct us hl => match us, hl with | [], _ => rfl
theorem b24 : BindsD d24 := fun kV doc pm an cdv ct us hl => match us, hl with | [_], _ => rfl
theorem bindsAll : BindsAll pg := bindsAll_of (List.forall_mem_cons.mpr ⟨b0, List.forall_mem_cons.mpr ⟨b1, List.forall_mem_cons.mpr ⟨b2, List.forall_mem_cons.mpr ⟨b3, List.forall_mem_cons.mpr ⟨b4, List.forall_mem_cons.mpr ⟨b5, List.forall_mem_cons.mpr ⟨b6, List.forall_mem_cons.mpr ⟨b7, List.forall_mem_cons.mpr ⟨b8, List.forall_mem_cons.mpr ⟨b9, List.forall_mem_cons.mpr ⟨b10, List.forall_mem_cons.mpr ⟨b11, List.forall_mem_cons.mpr ⟨b12, List.forall_mem_cons.mpr ⟨b13, List.forall_mem_cons.mpr ⟨b14, List.forall_mem_cons.mpr ⟨b15, List.forall_mem_cons.mpr ⟨b16, List.forall_mem_cons.mpr ⟨b17, List.forall_mem_cons.mpr ⟨b18, List.forall_mem_cons.mpr ⟨b19, List.forall_mem_cons.mpr ⟨b20, List.forall_mem_cons.mpr ⟨b21, List.forall_mem_cons.mpr ⟨b22, List.forall_mem_cons.mpr ⟨b23, List.forall_mem_cons.mpr ⟨b24, fun _ h => (by cases h)⟩⟩⟩⟩⟩⟩⟩⟩⟩⟩⟩⟩⟩⟩⟩⟩⟩⟩⟩⟩⟩⟩⟩⟩⟩)
def loose0 : List Str := ["TellError", "InvalidNumber", "InvalidWeb", "is_whole", "need_whole", "is_tuple_of", "is_ascending", "is_set_below", "MEMBERS", "need_members", "is_web_in", "need_web", "hearers_in", "is_web", "is_lot", "heard_by", "hearers_of", "_law_cup", "_law_roll", "_law_sort", "_law_like", "_law_error", "_law_lots", "_law_small_right", "_law_web", "_law_drawn_right", "_law_lots_right", "_law_errors_right"]
def loose : List Str := loose0
abbrev R : PySem.W.OpenRow := PySem.W.OpenLaw.row PySem.Challenge.rw_fewtellall_k00_whole_webs_and_lots
abbrev hk : PySem.W.Hook := He.hookX 4 (faOf pg) (fnOf' pg) [] (tfOf pg) (exB pg)
def ob (s : PySem.W.SharedT) : He.AlX := He.obsX 4 (faOf pg) (fnOf' pg) [] (tfOf pg) (exB pg) (HandSHeadRun.getT s)
theorem ob_eq (s : PySem.W.SharedT) : ob s = hk.obs s.abs := He.obsX_eq (HandSHeadRun.getT_eq s)
theorem run (w : World) : HandSHeadRun.RunEq R (PySem.W.view R.prog [32]) hk ob 4000 loose w := by
  intro os
  kernel_rfl
theorem okB : pg.okB = true := by decide +kernel
end PI
open PySem PySem.W PySem.Calls PyProof.Rows
theorem PySem.Challenge.cw_fewtellall_k00_whole_webs_and_lots_holds : PySem.Challenge.rw_fewtellall_k00_whole_webs_and_lots.Holds := by
  w_on; o_law
  refine HandSHeadRun.head_any (r := OpenLaw.row PySem.Challenge.rw_fewtellall_k00_whole_webs_and_lots) (q := view (OpenLaw.row PySem.Challenge.rw_fewtellall_k00_whole_webs_and_lots).prog [32]) (H := PI.hk) (ob := PI.ob) (M := 4000) (loose := PI.loose) (d := HandSHeadRun.topDef (OpenLaw.row PySem.Challenge.rw_fewtellall_k00_whole_webs_and_lots).prog 32) (kwd := []) PI.ob_eq
    (by kernel_rfl) (fun s => by kernel_rfl) PI.run (by kernel_rfl) (by kernel_rfl) (by kernel_rfl) (by rfl) (by first | assumption | decide +kernel) (by decide +kernel) ⟨rfl, rfl, rfl, rfl, rfl, by decide +kernel⟩ ?hw ?hc
  case hw => w_witness2
  case hc =>
    refine LamX.walk_ofTsE (l := PySem.Challenge.rw_fewtellall_k00_whole_webs_and_lots) (n := 63) (k := 3 * 40) (x := "script") (CX := fun w => L2N.CX (PySem.Challenge.rw_fewtellall_k00_whole_webs_and_lots).prog w) rfl (by decide) (by kernel_rfl) ⟨rfl, by decide, by decide⟩ ?F (fun _ _ _ _ _ ⟨_, _, _, _, _, _, _, _, _, _, _, _, z⟩ => z)
    intro w mg fa h Y G hmg0
    obtain ⟨K, KX, c⟩ := Y
    have hmg : mg ("law" : PySem.Str) = some (.ref fa) := by
      have e : (HandSHeadRun.topDef (OpenLaw.row PySem.Challenge.rw_fewtellall_k00_whole_webs_and_lots).prog 32).name = ("law" : PySem.Str) := by kernel_rfl
      rw [← e]
      exact hmg0
    exact ⟨K, KX, PI.law_end (l := PySem.Challenge.rw_fewtellall_k00_whole_webs_and_lots) (N := 40) (gl := 24) (d := PI.d24) PI.okB PI.bindsAll rfl rfl rfl rfl rfl rfl PI.law_phi KX G c hmg⟩

