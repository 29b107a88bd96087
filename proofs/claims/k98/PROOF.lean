import PyProof.Rows.All
import Wide.All
import OpenK.AllK
import Wide.FinOn
import HandS.ForMost
import HandS.TupAny
import HandS.TupMul
import HandS.Style
import HandS.Flow
import HandS.Walk
import HandS.Zip
import HandS.Deep
import HandS.IsInst
import HandS.Exc
import HandS.CallSlots
import HandS.WordsExc
import HandS.Star
import KE.SortData
import HandS.Defaults
import HandS.Head0
import HandS.Head1
import HandS.Head2
import HandS.HeadEnd
import HandS.HeadHook1
import HandS.HeadHook2
import KE.KDictZip
import KE.GoesEnum
import KE.GoesMore
import HandS.Keys
import HandS.IterVal
import KE.KEqDict
import HandS.Conv
import HandS.DictTup
import KE.KDictKeyed
import KE.KDictPairs
import PySem.Challenge.RW_coinready_k98_whole_greatest_first_in_ch
section
set_option Elab.async false
set_option linter.all false
set_option maxRecDepth 100000
set_option maxHeartbeats 2000000
/-! Dv1: data, syntax, evaluator. -/
namespace Dv
open PySem

/-! ### data -/
abbrev Kx := Sum L2.Key (List L2.Key)
/-- data: mls, mdc are owned (may be changed), lst, dct are not changed any more -/
inductive D where
  | non | bl (b : Bool) | int (i : Int) | str (s : Str) | fn (f : Str) | scr (ns : List Int)
  | tup (xs : List D) | lst (xs : List D) | mls (xs : List D)
  | dct (t : Bool) (ks : List Kx) (vs : List D) | mdc (t : Bool) (ks : List Kx) (vs : List D)
  deriving Inhabited

mutual
/-- nothing is owned any more -/
def D.fz : D → D
  | .mls xs => .lst (D.fzs xs)
  | .mdc t ks vs => .dct t ks (D.fzs vs)
  | .tup xs => .tup xs
  | .lst xs => .lst xs
  | .dct t ks vs => .dct t ks vs
  | .non => .non
  | .bl b => .bl b
  | .int i => .int i
  | .str s => .str s
  | .fn f => .fn f
  | .scr ns => .scr ns
def D.fzs : List D → List D
  | [] => []
  | x :: xs => D.fz x :: D.fzs xs
end
/-- nothing is owned at the root -/
def D.still : D → Bool
  | .mls _ => false
  | .mdc _ _ _ => false
  | _ => true

mutual
def D.py : D → Option PyData
  | .non => some .none
  | .bl b => some (.bool b)
  | .int i => some (.int i)
  | .str s => some (.str s)
  | .tup xs => (D.pys xs).map .tuple
  | .lst xs => (D.pys xs).map .list
  | .mls xs => (D.pys xs).map .list
  | .fn _ => none
  | .scr _ => none
  | .dct _ _ _ => none
  | .mdc _ _ _ => none
def D.pys : List D → Option (List PyData)
  | [] => some []
  | x :: xs => match D.py x, D.pys xs with
    | some d, some ds => some (d :: ds)
    | _, _ => none
end

/-! ### results -/
abbrev GEnv := List (Option D)
inductive RV where
  | val (d : D) | slot (i : Nat)
inductive R (α : Type) where
  | ok (a : α) (G : GEnv) | ex (c : Str) (ds : List D) (G : GEnv) | no
def R.bind {α β : Type} (r : R α) (k : α → GEnv → R β) : R β := match r with
  | .ok a G => k a G
  | .ex c ds G => .ex c ds G
  | .no => .no
/-- a call's result: the value, the arguments as they are then -/
inductive FR where
  | ret (d : D) (as : List D) | ex (c : Str) (ds : List D) (as : List D) | no
inductive Flo where
  | nx | bk | ct | rt (d : D)

def getS (G : GEnv) (i : Nat) : Option D := match G[i]? with
  | some (some d) => some d
  | _ => none
def deref (rv : RV) (G : GEnv) : Option D := match rv with
  | .val d => some d
  | .slot i => getS G i
/-- the value, not changed any more -/
def take (rv : RV) (G : GEnv) : Option (D × GEnv) := match rv with
  | .val d => some (d.fz, G)
  | .slot i => match getS G i with
    | some d => some (d.fz, G.set i (some d.fz))
    | none => none
def takes : List RV → GEnv → Option (List D × GEnv)
  | [], G => some ([], G)
  | rv :: r, G => match take rv G with
    | some (d, G1) => match takes r G1 with
      | some (ds, G2) => some (d :: ds, G2)
      | none => none
    | none => none
def derefs : List RV → GEnv → Option (List D)
  | [], _ => some []
  | rv :: r, G => match deref rv G, derefs r G with
    | some d, some ds => some (d :: ds)
    | _, _ => none
def lft (o : Option D) (G : GEnv) : R RV := match o with
  | some d => .ok (.val d) G
  | none => .no

/-! ### syntax -/
inductive BOp where
  | add | sub | mul | fdiv | mod | pow
  deriving DecidableEq
inductive COp where
  | eq | ne | lt | le | gt | ge | is_ | isnt | in_ | nin
  deriving DecidableEq
inductive Bi where
  | len | sum | all | any | abs | int | min | max
  deriving DecidableEq
inductive Ty where
  | int | bool | str | tuple | list | dict
  deriving DecidableEq
inductive Mt where
  | append | extend | pop
  deriving DecidableEq
inductive Col where
  | list | tuple | sorted | dict
  deriving DecidableEq
mutual
inductive Tgt where
  | name (i : Nat) | tup (ts : Tgts)
inductive Tgts where
  | nil | cons (t : Tgt) (r : Tgts)
end
mutual
inductive Exp where
  | var (i : Nat)
  | non | bl (b : Bool) | int (i : Int) | str (s : Str) | fnr (f : Str)
  | bin (o : BOp) (a b : Exp)
  | neg (a : Exp)
  | not (a : Exp)
  | and (a b : Exp) | or (a b : Exp)
  | cmp (o : COp) (a b : Exp)
  | cmp2 (o o' : COp) (a b c : Exp)
  | ife (c : Tst) (a b : Exp)
  | tup (es : Exps) | lst (es : Exps)
  | dnew (t : Bool)
  | ix (a i : Exp)
  | sl (a : Exp) (lo hi : Opt)
  | rev (a : Exp)
  | call (f : Str) (es : Exps)
  | callv (i : Nat) (fs : List Str) (es : Exps)
  | bi (b : Bi) (es : Exps)
  | isi (a : Exp) (ts : List Ty)
  | col (c : Col) (e : Exp)
  | lzip (es : Exps)
  | dctp (e : Exp)
  | upd (i : Nat) (e : Exp)
  | keys (e : Exp)
  | mt (m : Mt) (o : Exp) (es : Exps)
  | comp (own : List Nat) (tg : Tgt) (it : Ite) (c : Cnd) (el : Exp)
inductive Exps where
  | nil | cons (e : Exp) (r : Exps) | star (e : Exp) (r : Exps)
inductive Opt where
  | none | some (e : Exp)
inductive Cnd where
  | none | some (t : Tst)
inductive Tst where
  | not (t : Tst) | and (a b : Tst) | or (a b : Tst)
  | cmp (o : COp) (a b : Exp) | cmp2 (o o' : COp) (a b c : Exp)
  | val (a : Exp)
  | emp (a : Exp)
inductive Ite where
  | seq (e : Exp) | range (es : Exps) | zip (es : Exps) | enum (es : Exps)
end
mutual
inductive Sta where
  | set (i : Nat) (e : Exp)
  | asg (tg : Tgt) (e : Exp)
  | par (is : List Nat) (es : Exps)
  | setIx (o i e : Exp)
  | aug (i : Nat) (op : BOp) (e : Exp)
  | augIx (o i : Exp) (op : BOp) (e : Exp)
  | expr (e : Exp)
  | ret (e : Exp) | retN
  | ife (c : Tst) (a b : Stas)
  | whl (c : Tst) (b : Stas)
  | for_ (tg : Tgt) (it : Ite) (b : Stas)
  | pass | brk | cont
  | zall (i : Nat) (es : Exps) (own : List Nat) (tg : Tgt) (el : Exp)
  | never
inductive Stas where
  | nil | cons (s : Sta) (r : Stas)
end
end Dv
end
section
set_option Elab.async false
set_option linter.all false
set_option maxRecDepth 100000
set_option maxHeartbeats 2000000
/-! Dv2: the evaluator. -/
namespace Dv
open PySem

def okI (n : Nat) : Bool := decide (n ≤ sizeLine)
def lenOk {α : Type} (xs : List α) : Bool := decide (xs.length ≤ sizeLine)
def truthD : D → Option Bool
  | .non => some false
  | .bl b => some b
  | .int i => some (i != 0)
  | .str s => if s.length ≤ sizeLine then some ((s.length : Int) != 0) else none
  | .tup xs => some (!xs.isEmpty)
  | .lst xs => some (!xs.isEmpty)
  | .mls xs => some (!xs.isEmpty)
  | _ => none
def mulOk (i j : Int) : Bool := decide (i.natAbs < 2 ^ 64) || decide (j.natAbs < 2 ^ 64)
def divOk (j : Int) : Bool := decide (j ≠ 0) && decide (j.natAbs < 1073741824)
def binD : BOp → D → D → Option D
  | .add, .int i, .int j => some (.int (i + j))
  | .add, .str s, .str t => if s.length + t.length ≤ sizeLine then some (.str (s ++ t)) else none
  | .add, .tup xs, .tup ys => if xs.length + ys.length ≤ sizeLine then some (.tup (xs ++ ys)) else none
  | .add, .lst xs, .lst ys => if xs.length + ys.length ≤ sizeLine then some (.mls (xs ++ ys)) else none
  | .add, .lst xs, .mls ys => if xs.length + ys.length ≤ sizeLine then some (.mls (xs ++ ys)) else none
  | .add, .mls xs, .lst ys => if xs.length + ys.length ≤ sizeLine then some (.mls (xs ++ ys)) else none
  | .add, .mls xs, .mls ys => if xs.length + ys.length ≤ sizeLine then some (.mls (xs ++ ys)) else none
  | .sub, .int i, .int j => some (.int (i - j))
  | .mul, .int i, .int j => if mulOk i j then some (.int (i * j)) else none
  | .mul, .mls xs, .int k => if decide (-(2 ^ 63) ≤ k) && decide (k < 2 ^ 63) && decide (xs.length * k.toNat ≤ sizeLine) then some (.mls (List.replicate k.toNat xs).flatten) else none
  | .mul, .tup xs, .int k => if decide (xs ≠ []) && decide (2 ≤ k) && decide (k ≤ 1000) && decide (xs.length ≤ 1000) then some (.tup (List.replicate k.toNat xs).flatten) else none
  | .fdiv, .int i, .int j => if divOk j then some (.int (i.fdiv j)) else none
  | .mod, .int i, .int j => if decide (j ≠ 0) then some (.int (i.fmod j)) else none
  | .pow, .int i, .int j => if decide (0 ≤ j) && decide (j ≤ 1000000) && decide (i.natAbs < 2 ^ 64) then some (.int (i ^ j.toNat)) else none
  | _, _, _ => none
def eqD (a b : D) : Option Bool := match a.py, b.py with
  | some x, some y => if SeqAt.shaped x && SeqAt.shaped y then some (PyData.eqv x y) else none
  | _, _ => none
def inD (x : D) (xs : List D) : Option Bool := match x.py, D.pys xs with
  | some d, some ds => if SeqAt.shaped d && SeqAt.shaped (.list ds) then some (ds.any fun z => PyData.eqv z d) else none
  | _, _ => none
def D.isNon : D → Bool
  | .non => true
  | _ => false
def cmpD : COp → D → D → Option Bool
  | .eq, a, b => eqD a b
  | .ne, a, b => (eqD a b).map not
  | .lt, .int i, .int j => some (decide (i < j))
  | .le, .int i, .int j => some (decide (i ≤ j))
  | .gt, .int i, .int j => some (decide (j < i))
  | .ge, .int i, .int j => some (decide (j ≤ i))
  | .lt, .str i, .str j => some (decide (i.cps.toList < j.cps.toList))
  | .is_, a, .non => some a.isNon
  | .isnt, a, .non => some (!a.isNon)
  | .in_, x, .lst xs => inD x xs
  | .in_, x, .mls xs => inD x xs
  | .nin, x, .lst xs => (inD x xs).map not
  | .nin, x, .mls xs => (inD x xs).map not
  | _, _, _ => none
def ixD : D → D → Option D
  | .tup xs, .int i => L2.atI xs i
  | .lst xs, .int i => L2.atI xs i
  | .mls xs, .int i => L2.atI xs i
  | _, _ => none
def partD : Option D → Option (Option Int)
  | none => some none
  | some (.int i) => some (some i)
  | _ => none
def cutD (xs : List D) (lo hi : Option Int) : List D := (xs.drop (HT.sIx xs.length 0 lo)).take (HT.sIx xs.length xs.length hi - HT.sIx xs.length 0 lo)
def slD : D → Option Int → Option Int → Option D
  | .scr ns, lo, hi => some (.mls (cutD (ns.map .int) lo hi))
  | .tup xs, lo, hi => some (.tup (cutD xs lo hi))
  | .lst xs, lo, hi => some (.mls (cutD xs lo hi))
  | .mls xs, lo, hi => some (.mls (cutD xs lo hi))
  | _, _, _ => none
def revD : D → Option D
  | .lst xs => some (.mls xs.reverse)
  | .mls xs => some (.mls xs.reverse)
  | _ => none
def intsOf : List D → Option (List Int)
  | [] => some []
  | .int i :: r => (intsOf r).map (i :: ·)
  | _ => none
def blsOf : List D → Option (List Bool)
  | [] => some []
  | .bl b :: r => (blsOf r).map (b :: ·)
  | _ => none
/-- the items of a list | of a list or a tuple -/
def listOf : D → Option (List D)
  | .lst xs => some xs
  | .mls xs => some xs
  | _ => none
def seqOf : D → Option (List D)
  | .lst xs => some xs
  | .mls xs => some xs
  | .tup xs => some xs
  | _ => none
def minI : List Int → Option Int
  | [] => none
  | [x] => some x
  | x :: r => match minI r with
    | some y => some (if y < x then y else x)
    | none => none
def maxI : List Int → Option Int
  | [] => none
  | [x] => some x
  | x :: r => match maxI r with
    | some y => some (if x < y then y else x)
    | none => none
def lenD : D → Option D
  | .tup xs => some (.int xs.length)
  | .lst xs => some (.int xs.length)
  | .mls xs => some (.int xs.length)
  | .str s => if s.length ≤ sizeLine then some (.int s.length) else none
  | _ => none
def sumD (d : D) : Option D := ((listOf d).bind intsOf).map fun ns => .int ns.sum
def allD (d : D) : Option D := ((listOf d).bind blsOf).map fun bs => .bl (bs.all id)
def anyD (d : D) : Option D := ((listOf d).bind blsOf).map fun bs => .bl (bs.any id)
def absD : D → Option D
  | .int i => some (.int (if i < 0 then -i else i))
  | _ => none
def intD : D → Option D
  | .int i => some (.int i)
  | .bl b => some (.int (if b then 1 else 0))
  | _ => none
def min2D : D → D → Option D
  | .int i, .int j => some (.int (if j < i then j else i))
  | _, _ => none
def max2D : D → D → Option D
  | .int i, .int j => some (.int (if j > i then j else i))
  | _, _ => none
def on1 (f : D → Option D) : List D → Option D
  | [d] => f d
  | _ => none
def on2 (f : D → D → Option D) : List D → Option D
  | [d, e] => f d e
  | _ => none
def biD : Bi → List D → Option D
  | .len => on1 lenD
  | .sum => on1 sumD
  | .all => on1 allD
  | .any => on1 anyD
  | .abs => on1 absD
  | .int => on1 intD
  | .min => on2 min2D
  | .max => on2 max2D
def tyOf : D → Option Ty
  | .bl _ => some .bool
  | .int _ => some .int
  | .str _ => some .str
  | .tup _ => some .tuple
  | .lst _ => some .list
  | .mls _ => some .list
  | _ => none
def isTy : Ty → Ty → Bool
  | .bool, .int => true
  | a, b => decide (a = b)
def isiD (d : D) (ts : List Ty) : Option Bool := match d with
  | .non => some false
  | d => (tyOf d).map fun t => ts.any (isTy t)
def appendL (xs : List D) (x : D) : Option (D × List D) := if decide (xs.length < sizeLine) then some (.non, xs ++ [x]) else none
def extendL (xs : List D) (y : D) : Option (D × List D) := match y with
  | .lst ys => if decide (xs.length + ys.length ≤ sizeLine) then some (.non, xs ++ ys) else none
  | _ => none
def pop0L (xs : List D) : Option (D × List D) := (xs[xs.length - 1]?).map fun y => (y, xs.dropLast)
def popAtL (xs : List D) (y : D) : Option (D × List D) := match y with
  | .int i => if decide (-(2 ^ 63) ≤ i) && decide (i < 2 ^ 63) then (PySem.seqIndex? i xs.length).bind fun k => (xs[k]?).map fun y => (y, xs.eraseIdx k) else none
  | _ => none
def mtL : Mt → List D → List D → Option (D × List D)
  | .append, xs, ds => (match ds with
    | [x] => appendL xs x
    | _ => none)
  | .extend, xs, ds => (match ds with
    | [x] => extendL xs x
    | _ => none)
  | .pop, xs, ds => (match ds with
    | [] => pop0L xs
    | [x] => popAtL xs x
    | _ => none)
def mtD (m : Mt) (d : D) (ds : List D) : Option (D × D) := match d with
  | .mls xs => (mtL m xs ds).map fun q => (q.1, .mls q.2)
  | _ => none

/-! ### calls -/
abbrev Cal := Str → List D → FR
def passA : List Bool → List RV → GEnv → Option (List D × GEnv)
  | _, [], G => some ([], G)
  | true :: ms, .slot i :: r, G => match passA ms r G with
    | some (ds, G1) => (getS G1 i).map fun d => (d :: ds, G1)
    | none => none
  | true :: _, .val _ :: _, _ => none
  | ms, rv :: r, G => match take rv G with
    | some (d, G1) => (passA ms.tail r G1).map fun q => (d :: q.1, q.2)
    | none => none
def lentS : List Bool → List RV → List Nat
  | true :: ms, .slot i :: r => i :: lentS ms r
  | _ :: ms, _ :: r => lentS ms r
  | _, _ => []
def backA : List Bool → List RV → List D → GEnv → GEnv
  | true :: ms, .slot i :: r, d :: ds, G => backA ms r ds (G.set i (some d))
  | _ :: ms, _ :: r, _ :: ds, G => backA ms r ds G
  | _, _, _, G => G
structure Ctx where
  cal : Cal
  md : Str → List Bool
  pr : Nat → Bool
  np : Nat
def callE (C : Ctx) (f : Str) (rvs : List RV) (G : GEnv) : R RV :=
  match passA (C.md f) rvs G with
  | none => .no
  | some (ds, G1) => if (lentS (C.md f) rvs).Nodup then (match C.cal f ds with
    | .ret d as => .ok (.val d) (backA (C.md f) rvs as G1)
    | .ex c es as => .ex c es (backA (C.md f) rvs as G1)
    | .no => .no) else .no

/-! ### loops -/
def noEx {α : Type} : R α → R α
  | .ok a G => .ok a G
  | _ => .no
def compL (b : D → GEnv → R (Option D)) : List D → GEnv → R (List D)
  | [], G => .ok [] G
  | d :: ds, G => (noEx (b d G)).bind fun o G1 => (compL b ds G1).bind fun r G2 => .ok (match o with | some x => x :: r | none => r) G2
def forL (b : D → GEnv → R Flo) : List D → GEnv → R Flo
  | [], G => .ok .nx G
  | d :: ds, G => (b d G).bind fun f G1 => match f with
    | .nx => forL b ds G1
    | .ct => forL b ds G1
    | .bk => .ok .nx G1
    | .rt x => .ok (.rt x) G1
def whlL (c : GEnv → R Bool) (b : GEnv → R Flo) : Nat → GEnv → R Flo
  | 0, _ => .no
  | n + 1, G => (c G).bind fun k G1 => if k then (b G1).bind fun f G2 => (match f with
    | .nx => whlL c b n G2
    | .ct => whlL c b n G2
    | .bk => .ok .nx G2
    | .rt x => .ok (.rt x) G2) else .ok .nx G1
def wipeG : List Nat → GEnv → GEnv
  | [], G => G
  | i :: r, G => (wipeG r G).set i none
def restG : List Nat → GEnv → GEnv → GEnv
  | [], _, G => G
  | i :: r, G0, G => (restG r G0 G).set i (match getS G0 i with
    | some d => if d.still then some d else none
    | none => none)
mutual
def asgG : Tgt → D → GEnv → Option GEnv
  | .name i, d, G => if i < G.length then some (G.set i (some d)) else none
  | .tup ts, d, G => match d with
    | .tup ds => asgsG ts ds G
    | _ => none
def asgsG : Tgts → List D → GEnv → Option GEnv
  | .nil, ds, G => match ds with
    | [] => some G
    | _ => none
  | .cons t r, ds, G => match ds with
    | d :: ds => (match asgG t d G with
      | some G1 => asgsG r ds G1
      | none => none)
    | [] => none
end
mutual
def protT (p : Nat → Bool) : Tgt → Bool
  | .name i => !p i
  | .tup ts => protTs p ts
def protTs (p : Nat → Bool) : Tgts → Bool
  | .nil => true
  | .cons t r => protT p t && protTs p r
end
/-- one turn of a comprehension -/
def compB (own : List Nat) (tg : Tgt) (ft : Option (GEnv → R Bool)) (fe : GEnv → R RV) (d : D) (G : GEnv) : R (Option D) := match asgG tg d G with
  | none => .no
  | some G => (match ft with
    | none => R.ok true G
    | some f => f G).bind fun k G1 => if k then (fe G1).bind fun x G2 => (match take x G2 with
      | some (d, G3) => .ok (some d) (wipeG own G3)
      | none => .no) else .ok none (wipeG own G1)
def rangeD : List D → Option (List D)
  | [.int n] => if decide (-(2 ^ 62) ≤ n) && decide (n < 2 ^ 62) then some ((List.range n.toNat).map fun i => .int (0 + (i : Nat))) else none
  | [.int a, .int b] => if decide (-(2 ^ 62) ≤ a) && decide (a < 2 ^ 62) && decide (-(2 ^ 62) ≤ b) && decide (b < 2 ^ 62) then some ((List.range (b - a).toNat).map fun i => .int (a + (i : Nat))) else none
  | _ => none
def zipD (xs ys : List D) : List D := (xs.zip ys).map fun p => .tup [p.1, p.2]
def enumD (xs : List D) : List D := xs.zipIdx.map fun p => .tup [.int (p.2 : Nat), p.1]
def tupOf : D → Option (List D)
  | .tup xs => some xs
  | _ => none
def zipX (d e : D) : Option D := match listOf d, listOf e with
  | some xs, some ys => some (.tup (zipD xs ys))
  | _, _ => match tupOf d, tupOf e with
    | some xs, some ys => some (.tup (zipD xs ys))
    | _, _ => none
def enumX (d : D) : Option D := (listOf d).map fun xs => .tup (enumD xs)
def sortOk (ps : List PyData) : Bool := ps.all (fun d => ps.all (PySem.W.alike d)) && (ps.all (fun d => match d with | .tuple (_ :: _) => true | _ => false) || ps.all (fun d => match d with | .none => false | .tuple _ => false | _ => true)) && ps.all (fun d => decide (d.depth ≤ 100))
def encD (d : D) : PyData := (d.py).getD .none
def sortD (xs : List D) : Option (List D) := match D.pys xs with
  | some ps => if sortOk ps && lenOk xs then some (xs.mergeSort (PySem.W.dataLe false encD)) else none
  | none => none
def colD (c : Col) (d : D) : Option D := match c with
  | .list => (seqOf d).bind fun xs => if lenOk xs then some (.mls xs) else none
  | .tuple => (seqOf d).bind fun xs => if lenOk xs then some (.tup xs) else none
  | .sorted => ((listOf d).bind sortD).map .mls
  | .dict => none
def lzipX (d e : D) : Option D := match zipX d e with
  | some (.tup xs) => if lenOk xs then some (.mls xs) else none
  | _ => none

/-! ### dicts keyed by tuples of ints: keys and values stand by turns -/
def keyI (k : List Int) : List L2.Key := k.map .inl
def encK (kvs : List (List Int × D)) : List Kx := kvs.flatMap fun p => [.inr (keyI p.1), .inr []]
def encV (kvs : List (List Int × D)) : List D := kvs.flatMap fun p => [.tup (p.1.map .int), p.2]
def mdT (kvs : List (List Int × D)) : D := .mdc true (encK kvs) (encV kvs)
def dcT (kvs : List (List Int × D)) : D := .dct true (encK kvs) (encV kvs)
def decV : List D → Option (List (List Int × D))
  | [] => some []
  | .tup k :: v :: r => (intsOf k).bind fun ks => (decV r).map ((ks, v) :: ·)
  | _ => none
def decC : D → Option (List (List Int × D))
  | .dct true ks xs => (decV xs).bind fun kvs => if ks = encK kvs then some kvs else none
  | _ => none
def decM : D → Option (List (List Int × D))
  | .mdc true ks xs => (decV xs).bind fun kvs => if ks = encK kvs then some kvs else none
  | _ => none
def pairsOf : List D → Option (List (List Int × D))
  | [] => some []
  | .tup [.tup k, v] :: r => (intsOf k).bind fun ks => (pairsOf r).map ((ks, v) :: ·)
  | _ => none
def putP {α : Type} (acc : List (List Int × α)) (k : List Int) (v : α) : List (List Int × α) :=
  if acc.any fun p => decide (p.1 = k) then acc.map fun p => if p.1 = k then (p.1, v) else p else acc ++ [(k, v)]
def mergeP {α : Type} (acc more : List (List Int × α)) : List (List Int × α) := more.foldl (fun a p => putP a p.1 p.2) acc
def hashI (k : List Int) : Int := PySem.reduceHash (PySem.Builtin.Tuple.tupleHashOf (k.map PySem.hashInt))
def dctpD : D → Option D
  | .lst xs => (pairsOf xs).bind fun ps => if lenOk xs then some (mdT (mergeP [] ps)) else none
  | _ => none
def updD (m d : D) : Option D := (decM m).bind fun a => (decC d).bind fun b =>
  if (a ≠ [] ∨ (b.map fun p => hashI p.1).Nodup) ∧ a.length + b.length ≤ sizeLine then some (mdT (mergeP a b)) else none
def keysD (d : D) : Option D := (decC d).map fun kvs => .mls (kvs.map fun p => .tup (p.1.map .int))
def empD (d : D) : Option Bool := match decM d with
  | some kvs => some kvs.isEmpty
  | none => (decC d).map (·.isEmpty)

def constD : Exp → Option D
  | .non => some .non
  | .bl b => some (.bl b)
  | .int i => some (.int i)
  | .str s => some (.str s)
  | .fnr f => some (.fn f)
  | _ => none

mutual
def evE (C : Ctx) : Exp → GEnv → R RV
  | .var i, G => match getS G i with
    | some _ => .ok (.slot i) G
    | none => .no
  | .non, G => .ok (.val .non) G
  | .bl b, G => .ok (.val (.bl b)) G
  | .int i, G => .ok (.val (.int i)) G
  | .str s, G => .ok (.val (.str s)) G
  | .fnr f, G => .ok (.val (.fn f)) G
  | .bin o a b, G => (evE C a G).bind fun x G1 => (evE C b G1).bind fun y G2 => match deref x G2, deref y G2 with
    | some d, some e => lft (binD o d e) G2
    | _, _ => .no
  | .neg a, G => (evE C a G).bind fun x G1 => match deref x G1 with
    | some (.int i) => .ok (.val (.int (-i))) G1
    | _ => .no
  | .not a, G => (evE C a G).bind fun x G1 => match (deref x G1).bind truthD with
    | some k => .ok (.val (.bl (!k))) G1
    | none => .no
  | .and a b, G => (evE C a G).bind fun x G1 => match (deref x G1).bind truthD with
    | some true => evE C b G1
    | some false => .ok x G1
    | none => .no
  | .or a b, G => (evE C a G).bind fun x G1 => match (deref x G1).bind truthD with
    | some true => .ok x G1
    | some false => evE C b G1
    | none => .no
  | .cmp o a b, G => (evE C a G).bind fun x G1 => (evE C b G1).bind fun y G2 => match deref x G2, deref y G2 with
    | some d, some e => lft ((cmpD o d e).map .bl) G2
    | _, _ => .no
  | .cmp2 o o' a b c, G => (evE C a G).bind fun x G1 => (evE C b G1).bind fun y G2 => match deref x G2, deref y G2 with
    | some d, some e => (match cmpD o d e with
      | some true => (evE C c G2).bind fun z G3 => (match deref y G3, deref z G3 with
        | some e, some f => lft ((cmpD o' e f).map .bl) G3
        | _, _ => .no)
      | some false => .ok (.val (.bl false)) G2
      | none => .no)
    | _, _ => .no
  | .ife c a b, G => (evT C c G).bind fun k G1 => if k then evE C a G1 else evE C b G1
  | .tup es, G => (evEs C es G).bind fun rvs G1 => match takes rvs G1 with
    | some (ds, G2) => if lenOk ds then .ok (.val (.tup ds)) G2 else .no
    | none => .no
  | .lst es, G => (evEs C es G).bind fun rvs G1 => match takes rvs G1 with
    | some (ds, G2) => if lenOk ds then .ok (.val (.mls ds)) G2 else .no
    | none => .no
  | .dnew t, G => .ok (.val (.mdc t [] [])) G
  | .ix a i, G => (evE C a G).bind fun x G1 => (evE C i G1).bind fun y G2 => match deref x G2, deref y G2 with
    | some d, some e => lft (ixD d e) G2
    | _, _ => .no
  | .sl a lo hi, G => (evE C a G).bind fun x G1 => (evO C lo G1).bind fun l G2 => (evO C hi G2).bind fun h G3 => match deref x G3 with
    | some d => lft (slD d l h) G3
    | none => .no
  | .rev a, G => (evE C a G).bind fun x G1 => match deref x G1 with
    | some d => lft (revD d) G1
    | none => .no
  | .call f es, G => (evEs C es G).bind fun rvs G1 => callE C f rvs G1
  | .callv i fs es, G => match getS G i with
    | some (.fn f) => if fs.contains f then (evEs C es G).bind fun rvs G1 => callE C f rvs G1 else .no
    | _ => .no
  | .bi b es, G => (evEs C es G).bind fun rvs G1 => match derefs rvs G1 with
    | some ds => lft (biD b ds) G1
    | none => .no
  | .isi a ts, G => (evE C a G).bind fun x G1 => match deref x G1 with
    | some d => lft ((isiD d ts).map .bl) G1
    | none => .no
  | .col c e, G => (evE C e G).bind fun x G1 => match take x G1 with
    | some (d, G2) => lft (colD c d) G2
    | none => .no
  | .lzip es, G => (evEs C es G).bind fun rvs G1 => match takes rvs G1 with
    | some (ds, G2) => lft (on2 lzipX ds) G2
    | none => .no
  | .dctp e, G => (evE C e G).bind fun x G1 => match take x G1 with
    | some (d, G2) => lft (dctpD d) G2
    | none => .no
  | .upd i e, G => match getS G i with
    | some (.mdc true _ _) => (evE C e G).bind fun x G1 => (match take x G1 with
      | some (d, G2) => (match getS G2 i with
        | some m => (match updD m d with
          | some m' => .ok (.val .non) (G2.set i (some m'))
          | none => .no)
        | none => .no)
      | none => .no)
    | _ => .no
  | .keys e, G => (evE C e G).bind fun x G1 => match take x G1 with
    | some (d, G2) => lft (keysD d) G2
    | none => .no
  | .mt m o es, G => match o with
    | .var i => (match getS G i with
      | some (.mls _) => (evEs C es G).bind fun rvs G1 => (match takes rvs G1 with
        | some (ds, G2) => (match getS G2 i with
          | some d => (match mtD m d ds with
            | some (r, d') => .ok (.val r) (G2.set i (some d'))
            | none => .no)
          | none => .no)
        | none => .no)
      | _ => .no)
    | _ => .no
  | .comp own tg it c el, G => (evI C it G).bind fun xs G1 => (compL (compB own tg (match c with
      | .none => none
      | .some t => some (evT C t)) (evE C el)) xs (wipeG own G1)).bind fun ys G2 => if lenOk ys then .ok (.val (.mls ys)) (restG own G1 G2) else .no
def evEs (C : Ctx) : Exps → GEnv → R (List RV)
  | .nil, G => .ok [] G
  | .cons e r, G => (evE C e G).bind fun x G1 => (evEs C r G1).bind fun xs G2 => .ok (x :: xs) G2
  | .star e r, G => (evE C e G).bind fun x G1 => match take x G1 with
    | some (d, G2) => (match seqOf d with
      | some ds => (evEs C r G2).bind fun xs G3 => .ok (ds.map .val ++ xs) G3
      | none => .no)
    | none => .no
def evO (C : Ctx) : Opt → GEnv → R (Option Int)
  | .none, G => .ok none G
  | .some e, G => (evE C e G).bind fun x G1 => match deref x G1 with
    | some (.int i) => .ok (some i) G1
    | _ => .no
def evT (C : Ctx) : Tst → GEnv → R Bool
  | .not t, G => (evT C t G).bind fun k G1 => .ok (!k) G1
  | .and a b, G => (evT C a G).bind fun k G1 => if k then evT C b G1 else .ok false G1
  | .or a b, G => (evT C a G).bind fun k G1 => if k then .ok true G1 else evT C b G1
  | .cmp o a b, G => (evE C a G).bind fun x G1 => (evE C b G1).bind fun y G2 => match deref x G2, deref y G2 with
    | some d, some e => (match cmpD o d e with
      | some k => .ok k G2
      | none => .no)
    | _, _ => .no
  | .cmp2 o o' a b c, G => (evE C a G).bind fun x G1 => (evE C b G1).bind fun y G2 => match deref x G2, deref y G2 with
    | some d, some e => (match cmpD o d e with
      | some true => (evE C c G2).bind fun z G3 => (match deref y G3, deref z G3 with
        | some e, some f => (match cmpD o' e f with
          | some k => .ok k G3
          | none => .no)
        | _, _ => .no)
      | some false => .ok false G2
      | none => .no)
    | _, _ => .no
  | .val a, G => (evE C a G).bind fun x G1 => match (deref x G1).bind truthD with
    | some k => .ok k G1
    | none => .no
  | .emp a, G => (evE C a G).bind fun x G1 => match (deref x G1).bind empD with
    | some k => .ok k G1
    | none => .no
def evI (C : Ctx) : Ite → GEnv → R (List D)
  | .seq e, G => (evE C e G).bind fun x G1 => match take x G1 with
    | some (d, G2) => (match seqOf d with
      | some xs => .ok xs G2
      | none => .no)
    | none => .no
  | .range es, G => (evEs C es G).bind fun rvs G1 => match (derefs rvs G1).bind rangeD with
    | some xs => .ok xs G1
    | none => .no
  | .zip es, G => (evEs C es G).bind fun rvs G1 => match takes rvs G1 with
    | some (ds, G2) => (match on2 zipX ds with
      | some (.tup xs) => .ok xs G2
      | _ => .no)
    | _ => .no
  | .enum es, G => (evEs C es G).bind fun rvs G1 => match takes rvs G1 with
    | some (ds, G2) => (match on1 enumX ds with
      | some (.tup xs) => .ok xs G2
      | _ => .no)
    | _ => .no
end
def wf : Nat := 1000000000
/-- what is bound | handed back: a value moves, a name is read -/
def own (rv : RV) (G : GEnv) : Option (D × GEnv) := match rv with
  | .val d => some (d, G)
  | .slot i => take (.slot i) G
def retV (C : Ctx) (rv : RV) (G : GEnv) : Option (D × GEnv) := match rv with
  | .val d => some (d, G)
  | .slot i => if i < C.np then take (.slot i) G else (getS G i).map fun d => (d, G.set i none)
def owns : List RV → GEnv → Option (List D × GEnv)
  | [], G => some ([], G)
  | rv :: r, G => match own rv G with
    | some (d, G1) => (owns r G1).map fun q => (d :: q.1, q.2)
    | none => none
def setsG : List Nat → List D → GEnv → Option GEnv
  | [], [], G => some G
  | i :: is, d :: ds, G => if i < G.length then setsG is ds (G.set i (some d)) else none
  | _, _, _ => none
def setIxD : D → D → D → Option D
  | .mls xs, .int i, x => match L2.ixN xs.length i with
    | some j => some (.mls (xs.set j x))
    | none => none
  | _, _, _ => none
def augI : BOp → Int → Int → Option Int
  | .add, i, j => some (i + j)
  | .sub, i, j => some (i - j)
  | .mul, i, j => if mulOk i j then some (i * j) else none
  | .fdiv, i, j => if decide (0 < j) && decide (j < 1073741824) then some (i / j) else none
  | .mod, i, j => if decide (0 < j) then some (i % j) else none
  | .pow, _, _ => none
def ixL : D → D → Option D
  | .mls xs, .int i => L2.atI xs i
  | _, _ => none
mutual
def evS (C : Ctx) : Sta → GEnv → R Flo
  | .set i e, G => if C.pr i then .no else (evE C e G).bind fun x G1 => match own x G1 with
    | some (d, G2) => if i < G2.length then .ok .nx (G2.set i (some d)) else .no
    | none => .no
  | .asg tg e, G => if protT C.pr tg then (evE C e G).bind fun x G1 => (match take x G1 with
    | some (d, G2) => (match asgG tg d G2 with
      | some G3 => .ok .nx G3
      | none => .no)
    | none => .no) else .no
  | .par is es, G => if is.any C.pr then .no else (evEs C es G).bind fun xs G1 => match owns xs G1 with
    | some (ds, G2) => (match setsG is ds G2 with
      | some G3 => .ok .nx G3
      | none => .no)
    | none => .no
  | .setIx o i e, G => match o with
    | .var k => (evE C e G).bind fun x G1 => (match getS G1 k with
      | some _ => (evE C i G1).bind fun y G2 => (match take x G2 with
        | some (d, G3) => (match getS G3 k, deref y G3 with
          | some s, some j => (match setIxD s j d with
            | some s' => .ok .nx (G3.set k (some s'))
            | none => .no)
          | _, _ => .no)
        | none => .no)
      | none => .no)
    | _ => .no
  | .aug i op e, G => if C.pr i then .no else match getS G i with
    | some (.int a) => (evE C e G).bind fun x G1 => (match deref x G1 with
      | some (.int b) => (match augI op a b with
        | some c => if i < G1.length then .ok .nx (G1.set i (some (.int c))) else .no
        | none => .no)
      | _ => .no)
    | _ => .no
  | .augIx o i op e, G => match o with
    | .var k => (match getS G k with
      | some _ => (evE C i G).bind fun y G1 => (match getS G1 k, deref y G1 with
        | some s, some j => (match ixL s j with
          | some (.int a) => (evE C e G1).bind fun x G2 => (match deref x G2 with
            | some (.int b) => (match augI op a b, getS G2 k, deref y G2 with
              | some c, some s', some j' => (match setIxD s' j' (.int c) with
                | some s2 => .ok .nx (G2.set k (some s2))
                | none => .no)
              | _, _, _ => .no)
            | _ => .no)
          | _ => .no)
        | _, _ => .no)
      | none => .no)
    | _ => .no
  | .expr e, G => (evE C e G).bind fun _ G1 => .ok .nx G1
  | .ret e, G => (evE C e G).bind fun x G1 => match retV C x G1 with
    | some (d, G2) => .ok (.rt d) G2
    | none => .no
  | .retN, G => .ok (.rt .non) G
  | .ife c a b, G => (evT C c G).bind fun k G1 => if k then evSs C a G1 else evSs C b G1
  | .whl c b, G => whlL (evT C c) (evSs C b) wf G
  | .for_ tg it b, G => if protT C.pr tg then (evI C it G).bind fun xs G1 => forL (fun d G => match asgG tg d G with
      | none => .no
      | some G => evSs C b G) xs G1 else .no
  | .pass, G => .ok .nx G
  | .brk, G => .ok .bk G
  | .cont, G => .ok .ct G
  | .zall i es ow tg el, G => if C.pr i then .no else (evEs C es G).bind fun rvs G1 => match takes rvs G1 with
    | some (ds, G2) => (match on2 zipX ds with
      | some (.tup xs) => if i < G2.length then (compL (compB ow tg none (evE C el)) xs (wipeG ow (G2.set i none))).bind fun ys G3 => if lenOk ys then (match allD (.mls ys) with
        | some d => .ok (.rt d) (restG ow (G2.set i none) G3)
        | none => .no) else .no else .no
      | _ => .no)
    | none => .no
  | .never, _ => .no
def evSs (C : Ctx) : Stas → GEnv → R Flo
  | .nil, G => .ok .nx G
  | .cons s r, G => (evS C s G).bind fun f G1 => match f with
    | .nx => evSs C r G1
    | f => .ok f G1
end

/-! ### defs -/
structure Fd where
  np : Nat
  ns : Nat
  md : List Bool
  body : Stas
abbrev Prog := List (Str × Fd)
def modes (P : Prog) (f : Str) : List Bool := match P.lookup f with
  | some fd => fd.md
  | none => []
def firsts : List Bool → Nat → GEnv → Option (List D)
  | _, 0, _ => some []
  | md, n + 1, G => match getS G 0 with
    | some d => (firsts md.tail n G.tail).map (d :: ·)
    | none => if md.headD false then none else (firsts md.tail n G.tail).map (.non :: ·)
def retF (d : D) : Option (List D) → FR
  | some as => .ret d as
  | none => .no
def excF (c : Str) (ds : List D) : Option (List D) → FR
  | some as => .ex c ds as
  | none => .no
def runB (P : Prog) (cal : Cal) (fd : Fd) (args : List D) : FR :=
  if args.length = fd.np ∧ fd.np ≤ fd.ns then (match evSs ⟨cal, modes P, fun i => fd.md.getD i false, fd.np⟩ fd.body (args.map some ++ List.replicate (fd.ns - fd.np) none) with
    | .ok (.rt d) G => retF d (firsts fd.md fd.np G)
    | .ok .nx G => retF .non (firsts fd.md fd.np G)
    | .ex c es G => excF c es (firsts fd.md fd.np G)
    | _ => .no) else .no
def evF (P : Prog) : Nat → Cal
  | 0, _, _ => .no
  | n + 1, f, args => match P.lookup f with
    | some fd => runB P (evF P n) fd args
    | none => .no
end Dv
end
section
set_option Elab.async false
set_option linter.all false
set_option maxRecDepth 100000
set_option maxHeartbeats 2000000
/-! Dv3: data in the heap. -/
namespace Dv
open PySem L2

/-! ### keys -/
def kK : Kx → Key
  | .inl k => k
  | .inr _ => .inl 0
def kT : Kx → List Key
  | .inl _ => []
  | .inr l => l
def kxOk (t : Bool) : Kx → Bool
  | .inl _ => !t
  | .inr _ => t
/-- a dict keyed by tuples of ints, as it lies in the heap -/
def entI (x : List Int × Addr × Value) : DictEntry := ⟨hashI x.1, .ref x.2.1, x.2.2⟩
def rawD (a : Addr) (xs : List (List Int × Addr × V)) : HO := .ext fun h => (a == sysModules) = false ∧ xs.length ≤ sizeLine ∧ (xs.map (·.1)).Nodup ∧
  ∃ ys : List (List Int × Addr × Value), Paired (fun p q => p.1 = q.1 ∧ p.2.1 = q.2.1 ∧ RelV p.2.2 q.2.2) xs ys ∧ ∃ o es ep, h.get? a = some o ∧ o.ExactDict ∧ o.data = .dict es ep ∧ es.toList = ys.map entI
def kInt : List Key → List Int
  | [] => []
  | .inl i :: r => i :: kInt r
  | .inr _ :: r => kInt r
def rowsT : List Kx → List V → List (List Int × Addr × V)
  | .inr k :: _ :: ks, .ref b :: v :: vs => (kInt k, b, v) :: rowsT ks vs
  | _, _ => []
def dHO (a : Addr) (t : Bool) (ks : List Kx) (vs : List V) : HO := if t then rawD a (rowsT ks vs) else .dK ((ks.map kK).zip vs)

/-! ### data that are not changed any more, told by F -/
section
variable (K : PySem.W.Frag) (mg : Str → Option Value)
mutual
def Rf (F : Hp) : D → V → Prop
  | .non, v => v = .non
  | .bl b, v => v = .bl b
  | .int i, v => v = .int i
  | .str s, v => v = .str s
  | .fn f, v => ∃ a, mg f = some (.ref a) ∧ v = .ref a
  | .scr ns, v => ∃ a, v = .ref a ∧ SqL K F a (ns.map V.int)
  | .tup xs, v => ∃ a vs, v = .ref a ∧ SqT K F a vs ∧ Rfs F xs vs
  | .lst xs, v => ∃ a vs, v = .ref a ∧ F a = some (.lst vs) ∧ Rfs F xs vs
  | .dct t ks xs, v => ∃ a vs, v = .ref a ∧ F a = some (dHO a t ks vs) ∧ ks.all (kxOk t) = true ∧ ks.length = xs.length ∧ Rfs F xs vs
  | .mls _, _ => False
  | .mdc _ _ _, _ => False
def Rfs (F : Hp) : List D → List V → Prop
  | [], vs => vs = []
  | x :: xs, vs => ∃ v r, vs = v :: r ∧ Rf F x v ∧ Rfs F xs r
end
end
inductive Own where
  | env (i : Nat) | stk (k : Nat)
  deriving DecidableEq
abbrev Ows := Addr → Option Own
/-- F goes on in F' -/
def Sub (F F' : Hp) : Prop := ∀ a o, F a = some o → F' a = some o
section
variable {K : PySem.W.Frag} {mg : Str → Option Value} {F F' H : Hp}
theorem Sub.refl (F : Hp) : Sub F F := fun _ _ h => h
theorem Sub.trans {F F1 F2 : Hp} (a : Sub F F1) (b : Sub F1 F2) : Sub F F2 := fun x o h => b x o (a x o h)
theorem Sub.none {a : Addr} (s : Sub F F') (h : F' a = none) : F a = none := by
  cases q : F a with
  | none => rfl
  | some o => rw [s a o q] at h; cases h
theorem Sub.sqL {a : Addr} {vs : List V} (s : Sub F F') (h : SqL K F a vs) : SqL K F' a vs := by
  rcases h with (h | ⟨o, h⟩) | h
  · exact .inl (.inl (s _ _ h))
  · exact .inl (.inr ⟨o, s _ _ h⟩)
  · exact .inr h
theorem Sub.sqT {a : Addr} {vs : List V} (s : Sub F F') (h : SqT K F a vs) : SqT K F' a vs := by
  rcases h with (h | ⟨o, h⟩) | h
  · exact .inl (.inl (s _ _ h))
  · exact .inl (.inr ⟨o, s _ _ h⟩)
  · exact .inr h
mutual
theorem Rf.mono (s : Sub F F') : ∀ {d : D} {v : V}, Rf K mg F d v → Rf K mg F' d v
  | .non, _, h => h
  | .bl _, _, h => h
  | .int _, _, h => h
  | .str _, _, h => h
  | .fn _, _, h => h
  | .scr _, _, ⟨a, e, q⟩ => ⟨a, e, s.sqL q⟩
  | .tup xs, _, ⟨a, vs, e, q, r⟩ => ⟨a, vs, e, s.sqT q, Rfs.mono s r⟩
  | .lst xs, _, ⟨a, vs, e, q, r⟩ => ⟨a, vs, e, s _ _ q, Rfs.mono s r⟩
  | .dct t ks xs, _, ⟨a, vs, e, q, l, m, r⟩ => ⟨a, vs, e, s _ _ q, l, m, Rfs.mono s r⟩
  | .mls _, _, h => h
  | .mdc _ _ _, _, h => h
theorem Rfs.mono (s : Sub F F') : ∀ {ds : List D} {vs : List V}, Rfs K mg F ds vs → Rfs K mg F' ds vs
  | [], _, h => h
  | _ :: _, _, ⟨v, r, e, h1, h2⟩ => ⟨v, r, e, Rf.mono s h1, Rfs.mono s h2⟩
end
theorem Rf.fz : ∀ {d : D} {v : V}, Rf K mg F d v → d.fz = d
  | .non, _, _ => rfl
  | .bl _, _, _ => rfl
  | .int _, _, _ => rfl
  | .str _, _, _ => rfl
  | .fn _, _, _ => rfl
  | .scr _, _, _ => rfl
  | .tup xs, _, _ => rfl
  | .lst xs, _, _ => rfl
  | .dct t ks xs, _, _ => rfl
  | .mls _, _, h => h.elim
  | .mdc _ _ _, _, h => h.elim
theorem Rfs.fzs : ∀ {ds : List D} {vs : List V}, Rfs K mg F ds vs → D.fzs ds = ds
  | [], _, _ => rfl
  | _ :: _, _, ⟨_, _, _, h1, h2⟩ => by
    show D.fz _ :: D.fzs _ = _
    rw [h1.fz, h2.fzs]
theorem Rfs.len : ∀ {ds : List D} {vs : List V}, Rfs K mg F ds vs → vs.length = ds.length
  | [], _, h => by rw [show _ = [] from h]; rfl
  | _ :: _, _, ⟨_, _, e, _, h2⟩ => by rw [e, List.length_cons, List.length_cons, h2.len]
theorem Rfs.get : ∀ {ds : List D} {vs : List V} {i : Nat} {d : D}, Rfs K mg F ds vs → ds[i]? = some d → ∃ v, vs[i]? = some v ∧ Rf K mg F d v
  | [], _, i, d, _, e => by simp at e
  | x :: xs, _, 0, d, ⟨v, r, e1, h1, h2⟩, e => by
    have e' : x = d := by simpa using e
    subst e' e1
    exact ⟨v, rfl, h1⟩
  | x :: xs, _, i + 1, d, ⟨v, r, e1, h1, h2⟩, e => by
    subst e1
    obtain ⟨u, q1, q2⟩ := Rfs.get (i := i) h2 (by simpa using e)
    exact ⟨u, by simpa using q1, q2⟩
theorem Rfs.at : ∀ {ds : List D} {vs : List V} {i : Nat} {v : V}, Rfs K mg F ds vs → vs[i]? = some v → ∃ d, ds[i]? = some d ∧ Rf K mg F d v
  | [], _, i, v, h, e => by rw [show _ = [] from h] at e; simp at e
  | x :: xs, _, 0, v, ⟨w, r, e1, h1, h2⟩, e => by
    subst e1
    have e' : w = v := by simpa using e
    subst e'
    exact ⟨x, rfl, h1⟩
  | x :: xs, _, i + 1, v, ⟨w, r, e1, h1, h2⟩, e => by
    subst e1
    obtain ⟨u, q1, q2⟩ := Rfs.at (i := i) h2 (by simpa using e)
    exact ⟨u, by simpa using q1, q2⟩
theorem Rfs.append : ∀ {ds es : List D} {vs ws : List V}, Rfs K mg F ds vs → Rfs K mg F es ws → Rfs K mg F (ds ++ es) (vs ++ ws)
  | [], _, _, _, h, q => by rw [show _ = [] from h]; exact q
  | _ :: _, _, _, _, ⟨v, r, e, h1, h2⟩, q => ⟨v, r ++ _, by rw [e]; rfl, h1, Rfs.append h2 q⟩
theorem Rfs.one {d : D} {v : V} (h : Rf K mg F d v) : Rfs K mg F [d] [v] := ⟨v, [], rfl, h, rfl⟩
theorem Rfs.take : ∀ {ds : List D} {vs : List V} (n : Nat), Rfs K mg F ds vs → Rfs K mg F (ds.take n) (vs.take n)
  | _, _, 0, _ => rfl
  | [], _, n + 1, h => by rw [show _ = [] from h]; exact rfl
  | _ :: _, _, n + 1, ⟨v, r, e, h1, h2⟩ => by subst e; exact ⟨v, r.take n, rfl, h1, Rfs.take n h2⟩
theorem Rfs.drop : ∀ {ds : List D} {vs : List V} (n : Nat), Rfs K mg F ds vs → Rfs K mg F (ds.drop n) (vs.drop n)
  | _, _, 0, h => h
  | [], _, n + 1, h => by rw [show _ = [] from h]; exact rfl
  | _ :: _, _, n + 1, ⟨v, r, e, h1, h2⟩ => by subst e; exact Rfs.drop n h2
theorem Rfs.reverse : ∀ {ds : List D} {vs : List V}, Rfs K mg F ds vs → Rfs K mg F ds.reverse vs.reverse
  | [], _, h => by rw [show _ = [] from h]; exact rfl
  | _ :: _, _, ⟨v, r, e, h1, h2⟩ => by
    subst e
    rw [List.reverse_cons, List.reverse_cons]
    exact Rfs.append (Rfs.reverse h2) (.one h1)
theorem Rfs.set : ∀ {ds : List D} {vs : List V} {d : D} {v : V} (i : Nat), Rfs K mg F ds vs → Rf K mg F d v → Rfs K mg F (ds.set i d) (vs.set i v)
  | [], _, _, _, _, h, _ => by rw [show _ = [] from h]; exact rfl
  | _ :: _, _, d, v, 0, ⟨w, r, e, h1, h2⟩, q => by subst e; exact ⟨v, r, rfl, q, h2⟩
  | _ :: _, _, d, v, i + 1, ⟨w, r, e, h1, h2⟩, q => by subst e; exact ⟨w, r.set i v, rfl, h1, Rfs.set i h2 q⟩
theorem Rfs.erase : ∀ {ds : List D} {vs : List V} (i : Nat), Rfs K mg F ds vs → Rfs K mg F (ds.eraseIdx i) (vs.eraseIdx i)
  | [], _, _, h => by rw [show _ = [] from h]; exact rfl
  | _ :: _, _, 0, ⟨w, r, e, h1, h2⟩ => by subst e; exact h2
  | _ :: _, _, i + 1, ⟨w, r, e, h1, h2⟩ => by subst e; exact ⟨w, r.eraseIdx i, rfl, h1, Rfs.erase i h2⟩
theorem Rfs.dropLast : ∀ {ds : List D} {vs : List V}, Rfs K mg F ds vs → Rfs K mg F ds.dropLast vs.dropLast := fun {ds vs} h => by
  rw [List.dropLast_eq_take, List.dropLast_eq_take, h.len]
  exact h.take _
theorem Rfs.rep {ds : List D} {vs : List V} (h : Rfs K mg F ds vs) : ∀ n : Nat, Rfs K mg F (List.replicate n ds).flatten (List.replicate n vs).flatten
  | 0 => rfl
  | n + 1 => by
    rw [List.replicate_succ, List.replicate_succ, List.flatten_cons, List.flatten_cons]
    exact h.append (h.rep n)
end

/-! ### owned data too -/
section
variable (K : PySem.W.Frag) (mg : Str → Option Value)
def Rp (F H : Hp) (ow : Ows) (o : Own) : D → V → Prop
  | .mls xs, v => ∃ a vs, v = .ref a ∧ H a = some (.lst vs) ∧ ow a = some o ∧ Rfs K mg F xs vs
  | .mdc t ks xs, v => ∃ a vs, v = .ref a ∧ H a = some (dHO a t ks vs) ∧ ow a = some o ∧ ks.all (kxOk t) = true ∧ ks.length = xs.length ∧ Rfs K mg F xs vs
  | d, v => Rf K mg F d v
/-- the world: F lies in H, what is owned is there, and not in F -/
structure Wd (F : Hp) (ow : Ows) (H : Hp) : Prop where
  fh : Sub F H
  of : ∀ a o, ow a = some o → F a = none ∧ H a ≠ none
def RVR (F H : Hp) (ow : Ows) (σ : St) (o : Own) : RV → V → Prop
  | .val d, v => Rp K mg F H ow o d v
  | .slot i, v => σ[i]? = some (some v)
def StR (F H : Hp) (ow : Ows) (σ : St) : List (RV × V) → Prop
  | [] => True
  | p :: r => RVR K mg F H ow σ (.stk r.length) p.1 p.2 ∧ StR F H ow σ r
structure At (F : Hp) (ow : Ows) (G : GEnv) (σ : St) (H : Hp) (st : List (RV × V)) : Prop where
  wd : Wd F ow H
  ln : G.length = σ.length
  env : ∀ i d, getS G i = some d → ∃ v, σ[i]? = some (some v) ∧ Rp K mg F H ow (.env i) d v
  stk : StR K mg F H ow σ st
end
/-- what stood outside stands -/
structure Ext (F : Hp) (ow : Ows) (H F' : Hp) (ow' : Ows) (H' : Hp) : Prop where
  sub : Sub F F'
  keep : ∀ a o, H a = some o → ow a = none → H' a = some o
  newF : ∀ a, F' a ≠ none → F a ≠ none ∨ H a = none ∨ ow a ≠ none
  newO : ∀ a, ow' a ≠ none → H a = none ∨ ow a ≠ none
/-- only new objects -/
structure Grow (F : Hp) (ow : Ows) (H F' : Hp) (ow' : Ows) (H' : Hp) : Prop where
  sub : Sub F F'
  hh : Sub H H'
  oo : ∀ a o, ow a = some o → ow' a = some o
  newF : ∀ a, F' a ≠ none → F a ≠ none ∨ H a = none
  newO : ∀ a, ow' a ≠ none → H a = none ∨ ow a ≠ none
  wd : Wd F ow H → Wd F' ow' H'
section
variable {K : PySem.W.Frag} {mg : Str → Option Value} {F F' F1 F2 H H' H1 H2 : Hp} {ow ow' ow1 ow2 : Ows} {G : GEnv} {σ : St} {st pre : List (RV × V)} {o : Own} {d : D} {v : V} {rv : RV}
theorem Ext.refl : Ext F ow H F ow H := ⟨Sub.refl _, fun _ _ h _ => h, fun _ h => .inl h, fun _ h => .inr h⟩
theorem Ext.trans (a : Ext F ow H F1 ow1 H1) (b : Ext F1 ow1 H1 F2 ow2 H2) : Ext F ow H F2 ow2 H2 := by
  have back : ∀ x, H x ≠ none → ow x = none → ∃ o, H x = some o ∧ H1 x = some o ∧ ow1 x = none := fun x hn ho => by
    cases q : H x with
    | none => exact absurd q hn
    | some o =>
      refine ⟨o, rfl, a.keep x o q ho, ?_⟩
      cases q2 : ow1 x with
      | none => rfl
      | some z =>
        rcases a.newO x (by rw [q2]; simp) with h | h
        · exact absurd h hn
        · exact absurd ho h
  have far : ∀ x, (H1 x = none ∨ ow1 x ≠ none) → H x = none ∨ ow x ≠ none := fun x h => by
    by_cases hn : H x = none
    · exact .inl hn
    · by_cases ho : ow x = none
      · obtain ⟨o, _, h1, h2⟩ := back x hn ho
        rcases h with h | h
        · rw [h1] at h; cases h
        · exact absurd h2 h
      · exact .inr ho
  refine ⟨a.sub.trans b.sub, fun x o h ho => ?_, fun x h => ?_, fun x h => far x (b.newO x h)⟩
  · obtain ⟨o', e, h1, h2⟩ := back x (by rw [h]; simp) ho
    rw [h] at e; cases e
    exact b.keep x o h1 h2
  · rcases b.newF x h with h | h | h
    · exact a.newF x h
    · exact .inr (far x (.inl h))
    · exact .inr (far x (.inr h))
theorem Grow.ext (g : Grow F ow H F' ow' H') : Ext F ow H F' ow' H' :=
  ⟨g.sub, fun a o h _ => g.hh a o h, fun a h => (g.newF a h).elim .inl fun z => .inr (.inl z), g.newO⟩
theorem Grow.refl : Grow F ow H F ow H := ⟨Sub.refl _, Sub.refl _, fun _ _ h => h, fun _ h => .inl h, fun _ h => .inr h, fun w => w⟩
theorem Wd.fnone (w : Wd F ow H) {p : Addr} (h : H p = none) : F p = none := w.fh.none h
theorem Wd.onone (w : Wd F ow H) {p : Addr} (h : H p = none) : ow p = none := by
  cases q : ow p with
  | none => rfl
  | some z => exact absurd h (w.of p z q).2
theorem sub_upd {p : Addr} {x : HO} (h : F p = none) : Sub F (upd F p x) := fun a u e => by
  rw [upd_ne (ne_of_none e h)]
  exact e
def updO (ow : Ows) (p : Addr) (o : Own) : Ows := fun a => if a = p then some o else ow a
theorem updO_same {p : Addr} : updO ow p o p = some o := if_pos rfl
theorem updO_ne {a p : Addr} (h : a ≠ p) : updO ow p o a = ow a := if_neg h
/-- a new object that is not changed any more -/
theorem Grow.frz {p : Addr} {x : HO} (w : Wd F ow H) (h : H p = none) : Grow F ow H (upd F p x) ow (upd H p x) where
  sub := sub_upd (w.fnone h)
  hh := sub_upd h
  oo := fun _ _ h => h
  newF := fun a q => by
    by_cases e : a = p
    · subst e; exact .inr h
    · rw [upd_ne e] at q; exact .inl q
  newO := fun _ q => .inr q
  wd := fun w => ⟨fun a u q => by
    by_cases e : a = p
    · subst e; rw [upd_same] at q ⊢; exact q
    · rw [upd_ne e] at q ⊢; exact w.fh a u q, fun a u q => by
    have e : a ≠ p := fun z => by subst z; exact (w.of a u q).2 h
    rw [upd_ne e, upd_ne e]
    exact w.of a u q⟩
/-- a new object that is owned -/
theorem Grow.own {p : Addr} {x : HO} (w : Wd F ow H) (h : H p = none) (o : Own) : Grow F ow H F (updO ow p o) (upd H p x) where
  sub := Sub.refl _
  hh := sub_upd h
  oo := fun a z q => by rw [updO_ne (fun e => by subst e; exact (w.of a z q).2 h)]; exact q
  newF := fun _ q => .inl q
  newO := fun a q => by
    by_cases e : a = p
    · subst e; exact .inl h
    · rw [updO_ne e] at q; exact .inr q
  wd := fun w => ⟨fun a u q => sub_upd h a u (w.fh a u q), fun a z q => by
    by_cases e : a = p
    · subst e; exact ⟨w.fnone h, by rw [upd_same]; simp⟩
    · rw [updO_ne e] at q
      rw [upd_ne e]
      exact w.of a z q⟩
theorem Rp.of (h : Rf K mg F d v) : Rp K mg F H ow o d v := by
  cases d <;> first | exact h | exact False.elim h
theorem Rp.still (h : Rp K mg F H ow o d v) (s : d.still = true) : Rf K mg F d v := by
  cases d <;> first | exact h | cases s
/-- a claim stands where its objects stand -/
theorem Rp.mono (s : Sub F F') (hk : ∀ a x, ow a = some o → H a = some x → H' a = some x ∧ ow' a = some o) (h : Rp K mg F H ow o d v) : Rp K mg F' H' ow' o d v := by
  cases d with
  | mls xs =>
    obtain ⟨a, vs, e, h1, h2, h3⟩ := h
    exact ⟨a, vs, e, (hk a _ h2 h1).1, (hk a _ h2 h1).2, Rfs.mono s h3⟩
  | mdc t ks xs =>
    obtain ⟨a, vs, e, h1, h2, h3, h4, h5⟩ := h
    exact ⟨a, vs, e, (hk a _ h2 h1).1, (hk a _ h2 h1).2, h3, h4, Rfs.mono s h5⟩
  | _ => exact Rf.mono s (show Rf K mg F _ v from h)
theorem Rp.grow (g : Grow F ow H F' ow' H') (h : Rp K mg F H ow o d v) : Rp K mg F' H' ow' o d v :=
  h.mono g.sub fun a x q e => ⟨g.hh a x e, g.oo a o q⟩
theorem RVR.mono (s : Sub F F') (hk : ∀ a x, ow a = some o → H a = some x → H' a = some x ∧ ow' a = some o) (h : RVR K mg F H ow σ o rv v) : RVR K mg F' H' ow' σ o rv v := by
  cases rv with
  | val d => exact Rp.mono s hk h
  | slot i => exact h
theorem StR.mono (s : Sub F F') : ∀ {st : List (RV × V)}, (∀ k, k < st.length → ∀ a x, ow a = some (.stk k) → H a = some x → H' a = some x ∧ ow' a = some (.stk k)) → StR K mg F H ow σ st → StR K mg F' H' ow' σ st
  | [], _, _ => trivial
  | p :: r, hk, ⟨h1, h2⟩ => ⟨h1.mono s (hk r.length (by simp)), StR.mono s (fun k hl => hk k (by simp; omega)) h2⟩
theorem At.grow (A : At K mg F ow G σ H st) (g : Grow F ow H F' ow' H') : At K mg F' ow' G σ H' st where
  wd := g.wd A.wd
  ln := A.ln
  env := fun i d e => by
    obtain ⟨v, h1, h2⟩ := A.env i d e
    exact ⟨v, h1, h2.grow g⟩
  stk := A.stk.mono g.sub fun k _ a x q e => ⟨g.hh a x e, g.oo a _ q⟩
theorem At.push (A : At K mg F ow G σ H st) (h : RVR K mg F H ow σ (.stk st.length) rv v) : At K mg F ow G σ H ((rv, v) :: st) := ⟨A.wd, A.ln, A.env, h, A.stk⟩
theorem At.pop {p : RV × V} (A : At K mg F ow G σ H (p :: st)) : At K mg F ow G σ H st := ⟨A.wd, A.ln, A.env, A.stk.2⟩
theorem At.pops : ∀ {pre : List (RV × V)}, At K mg F ow G σ H (pre ++ st) → At K mg F ow G σ H st
  | [], A => A
  | _ :: _, A => At.pops A.pop
theorem At.slot (A : At K mg F ow G σ H st) {i : Nat} (h : getS G i = some d) : ∃ v, σ[i]? = some (some v) ∧ Rp K mg F H ow (.env i) d v := A.env i d h
/-- what a value on the stack is -/
theorem RVR.deref (A : At K mg F ow G σ H st) (h : RVR K mg F H ow σ o rv v) (e : deref rv G = some d) : ∃ o', Rp K mg F H ow o' d v := by
  cases rv with
  | val d' => cases e; exact ⟨o, h⟩
  | slot i =>
    obtain ⟨w, h1, h2⟩ := A.env i d e
    have h' : σ[i]? = some (some v) := h
    rw [h'] at h1; cases h1
    exact ⟨_, h2⟩
end
end Dv
end
section
set_option Elab.async false
set_option linter.all false
set_option maxRecDepth 100000
set_option maxHeartbeats 2000000
/-! Dv4: what changes a state; readings by the evaluator. -/
namespace Dv
open PySem L2

section
variable {K : PySem.W.Frag} {mg : Str → Option Value} {F F' F1 F2 H H' H1 H2 : Hp} {ow ow' ow1 ow2 : Ows} {G : GEnv} {σ : St} {st pre : List (RV × V)} {o o' : Own} {d : D} {v : V} {rv : RV}

theorem getS_set_self {i : Nat} {x : Option D} (h : i < G.length) : getS (G.set i x) i = x := by
  unfold getS
  rw [List.getElem?_set_self h]
  cases x <;> rfl
theorem getS_set_ne {i j : Nat} {x : Option D} (h : i ≠ j) : getS (G.set i x) j = getS G j := by
  unfold getS
  rw [List.getElem?_set_ne h]
theorem getS_lt {i : Nat} (h : getS G i = some d) : i < G.length := by
  unfold getS at h
  cases e : G[i]? with
  | none => rw [e] at h; cases h
  | some x => exact (List.getElem?_eq_some_iff.mp e).1

/-! ### freezing -/
def frzF (F H : Hp) (ow : Ows) (o : Own) : Hp := fun a => if ow a = some o then H a else F a
def frzO (ow : Ows) (o : Own) : Ows := fun a => if ow a = some o then none else ow a
theorem frz_sub (w : Wd F ow H) : Sub F (frzF F H ow o) := fun a x e => by
  unfold frzF
  by_cases h : ow a = some o
  · rw [(w.of a o h).1] at e; cases e
  · rw [if_neg h]; exact e
theorem frz_wd (w : Wd F ow H) : Wd (frzF F H ow o) (frzO ow o) H := by
  refine ⟨fun a x e => ?_, fun a z e => ?_⟩
  · unfold frzF at e
    by_cases h : ow a = some o
    · rw [if_pos h] at e; exact e
    · rw [if_neg h] at e; exact w.fh a x e
  · unfold frzO at e
    unfold frzF
    by_cases h : ow a = some o
    · rw [if_pos h] at e; cases e
    · rw [if_neg h] at e ⊢; exact w.of a z e
theorem frz_ext (w : Wd F ow H) : Ext F ow H (frzF F H ow o) (frzO ow o) H := by
  refine ⟨frz_sub w, fun _ _ h _ => h, fun a h => ?_, fun a h => ?_⟩
  · unfold frzF at h
    by_cases e : ow a = some o
    · exact .inr (.inr (by rw [e]; simp))
    · rw [if_neg e] at h; exact .inl h
  · unfold frzO at h
    by_cases e : ow a = some o
    · rw [if_pos e] at h; exact absurd rfl h
    · rw [if_neg e] at h; exact .inr h
theorem frz_other (w : Wd F ow H) (h : Rp K mg F H ow o' d v) (ne : o' ≠ o) : Rp K mg (frzF F H ow o) H (frzO ow o) o' d v :=
  h.mono (frz_sub w) fun a x q e => ⟨e, by unfold frzO; rw [if_neg (by rw [q]; intro z; exact ne (Option.some.inj z)), q]⟩
theorem frz_same (w : Wd F ow H) (h : Rp K mg F H ow o d v) : Rf K mg (frzF F H ow o) d.fz v := by
  cases d with
  | mls xs =>
    obtain ⟨a, vs, e, h1, h2, h3⟩ := h
    refine ⟨a, vs, e, ?_, ?_⟩
    · unfold frzF; rw [if_pos h2]; exact h1
    · rw [h3.fzs]; exact Rfs.mono (frz_sub w) h3
  | mdc t ks xs =>
    obtain ⟨a, vs, e, h1, h2, h3, h4, h5⟩ := h
    refine ⟨a, vs, e, ?_, h3, ?_, ?_⟩
    · unfold frzF; rw [if_pos h2]; exact h1
    · rw [h5.fzs]; exact h4
    · rw [h5.fzs]; exact Rfs.mono (frz_sub w) h5
  | _ => exact Rf.mono (frz_sub w) (show Rf K mg F _ v from h)
theorem frz_str (w : Wd F ow H) : ∀ {st : List (RV × V)}, (∀ k, k < st.length → Own.stk k ≠ o) → StR K mg F H ow σ st → StR K mg (frzF F H ow o) H (frzO ow o) σ st := fun {st} hk h =>
  h.mono (frz_sub w) fun k hl a x q e => ⟨e, by unfold frzO; rw [if_neg (by rw [q]; intro z; exact hk k hl (Option.some.inj z)), q]⟩
/-- a value on the stack is taken -/
theorem At.take : ∀ {pre : List (RV × V)} {G1 : GEnv}, At K mg F ow G σ H (pre ++ (rv, v) :: st) → take rv G = some (d, G1) →
    ∃ F' ow', At K mg F' ow' G1 σ H (pre ++ (.val d, v) :: st) ∧ Ext F ow H F' ow' H ∧ Rf K mg F' d v := fun {pre G1} A e => by
  cases rv with
  | val d0 =>
    have e' : some (d0.fz, G) = some (d, G1) := e
    cases e'
    have w := A.wd
    have h0 : Rp K mg F H ow (.stk st.length) d0 v := (At.pops (pre := pre) A).stk.1
    refine ⟨frzF F H ow (.stk st.length), frzO ow (.stk st.length), ⟨frz_wd w, A.ln, fun i d1 q => ?_, ?_⟩, frz_ext w, frz_same w h0⟩
    · obtain ⟨u, h1, h2⟩ := A.env i d1 q
      exact ⟨u, h1, frz_other w h2 (by simp)⟩
    · have hs := A.stk
      clear A e
      induction pre with
      | nil => exact ⟨Rp.of (frz_same w h0), frz_str w (fun k hl z => by cases z; omega) hs.2⟩
      | cons p r ih =>
        refine ⟨?_, ih hs.2⟩
        have el : (r ++ (RV.val d0, v) :: st).length = (r ++ (RV.val d0.fz, v) :: st).length := by simp
        have h1 : RVR K mg F H ow σ (.stk (r ++ (RV.val d0, v) :: st).length) p.1 p.2 := hs.1
        rw [el] at h1
        show RVR K mg _ H _ σ (.stk (r ++ (RV.val d0.fz, v) :: st).length) p.1 p.2
        cases hp : p.1 with
        | slot i => rw [hp] at h1; exact h1
        | val d1 =>
          rw [hp] at h1
          exact frz_other w (show Rp K mg F H ow _ d1 p.2 from h1) (by simp; omega)
  | slot i =>
    have e1 : (match getS G i with | some d => some (d.fz, G.set i (some d.fz)) | none => none) = some (d, G1) := e
    cases q : getS G i with
    | none => rw [q] at e1; cases e1
    | some d0 =>
      rw [q] at e1
      cases e1
      have w := A.wd
      obtain ⟨u, h1, h2⟩ := A.env i d0 q
      have hv : σ[i]? = some (some v) := (At.pops (pre := pre) A).stk.1
      rw [hv] at h1; cases h1
      have hf := frz_same w h2
      refine ⟨frzF F H ow (.env i), frzO ow (.env i), ⟨frz_wd w, by rw [List.length_set]; exact A.ln, fun j d1 qj => ?_, ?_⟩, frz_ext w, hf⟩
      · by_cases hij : i = j
        · subst hij
          rw [getS_set_self (getS_lt q)] at qj
          cases qj
          exact ⟨v, hv, Rp.of hf⟩
        · rw [getS_set_ne hij] at qj
          obtain ⟨u, h3, h4⟩ := A.env j d1 qj
          exact ⟨u, h3, frz_other w h4 (by intro z; cases z; exact hij rfl)⟩
      · have hs : StR K mg (frzF F H ow (.env i)) H (frzO ow (.env i)) σ (pre ++ (RV.slot i, v) :: st) := frz_str w (fun _ _ z => by cases z) A.stk
        clear A e
        induction pre with
        | nil => exact ⟨Rp.of hf, hs.2⟩
        | cons p r ih =>
          refine ⟨?_, ih hs.2⟩
          have el : (r ++ (RV.slot i, v) :: st).length = (r ++ (RV.val d0.fz, v) :: st).length := by simp
          have h1 : RVR K mg (frzF F H ow (.env i)) H (frzO ow (.env i)) σ (.stk (r ++ (RV.slot i, v) :: st).length) p.1 p.2 := hs.1
          rw [el] at h1
          exact h1
/-! ### several values -/
/-- the values of a list of arguments, from the left, on the stack from the bottom -/
def stkOf : List RV → List V → List (RV × V) → List (RV × V)
  | rv :: r, v :: vs, st => stkOf r vs ((rv, v) :: st)
  | _, _, st => st
theorem stkOf_pre : ∀ (rvs : List RV) (vs : List V) (st : List (RV × V)), ∃ pre, stkOf rvs vs st = pre ++ st
  | [], _, st => ⟨[], rfl⟩
  | _ :: _, [], st => ⟨[], rfl⟩
  | rv :: r, v :: vs, st => by
    obtain ⟨pre, e⟩ := stkOf_pre r vs ((rv, v) :: st)
    exact ⟨pre ++ [(rv, v)], by show stkOf r vs ((rv, v) :: st) = _; rw [e]; simp⟩
theorem At.popsOf {rvs : List RV} {vs : List V} (A : At K mg F ow G σ H (stkOf rvs vs st)) : At K mg F ow G σ H st := by
  obtain ⟨pre, e⟩ := stkOf_pre rvs vs st
  rw [e] at A
  exact A.pops
theorem At.takes : ∀ {rvs : List RV} {vs : List V} {ds : List D} {F : Hp} {ow : Ows} {G G1 : GEnv} {st : List (RV × V)}, rvs.length = vs.length → At K mg F ow G σ H (stkOf rvs vs st) → Dv.takes rvs G = some (ds, G1) →
    ∃ F' ow', At K mg F' ow' G1 σ H (stkOf (ds.map .val) vs st) ∧ Ext F ow H F' ow' H ∧ Rfs K mg F' ds vs
  | [], [], ds, F, ow, G, G1, st, _, A, e => by
    have e' : some ([], G) = some (ds, G1) := e
    cases e'
    exact ⟨F, ow, A, .refl, rfl⟩
  | rv :: r, v :: vs, ds, F, ow, G, G1, st, hl, A, e => by
    have e1 : (match Dv.take rv G with
      | some (d, G1) => (match Dv.takes r G1 with
        | some (ds, G2) => some (d :: ds, G2)
        | none => none)
      | none => none) = some (ds, G1) := e
    cases q1 : Dv.take rv G with
    | none => rw [q1] at e1; cases e1
    | some p1 =>
      obtain ⟨d1, Ga⟩ := p1
      rw [q1] at e1
      have e2 : (match Dv.takes r Ga with
        | some (ds, G2) => some (d1 :: ds, G2)
        | none => none) = some (ds, G1) := e1
      cases q2 : Dv.takes r Ga with
      | none => rw [q2] at e2; cases e2
      | some p2 =>
        obtain ⟨ds2, Gb⟩ := p2
        rw [q2] at e2
        cases e2
        obtain ⟨pre, ep⟩ := stkOf_pre r vs ((rv, v) :: st)
        have A1 : At K mg F ow G σ H (stkOf r vs ((rv, v) :: st)) := A
        have hpre : ∀ (x : RV × V), stkOf r vs (x :: st) = pre ++ x :: st := by
          have gen : ∀ (r : List RV) (vs : List V) (x y : RV × V) (pre s1 : List (RV × V)), stkOf r vs (s1 ++ x :: st) = pre ++ x :: st → stkOf r vs (s1 ++ y :: st) = pre ++ y :: st := by
            intro r
            induction r with
            | nil => intro vs x y pre s1 h; have h' : s1 ++ x :: st = pre ++ x :: st := h; rw [List.append_cancel_right h']; rfl
            | cons a b ih =>
              intro vs x y pre s1 h
              cases vs with
              | nil => have h' : s1 ++ x :: st = pre ++ x :: st := h; rw [List.append_cancel_right h']; rfl
              | cons c d => exact ih d x y pre ((a, c) :: s1) h
          intro x
          exact gen r vs (rv, v) x pre [] ep
        rw [ep] at A1
        obtain ⟨F1, ow1, A2, X1, r1⟩ := A1.take q1
        rw [← hpre] at A2
        obtain ⟨F2, ow2, A3, X2, r2⟩ := At.takes (by simpa using hl) A2 q2
        exact ⟨F2, ow2, A3, X1.trans X2, v, vs, rfl, Rf.mono X2.sub r1, r2⟩

/-! ### a slot is bound -/
def noSlot (st : List (RV × V)) : Prop := ∀ p ∈ st, ∃ d, p.1 = .val d
def movO (ow : Ows) (a b : Own) : Ows := fun x => if ow x = some a then some b else ow x
theorem mov_wd {a b : Own} (w : Wd F ow H) : Wd F (movO ow a b) H := ⟨w.fh, fun x z e => by
  unfold movO at e
  by_cases h : ow x = some a
  · exact w.of x a h
  · rw [if_neg h] at e; exact w.of x z e⟩
theorem mov_ext {a b : Own} : Ext F ow H F (movO ow a b) H := ⟨Sub.refl _, fun _ _ h _ => h, fun _ h => .inl h, fun x h => .inr (by
  unfold movO at h
  by_cases q : ow x = some a
  · rw [q]; simp
  · rw [if_neg q] at h; exact h)⟩
theorem mov_keep {a b c : Own} (h : c ≠ a) : ∀ x u, ow x = some c → H x = some u → H x = some u ∧ movO ow a b x = some c := fun x u q e =>
  ⟨e, by unfold movO; rw [if_neg (by rw [q]; intro z; exact h (Option.some.inj z)), q]⟩
theorem mov_same {a b : Own} (h : Rp K mg F H ow a d v) : Rp K mg F H (movO ow a b) b d v := by
  cases d with
  | mls xs => obtain ⟨p, vs, e, h1, h2, h3⟩ := h; exact ⟨p, vs, e, h1, if_pos h2, h3⟩
  | mdc t ks xs => obtain ⟨p, vs, e, h1, h2, h3⟩ := h; exact ⟨p, vs, e, h1, if_pos h2, h3⟩
  | _ => exact h
theorem StR.noslot {σ' : St} : ∀ {st : List (RV × V)}, noSlot st → StR K mg F H ow σ st → StR K mg F H ow σ' st
  | [], _, _ => trivial
  | p :: r, hn, ⟨h1, h2⟩ => by
    obtain ⟨d, e⟩ := hn p (List.mem_cons_self)
    refine ⟨?_, StR.noslot (fun q hq => hn q (List.mem_cons_of_mem _ hq)) h2⟩
    rw [e] at h1 ⊢
    exact h1
theorem At.bind {i : Nat} (A : At K mg F ow G σ H ((.val d, v) :: st)) (hs : noSlot st) (hi : i < G.length) : At K mg F (movO ow (.stk st.length) (.env i)) (G.set i (some d)) (σ.set i (some v)) H st where
  wd := mov_wd A.wd
  ln := by rw [List.length_set, List.length_set]; exact A.ln
  env := fun j d1 q => by
    by_cases hij : i = j
    · subst hij
      rw [getS_set_self hi] at q
      cases q
      exact ⟨v, by rw [List.getElem?_set_self (by rw [← A.ln]; exact hi)], mov_same A.stk.1⟩
    · rw [getS_set_ne hij] at q
      obtain ⟨u, h1, h2⟩ := A.env j d1 q
      exact ⟨u, by rw [List.getElem?_set_ne hij]; exact h1, h2.mono (Sub.refl _) (mov_keep (by simp))⟩
  stk := (A.stk.2.mono (Sub.refl _) fun k hl => mov_keep (by simp; omega)).noslot hs
/-- a slot is forgotten -/
theorem At.forget (A : At K mg F ow G σ H st) (hs : noSlot st) {i : Nat} {x : Option V} : At K mg F ow (G.set i none) (σ.set i x) H st where
  wd := A.wd
  ln := by rw [List.length_set, List.length_set]; exact A.ln
  env := fun j d1 q => by
    by_cases hij : i = j
    · subst hij
      by_cases hi : i < G.length
      · rw [getS_set_self hi] at q; cases q
      · unfold getS at q
        rw [List.getElem?_eq_none (by rw [List.length_set]; omega)] at q
        cases q
    · rw [getS_set_ne hij] at q
      obtain ⟨u, h1, h2⟩ := A.env j d1 q
      exact ⟨u, by rw [List.getElem?_set_ne hij]; exact h1, h2⟩
  stk := A.stk.noslot hs
theorem At.forgetG (A : At K mg F ow G σ H st) {i : Nat} : At K mg F ow (G.set i none) σ H st where
  wd := A.wd
  ln := by rw [List.length_set]; exact A.ln
  env := fun j d1 q => by
    by_cases hij : i = j
    · subst hij
      by_cases hi : i < G.length
      · rw [getS_set_self hi] at q; cases q
      · unfold getS at q
        rw [List.getElem?_eq_none (by rw [List.length_set]; omega)] at q
        cases q
    · rw [getS_set_ne hij] at q
      exact A.env j d1 q
  stk := A.stk
/-! ### an owned object is changed -/
theorem upd_wd {a : Addr} {x : HO} (w : Wd F ow H) (h : ow a = some o) : Wd F ow (upd H a x) := ⟨fun b u e => by
  rw [upd_ne (fun z => by subst z; rw [(w.of b o h).1] at e; cases e)]
  exact w.fh b u e, fun b z e => ⟨(w.of b z e).1, by
    by_cases q : b = a
    · subst q; rw [upd_same]; simp
    · rw [upd_ne q]; exact (w.of b z e).2⟩⟩
theorem upd_ext {a : Addr} {x : HO} (h : ow a = some o) : Ext F ow H F ow (upd H a x) := ⟨Sub.refl _, fun b u e q => by
  rw [upd_ne (fun z => by subst z; rw [h] at q; cases q)]
  exact e, fun _ h => .inl h, fun _ h => .inr h⟩
theorem upd_keep {a : Addr} {x : HO} (h : ow a = some o) (ne : o' ≠ o) : ∀ b u, ow b = some o' → H b = some u → upd H a x b = some u ∧ ow b = some o' := fun b u q e =>
  ⟨by rw [upd_ne (fun z => by subst z; rw [h] at q; exact ne (Option.some.inj q).symm)]; exact e, q⟩
/-- a slot's object -/
theorem At.updS {i : Nat} {a : Addr} {x : HO} {d' : D} (A : At K mg F ow G σ H st) (ho : ow a = some (.env i)) (hi : i < G.length) (hv : σ[i]? = some (some v)) (hd : Rp K mg F (upd H a x) ow (.env i) d' v) :
    At K mg F ow (G.set i (some d')) σ (upd H a x) st where
  wd := upd_wd A.wd ho
  ln := by rw [List.length_set]; exact A.ln
  env := fun j d1 q => by
    by_cases hij : i = j
    · subst hij
      rw [getS_set_self hi] at q
      cases q
      exact ⟨v, hv, hd⟩
    · rw [getS_set_ne hij] at q
      obtain ⟨u, h1, h2⟩ := A.env j d1 q
      exact ⟨u, h1, h2.mono (Sub.refl _) (upd_keep ho (by intro z; cases z; exact hij rfl))⟩
  stk := A.stk.mono (Sub.refl _) fun k _ => upd_keep ho (by simp)
/-- the object on top of the stack -/
theorem At.updT {a : Addr} {x : HO} {d' : D} (A : At K mg F ow G σ H ((.val d, v) :: st)) (ho : ow a = some (.stk st.length)) (hd : Rp K mg F (upd H a x) ow (.stk st.length) d' v) :
    At K mg F ow G σ (upd H a x) ((.val d', v) :: st) where
  wd := upd_wd A.wd ho
  ln := A.ln
  env := fun j d1 q => by
    obtain ⟨u, h1, h2⟩ := A.env j d1 q
    exact ⟨u, h1, h2.mono (Sub.refl _) (upd_keep ho (by simp))⟩
  stk := ⟨hd, A.stk.2.mono (Sub.refl _) fun k hl => upd_keep ho (by simp; omega)⟩
end
end Dv
end
section
set_option Elab.async false
set_option linter.all false
set_option maxRecDepth 100000
set_option maxHeartbeats 2000000
/-! Dv5: readings by the evaluator; operators. -/
namespace Dv
open PySem L2

/-! ### readings -/
section
variable (K : PySem.W.Frag) (mg : Str → Option Value) (xf : Str → List Str) (W : WX)
/-- an exception of the class named c, made with ds -/
def XV (F : Hp) (c : Str) (ds : List D) (cls : Value) (dd : Option Addr) : Prop :=
  mg c = some cls ∧ ((ds = [] ∧ dd = none) ∨ ∃ a vs, dd = some a ∧ F a = some (.xd ((xf c).zip vs)) ∧ (xf c).length = vs.length ∧ Rfs K mg F ds vs)
abbrev Post (α : Type) := Hp → Ows → Hp → α → GEnv → Prop
def Fin {α : Type} (σ : St) (st : List (RV × V)) (P : Post α) (F : Hp) (ow : Ows) (H : Hp) (r : R α) : Prop := match r with
  | .ok a G => P F ow H a G
  | .ex c ds G => ∀ cls dd F' ow' H', XV K mg xf F' c ds cls dd → At K mg F' ow' G σ H' st → Ext F ow H F' ow' H' → W cls dd σ H'
  | .no => False
def Mono {α : Type} (P : Post α) : Prop := ∀ F ow H F1 ow1 H1 a G, Ext F ow H F1 ow1 H1 → P F ow H a G → P F1 ow1 H1 a G
def pE (σ : St) (st : List (RV × V)) (Q : VK) : Post RV := fun F ow H rv G => ∀ v F' ow' H', At K mg F' ow' G σ H' ((rv, v) :: st) → Ext F ow H F' ow' H' → Q v H'
def pT (σ : St) (st : List (RV × V)) (Q : Bool → Hp → Prop) : Post Bool := fun F ow H b G => ∀ F' ow' H', At K mg F' ow' G σ H' st → Ext F ow H F' ow' H' → Q b H'
def pO (σ : St) (st : List (RV × V)) (Q : Option Int → Hp → Prop) : Post (Option Int) := fun F ow H b G => ∀ F' ow' H', At K mg F' ow' G σ H' st → Ext F ow H F' ow' H' → Q b H'
def pA (σ : St) (st : List (RV × V)) (Q : List V → Hp → Prop) : Post (List RV) := fun F ow H rvs G => ∀ vs F' ow' H', rvs.length = vs.length → At K mg F' ow' G σ H' (stkOf rvs vs st) → Ext F ow H F' ow' H' → Q vs H'
def tOf (f : GEnv → R RV) : TE := fun σ H Q => ∃ F ow G st, At K mg F ow G σ H st ∧ Fin K mg xf W σ st (pE K mg σ st Q) F ow H (f G)
def tOfT (f : GEnv → R Bool) : TT := fun σ H Q => ∃ F ow G st, At K mg F ow G σ H st ∧ Fin K mg xf W σ st (pT K mg σ st Q) F ow H (f G)
def tOfO (f : GEnv → R (Option Int)) : TO := fun σ H Q => ∃ F ow G st, At K mg F ow G σ H st ∧ Fin K mg xf W σ st (pO K mg σ st Q) F ow H (f G)
def tOfA (f : GEnv → R (List RV)) : TA := fun σ H Q => ∃ F ow G st, At K mg F ow G σ H st ∧ Fin K mg xf W σ st (pA K mg σ st Q) F ow H (f G)
end
section
variable {K : PySem.W.Frag} {mg : Str → Option Value} {xf : Str → List Str} {W : WX} {α β : Type} {F F' F1 F2 H H' H1 H2 : Hp} {ow ow' ow1 ow2 : Ows} {G : GEnv} {σ : St} {st pre : List (RV × V)} {o o' : Own} {d : D} {v : V} {rv : RV} {P : Post β}
theorem mono_E {Q : VK} : Mono (pE K mg σ st Q) := fun _ _ _ _ _ _ _ _ x p v F' ow' H' a y => p v F' ow' H' a (x.trans y)
theorem mono_T {Q : Bool → Hp → Prop} : Mono (pT K mg σ st Q) := fun _ _ _ _ _ _ _ _ x p F' ow' H' a y => p F' ow' H' a (x.trans y)
theorem mono_O {Q : Option Int → Hp → Prop} : Mono (pO K mg σ st Q) := fun _ _ _ _ _ _ _ _ x p F' ow' H' a y => p F' ow' H' a (x.trans y)
theorem mono_A {Q : List V → Hp → Prop} : Mono (pA K mg σ st Q) := fun _ _ _ _ _ _ _ _ x p vs F' ow' H' l a y => p vs F' ow' H' l a (x.trans y)
theorem Fin.ext {r : R β} (m : Mono P) (x : Ext F ow H F1 ow1 H1) (h : Fin K mg xf W σ st P F ow H r) : Fin K mg xf W σ st P F1 ow1 H1 r := by
  cases r with
  | ok a G => exact m _ _ _ _ _ _ _ _ x h
  | ex c ds G => exact fun cls dd F' ow' H' e A y => h cls dd F' ow' H' e A (x.trans y)
  | no => exact h
theorem run_E {fa : GEnv → R RV} {k : RV → GEnv → R β} {R2 : VK} (A : At K mg F ow G σ H (pre ++ st)) (m : Mono P) (h : Fin K mg xf W σ st P F ow H ((fa G).bind k))
    (hk : ∀ F1 ow1 H1 G1 x v, At K mg F1 ow1 G1 σ H1 ((x, v) :: (pre ++ st)) → Fin K mg xf W σ st P F1 ow1 H1 (k x G1) → R2 v H1) : tOf K mg xf W fa σ H R2 := by
  refine ⟨F, ow, G, pre ++ st, A, ?_⟩
  cases e : fa G with
  | no => rw [e] at h; exact h
  | ok x G1 =>
    rw [e] at h
    exact fun v F1 ow1 H1 A1 x1 => hk F1 ow1 H1 G1 x v A1 (Fin.ext m x1 h)
  | ex c ds G1 =>
    rw [e] at h
    exact fun cls dd F' ow' H' e A y => h cls dd F' ow' H' e A.pops y
theorem run_T {fa : GEnv → R Bool} {k : Bool → GEnv → R β} {R2 : Bool → Hp → Prop} (A : At K mg F ow G σ H (pre ++ st)) (m : Mono P) (h : Fin K mg xf W σ st P F ow H ((fa G).bind k))
    (hk : ∀ F1 ow1 H1 G1 b, At K mg F1 ow1 G1 σ H1 (pre ++ st) → Fin K mg xf W σ st P F1 ow1 H1 (k b G1) → R2 b H1) : tOfT K mg xf W fa σ H R2 := by
  refine ⟨F, ow, G, pre ++ st, A, ?_⟩
  cases e : fa G with
  | no => rw [e] at h; exact h
  | ok x G1 =>
    rw [e] at h
    exact fun F1 ow1 H1 A1 x1 => hk F1 ow1 H1 G1 x A1 (Fin.ext m x1 h)
  | ex c ds G1 =>
    rw [e] at h
    exact fun cls dd F' ow' H' e A y => h cls dd F' ow' H' e A.pops y
theorem run_O {fa : GEnv → R (Option Int)} {k : Option Int → GEnv → R β} {R2 : Option Int → Hp → Prop} (A : At K mg F ow G σ H (pre ++ st)) (m : Mono P) (h : Fin K mg xf W σ st P F ow H ((fa G).bind k))
    (hk : ∀ F1 ow1 H1 G1 b, At K mg F1 ow1 G1 σ H1 (pre ++ st) → Fin K mg xf W σ st P F1 ow1 H1 (k b G1) → R2 b H1) : tOfO K mg xf W fa σ H R2 := by
  refine ⟨F, ow, G, pre ++ st, A, ?_⟩
  cases e : fa G with
  | no => rw [e] at h; exact h
  | ok x G1 =>
    rw [e] at h
    exact fun F1 ow1 H1 A1 x1 => hk F1 ow1 H1 G1 x A1 (Fin.ext m x1 h)
  | ex c ds G1 =>
    rw [e] at h
    exact fun cls dd F' ow' H' e A y => h cls dd F' ow' H' e A.pops y
theorem run_A {fa : GEnv → R (List RV)} {k : List RV → GEnv → R β} {R2 : List V → Hp → Prop} (A : At K mg F ow G σ H (pre ++ st)) (m : Mono P) (h : Fin K mg xf W σ st P F ow H ((fa G).bind k))
    (hk : ∀ F1 ow1 H1 G1 rvs vs, rvs.length = vs.length → At K mg F1 ow1 G1 σ H1 (stkOf rvs vs (pre ++ st)) → Fin K mg xf W σ st P F1 ow1 H1 (k rvs G1) → R2 vs H1) : tOfA K mg xf W fa σ H R2 := by
  refine ⟨F, ow, G, pre ++ st, A, ?_⟩
  cases e : fa G with
  | no => rw [e] at h; exact h
  | ok x G1 =>
    rw [e] at h
    exact fun vs F1 ow1 H1 l A1 x1 => hk F1 ow1 H1 G1 x vs l A1 (Fin.ext m x1 h)
  | ex c ds G1 =>
    rw [e] at h
    exact fun cls dd F' ow' H' e A y => h cls dd F' ow' H' e A.pops y
/-- the end of an expression: a new value -/
theorem fin_new {Q : VK} {k : Nat} {res : D} {u : V} (A : At K mg F ow G σ H (pre ++ st)) (h : Fin K mg xf W σ st (pE K mg σ st Q) F ow H (.ok (.val res) G)) (g : Grow F ow H F' ow' H') (r : Rp K mg F' H' ow' (.stk st.length) res u) : Q u H' :=
  h u F' ow' H' (((At.pops A).grow g).push r) g.ext
theorem fin_old {Q : VK} {res : D} {u : V} (A : At K mg F ow G σ H (pre ++ st)) (h : Fin K mg xf W σ st (pE K mg σ st Q) F ow H (.ok (.val res) G)) (r : Rf K mg F res u) : Q u H :=
  h u F ow H ((At.pops A).push (Rp.of r)) .refl

/-! ### data as the model's -/
mutual
theorem Rf.dp (s : Sub F H) : ∀ {d : D} {v : V} {p : PyData}, Rf K mg F d v → d.py = some p → Dp K H v p
  | .non, _, _, h, e => by rw [show _ = V.non from h]; cases e; exact .non
  | .bl b, _, _, h, e => by rw [show _ = V.bl b from h]; cases e; exact .bl b
  | .int i, _, _, h, e => by rw [show _ = V.int i from h]; cases e; exact .int i
  | .str x, _, _, h, e => by rw [show _ = V.str x from h]; cases e; exact .str x
  | .fn _, _, _, _, e => by cases e
  | .scr _, _, _, _, e => by cases e
  | .tup xs, _, _, ⟨a, vs, e1, q, r⟩, e => by
    have e' : (D.pys xs).map PyData.tuple = some _ := e
    cases h : D.pys xs with
    | none => rw [h] at e'; cases e'
    | some ps =>
      rw [h] at e'; cases e'
      rw [e1]
      exact .tup (s.sqT q) (Rfs.dp s r h)
  | .lst xs, _, _, ⟨a, vs, e1, q, r⟩, e => by
    have e' : (D.pys xs).map PyData.list = some _ := e
    cases h : D.pys xs with
    | none => rw [h] at e'; cases e'
    | some ps =>
      rw [h] at e'; cases e'
      rw [e1]
      exact .lst (SqL.of (s _ _ q)) (Rfs.dp s r h)
  | .dct _ _ _, _, _, _, e => by cases e
  | .mls _, _, _, h, _ => h.elim
  | .mdc _ _ _, _, _, h, _ => h.elim
theorem Rfs.dp (s : Sub F H) : ∀ {ds : List D} {vs : List V} {ps : List PyData}, Rfs K mg F ds vs → D.pys ds = some ps → DpAll K H vs ps
  | [], _, _, h, e => by rw [show _ = [] from h]; cases e; exact .nil
  | x :: xs, _, _, ⟨v, r, e1, h1, h2⟩, e => by
    have e' : (match D.py x, D.pys xs with
      | some d, some ds => some (d :: ds)
      | _, _ => none) = some _ := e
    cases q1 : D.py x with
    | none => rw [q1] at e'; cases e'
    | some p =>
      cases q2 : D.pys xs with
      | none => rw [q1, q2] at e'; cases e'
      | some ps =>
        rw [q1, q2] at e'; cases e'
        rw [e1]
        exact .cons (Rf.dp s h1 q1) (Rfs.dp s h2 q2)
end
theorem Rp.dp {p : PyData} (w : Wd F ow H) (h : Rp K mg F H ow o d v) (e : d.py = some p) : Dp K H v p := by
  cases d with
  | mls xs =>
    obtain ⟨a, vs, e1, q, _, r⟩ := h
    have e' : (D.pys xs).map PyData.list = some p := e
    cases h : D.pys xs with
    | none => rw [h] at e'; cases e'
    | some ps =>
      rw [h] at e'; cases e'
      rw [e1]
      exact .lst (SqL.of q) (Rfs.dp w.fh r h)
  | mdc t ks xs => cases e
  | _ => exact Rf.dp w.fh (show Rf K mg F _ v from h) e
end

/-! ### operators on two values -/
def BOp.op : BOp → Operator
  | .add => .Add | .sub => .Sub | .mul => .Mult | .fdiv => .FloorDiv | .mod => .Mod | .pow => .Pow
def COp.op : COp → CmpOp
  | .eq => .Eq | .ne => .NotEq | .lt => .Lt | .le => .LtE | .gt => .Gt | .ge => .GtE | .is_ => .Is | .isnt => .IsNot | .in_ => .In | .nin => .NotIn
abbrev rOr (r r' : R2) : R2 := fun x y H Q => r x y H Q ∨ r' x y H Q
abbrev rCatS : R2 := fun x y H Q => ∃ i j, x = .str i ∧ y = .str j ∧ i.length + j.length ≤ sizeLine ∧ Q (.str (i ++ j)) H
def rBin (K : PySem.W.Frag) : BOp → R2
  | .add => rOr (rI0 fun i j => .int (i + j)) (rOr rCatS (rOr (rCatA K) rCat))
  | .sub => rI0 fun i j => .int (i - j)
  | .mul => rOr (rI CMul fun i j => .int (i * j)) (rOr rRep (rRepT K))
  | .fdiv => rI CDivN fun i j => .int (i.fdiv j)
  | .mod => rI (fun _ j => j ≠ 0) fun i j => .int (i.fmod j)
  | .pow => rI CPow fun i j => .int (i ^ j.toNat)
theorem op_bin {X : Cx} : ∀ o : BOp, OpR X (binaryOp o.op) (rBin X.K o)
  | .add => op_add.or (op_add_str.or (op_catA.or op_cat))
  | .sub => op_sub
  | .mul => op_mul.or (op_rep.or op_repT)
  | .fdiv => op_fdivN
  | .mod => op_modN
  | .pow => op_pow
/-- what a rule of two values gives -/
def BinOk (K : PySem.W.Frag) (mg : Str → Option Value) (f : D → D → Option D) (r : R2) : Prop :=
  ∀ (F : Hp) (ow : Ows) (H : Hp) (k : Nat) (o1 o2 : Own) (x y : V) (d e res : D) (Q : VK), Wd F ow H → Rp K mg F H ow o1 d x → Rp K mg F H ow o2 e y → f d e = some res →
    (∀ u F' ow' H', Grow F ow H F' ow' H' → Rp K mg F' H' ow' (.stk k) res u → Q u H') → r x y H Q
section
variable {K : PySem.W.Frag} {mg : Str → Option Value} {F F' F1 F2 H H' H1 H2 : Hp} {ow ow' ow1 ow2 : Ows} {o : Own} {d : D} {v : V}
/-- a list's items -/
theorem Rp.list {xs : List D} (w : Wd F ow H) (h : Rp K mg F H ow o d v) (e : listOf d = some xs) : ∃ a vs, v = .ref a ∧ H a = some (.lst vs) ∧ Rfs K mg F xs vs := by
  cases d with
  | lst ys => cases e; obtain ⟨a, vs, e1, q, r⟩ := h; exact ⟨a, vs, e1, w.fh _ _ q, r⟩
  | mls ys => cases e; obtain ⟨a, vs, e1, q, _, r⟩ := h; exact ⟨a, vs, e1, q, r⟩
  | _ => cases e
theorem Rp.tup {xs : List D} (w : Wd F ow H) (h : Rp K mg F H ow o (.tup xs) v) : ∃ a vs, v = .ref a ∧ SqT K H a vs ∧ Rfs K mg F xs vs := by
  obtain ⟨a, vs, e1, q, r⟩ := h
  exact ⟨a, vs, e1, w.fh.sqT q, r⟩
theorem Rp.seq {xs : List D} (w : Wd F ow H) (h : Rp K mg F H ow o d v) (e : seqOf d = some xs) : ∃ a vs, v = .ref a ∧ (SqL K H a vs ∨ SqT K H a vs) ∧ Rfs K mg F xs vs := by
  cases d with
  | lst ys => cases e; obtain ⟨a, vs, e1, q, r⟩ := h; exact ⟨a, vs, e1, .inl (SqL.of (w.fh _ _ q)), r⟩
  | mls ys => cases e; obtain ⟨a, vs, e1, q, _, r⟩ := h; exact ⟨a, vs, e1, .inl (SqL.of q), r⟩
  | tup ys => cases e; obtain ⟨a, vs, e1, q, r⟩ := h; exact ⟨a, vs, e1, .inr (w.fh.sqT q), r⟩
  | _ => cases e
theorem new_tup {xs : List D} {vs : List V} {p : Addr} (w : Wd F ow H) (h : Rfs K mg F xs vs) (hp : H p = none) : Grow F ow H (upd F p (.tup vs)) ow (upd H p (.tup vs)) ∧ Rf K mg (upd F p (.tup vs)) (.tup xs) (.ref p) :=
  ⟨Grow.frz w hp, p, vs, rfl, SqT.of upd_same, Rfs.mono (sub_upd (w.fnone hp)) h⟩
theorem new_lst {xs : List D} {vs : List V} {p : Addr} (w : Wd F ow H) (h : Rfs K mg F xs vs) (hp : H p = none) : Grow F ow H F (updO ow p o) (upd H p (.lst vs)) ∧ Rp K mg F (upd H p (.lst vs)) (updO ow p o) o (.mls xs) (.ref p) :=
  ⟨Grow.own w hp o, p, vs, rfl, upd_same, updO_same, h⟩
theorem cat_ok {xs ys : List D} {e : D} {x y : V} {o1 o2 : Own} {k : Nat} {Q : VK} (w : Wd F ow H) (hx : Rp K mg F H ow o1 d x) (hy : Rp K mg F H ow o2 e y) (ex : listOf d = some xs) (ey : listOf e = some ys) (hl : xs.length + ys.length ≤ sizeLine)
    (q : ∀ u F' ow' H', Grow F ow H F' ow' H' → Rp K mg F' H' ow' (.stk k) (.mls (xs ++ ys)) u → Q u H') : rCat x y H Q := by
  obtain ⟨a, vs, e1, h1, r1⟩ := hx.list w ex
  obtain ⟨b, ws, e2, h2, r2⟩ := hy.list w ey
  refine ⟨a, b, vs, ws, e1, e2, h1, h2, by rw [r1.len, r2.len]; exact hl, fun p hp => ?_⟩
  obtain ⟨g, z⟩ := new_lst (o := .stk k) w (r1.append r2) hp
  exact q _ _ _ _ g z
theorem bin_ok : ∀ o : BOp, BinOk K mg (binD o) (rBin K o) := by
  intro o F ow H k o1 o2 x y d e res Q w hx hy h q
  have cat : ∀ {xs ys : List D}, listOf d = some xs → listOf e = some ys → (if xs.length + ys.length ≤ sizeLine then some (D.mls (xs ++ ys)) else none) = some res → rBin K .add x y H Q := fun {xs ys} ex ey h => by
    split at h
    · cases h; exact .inr (.inr (.inr (cat_ok w hx hy ex ey ‹_› q)))
    · cases h
  have q0 : ∀ u, Rf K mg F res u → Q u H := fun u r => q u _ _ _ .refl (Rp.of r)
  cases o with
  | add =>
    cases d with
    | int i =>
      cases e with
      | int j => cases h; exact .inl ⟨i, j, hx, hy, q0 _ rfl⟩
      | _ => cases h
    | str s =>
      cases e with
      | str t =>
        have h' : (if s.length + t.length ≤ sizeLine then some (D.str (s ++ t)) else none) = some res := h
        split at h'
        · cases h'; exact .inr (.inl ⟨s, t, hx, hy, ‹_›, q0 _ rfl⟩)
        · cases h'
      | _ => cases h
    | tup xs =>
      cases e with
      | tup ys =>
        have h' : (if xs.length + ys.length ≤ sizeLine then some (D.tup (xs ++ ys)) else none) = some res := h
        split at h'
        · cases h'
          have hl := ‹xs.length + ys.length ≤ sizeLine›
          have hx0 := hx
          have hy0 := hy
          obtain ⟨a, vs, e1, h1, r1⟩ := hx.tup w
          obtain ⟨b, ws, e2, h2, r2⟩ := hy.tup w
          refine .inr (.inr (.inl ⟨a, b, vs, ws, e1, e2, h1, h2, by rw [r1.len, r2.len]; exact hl, fun z => ?_, fun z1 z2 => ?_, fun _ _ p hp => ?_⟩))
          · have : xs = [] := by have := r1.len; rw [z] at this; exact List.eq_nil_of_length_eq_zero this.symm
            subst this
            rw [← e2]; exact q0 _ hy0
          · have : ys = [] := by have := r2.len; rw [z2] at this; exact List.eq_nil_of_length_eq_zero this.symm
            subst this
            rw [← e1]; exact q0 _ (by rw [List.append_nil]; exact hx0)
          · obtain ⟨g, z⟩ := new_tup w (r1.append r2) hp
            exact q _ _ _ _ g (Rp.of z)
        · cases h'
      | _ => cases h
    | lst xs =>
      cases e with
      | lst ys => exact cat rfl rfl h
      | mls ys => exact cat rfl rfl h
      | _ => cases h
    | mls xs =>
      cases e with
      | lst ys => exact cat rfl rfl h
      | mls ys => exact cat rfl rfl h
      | _ => cases h
    | _ => cases h
  | sub =>
    cases d with
    | int i =>
      cases e with
      | int j => cases h; exact ⟨i, j, hx, hy, q0 _ rfl⟩
      | _ => cases h
    | _ => cases h
  | mul =>
    cases d with
    | int i =>
      cases e with
      | int j =>
        have h' : (if mulOk i j then some (D.int (i * j)) else none) = some res := h
        split at h'
        · cases h'
          refine .inl ⟨i, j, hx, hy, ?_, q0 _ rfl⟩
          have hm := ‹mulOk i j = true›
          unfold mulOk at hm
          rw [Bool.or_eq_true, decide_eq_true_eq, decide_eq_true_eq] at hm
          rcases hm with hm | hm
          · exact .inl ⟨by omega, by omega⟩
          · exact .inr ⟨by omega, by omega⟩
        · cases h'
      | _ => cases h
    | mls xs =>
      cases e with
      | int k' =>
        have h' : (if decide (-(2 ^ 63) ≤ k') && decide (k' < 2 ^ 63) && decide (xs.length * k'.toNat ≤ sizeLine) then some (D.mls (List.replicate k'.toNat xs).flatten) else none) = some res := h
        split at h'
        · cases h'
          have hm := ‹_ = true›
          simp only [Bool.and_eq_true, decide_eq_true_eq] at hm
          obtain ⟨a, vs, e1, h1, _, r1⟩ := hx
          refine .inr (.inl ⟨a, k', vs, e1, hy, h1, hm.1.1, hm.1.2, by rw [r1.len]; exact hm.2, fun p hp => ?_⟩)
          obtain ⟨g, z⟩ := new_lst (o := .stk k) w (r1.rep k'.toNat) hp
          exact q _ _ _ _ g z
        · cases h'
      | _ => cases h
    | tup xs =>
      cases e with
      | int k' =>
        have h' : (if decide (xs ≠ []) && decide (2 ≤ k') && decide (k' ≤ 1000) && decide (xs.length ≤ 1000) then some (D.tup (List.replicate k'.toNat xs).flatten) else none) = some res := h
        split at h'
        · cases h'
          have hm := ‹_ = true›
          simp only [Bool.and_eq_true, decide_eq_true_eq] at hm
          obtain ⟨a, vs, e1, h1, r1⟩ := hx.tup w
          refine .inr (.inr ⟨a, k', vs, e1, hy, h1, fun z => ?_, hm.1.1.2, hm.1.2, by rw [r1.len]; exact hm.2, fun p hp => ?_⟩)
          · have := r1.len
            rw [z] at this
            exact hm.1.1.1 (List.eq_nil_of_length_eq_zero this.symm)
          · obtain ⟨g, z⟩ := new_tup w (r1.rep k'.toNat) hp
            exact q _ _ _ _ g (Rp.of z)
        · cases h'
      | _ => cases h
    | _ => cases h
  | fdiv =>
    cases d with
    | int i =>
      cases e with
      | int j =>
        have h' : (if divOk j then some (D.int (i.fdiv j)) else none) = some res := h
        split at h'
        · cases h'
          have hm := ‹divOk j = true›
          unfold divOk at hm
          rw [Bool.and_eq_true, decide_eq_true_eq, decide_eq_true_eq] at hm
          exact ⟨i, j, hx, hy, hm, q0 _ rfl⟩
        · cases h'
      | _ => cases h
    | _ => cases h
  | mod =>
    cases d with
    | int i =>
      cases e with
      | int j =>
        have h' : (if decide (j ≠ 0) then some (D.int (i.fmod j)) else none) = some res := h
        split at h'
        · cases h'
          exact ⟨i, j, hx, hy, of_decide_eq_true ‹_›, q0 _ rfl⟩
        · cases h'
      | _ => cases h
    | _ => cases h
  | pow =>
    cases d with
    | int i =>
      cases e with
      | int j =>
        have h' : (if decide (0 ≤ j) && decide (j ≤ 1000000) && decide (i.natAbs < 2 ^ 64) then some (D.int (i ^ j.toNat)) else none) = some res := h
        split at h'
        · cases h'
          have hm := ‹_ = true›
          simp only [Bool.and_eq_true, decide_eq_true_eq] at hm
          exact ⟨i, j, hx, hy, ⟨hm.1.1, hm.1.2, hm.2⟩, q0 _ rfl⟩
        · cases h'
      | _ => cases h
    | _ => cases h
end
end Dv
end
section
set_option Elab.async false
set_option linter.all false
set_option maxRecDepth 100000
set_option maxHeartbeats 2000000
/-! Dv6: comparisons, truth, items, slices, built-ins, by values. -/
namespace Dv
open PySem L2
abbrev rLtS : R2 := fun x y H Q => ∃ i j, x = .str i ∧ y = .str j ∧ Q (.bl (decide (i.cps.toList < j.cps.toList))) H
def rCmp (K : PySem.W.Frag) : COp → R2
  | .eq => rEqD K
  | .ne => rNeD K
  | .lt => rOr (rI0 fun i j => .bl (decide (i < j))) rLtS
  | .le => rI0 fun i j => .bl (decide (i ≤ j))
  | .gt => rI0 fun i j => .bl (decide (j < i))
  | .ge => rI0 fun i j => .bl (decide (j ≤ i))
  | .is_ => fun x y H Q => y = .non ∧ Q (.bl (decide (x = .non))) H
  | .isnt => fun x y H Q => y = .non ∧ Q (.bl (!decide (x = .non))) H
  | .in_ => rInD K
  | .nin => rNotInD K
theorem op_cmp {X : Cx} {n : Nat} (hr : Room n X.A) : ∀ o : COp, OpR X (compareOp o.op) (rCmp X.K o)
  | .eq => op_eqD hr.units
  | .ne => op_neD hr.units
  | .lt => op_lt.or op_lt_str
  | .le => op_le
  | .gt => op_gt
  | .ge => op_ge
  | .is_ => op_isN
  | .isnt => op_notN
  | .in_ => op_inD (by have := hr.un; omega)
  | .nin => op_notInD (by have := hr.un; omega)
section
variable {K : PySem.W.Frag} {mg : Str → Option Value} {F F' F1 F2 H H' H1 H2 : Hp} {ow ow' ow1 ow2 : Ows} {o o1 o2 : Own} {d e : D} {v x y : V}
theorem Rp.non_iff (h : Rp K mg F H ow o d v) : decide (v = .non) = d.isNon := by
  have ne : ∀ {a : Addr}, v = .ref a → decide (v = .non) = false := fun {a} e => by rw [e]; rfl
  cases d with
  | non => rw [show v = .non from h]; rfl
  | bl b => rw [show v = .bl b from h]; rfl
  | int b => rw [show v = .int b from h]; rfl
  | str b => rw [show v = .str b from h]; rfl
  | fn f => obtain ⟨a, _, e⟩ := h; exact ne e
  | scr ns => obtain ⟨a, e, _⟩ := h; exact ne e
  | tup xs => obtain ⟨a, _, e, _⟩ := h; exact ne e
  | lst xs => obtain ⟨a, _, e, _⟩ := h; exact ne e
  | mls xs => obtain ⟨a, _, e, _⟩ := h; exact ne e
  | dct t ks xs => obtain ⟨a, _, e, _⟩ := h; exact ne e
  | mdc t ks xs => obtain ⟨a, _, e, _⟩ := h; exact ne e
theorem eq_ok {b : Bool} (w : Wd F ow H) (hx : Rp K mg F H ow o1 d x) (hy : Rp K mg F H ow o2 e y) (h : eqD d e = some b) :
    ∃ p q, Dp K H x p ∧ Dp K H y q ∧ SeqAt.shaped p = true ∧ SeqAt.shaped q = true ∧ PyData.eqv p q = b := by
  unfold eqD at h
  cases h1 : d.py with
  | none => rw [h1] at h; cases h
  | some p =>
    cases h2 : e.py with
    | none => rw [h1, h2] at h; cases h
    | some q =>
      rw [h1, h2] at h
      have h' : (if (SeqAt.shaped p && SeqAt.shaped q) = true then some (PyData.eqv p q) else none) = some b := h
      split at h'
      · cases h'
        have hs := ‹_ = true›
        rw [Bool.and_eq_true] at hs
        exact ⟨p, q, hx.dp w h1, hy.dp w h2, hs.1, hs.2, rfl⟩
      · cases h'
theorem in_ok {b : Bool} {xs : List D} (w : Wd F ow H) (hx : Rp K mg F H ow o1 d x) (hy : Rp K mg F H ow o2 e y) (el : listOf e = some xs) (h : inD d xs = some b) :
    ∃ p qs, Dp K H x p ∧ Dp K H y (.list qs) ∧ SeqAt.shaped p = true ∧ SeqAt.shaped (.list qs) = true ∧ (qs.any fun z => PyData.eqv z p) = b := by
  unfold inD at h
  cases h1 : d.py with
  | none => rw [h1] at h; cases h
  | some p =>
    cases h2 : D.pys xs with
    | none => rw [h1, h2] at h; cases h
    | some q =>
      rw [h1, h2] at h
      have h' : (if (SeqAt.shaped p && SeqAt.shaped (.list q)) = true then some (q.any fun z => PyData.eqv z p) else none) = some b := h
      have h3 : e.py = some (.list q) := by
        cases e with
        | lst ys => cases el; show (D.pys xs).map PyData.list = _; rw [h2]; rfl
        | mls ys => cases el; show (D.pys xs).map PyData.list = _; rw [h2]; rfl
        | _ => cases el
      split at h'
      · cases h'
        have hs := ‹_ = true›
        rw [Bool.and_eq_true] at hs
        exact ⟨p, q, hx.dp w h1, hy.dp w h3, hs.1, hs.2, rfl⟩
      · cases h'
theorem cmp_ok {b : Bool} {Q : VK} (op : COp) (w : Wd F ow H) (hx : Rp K mg F H ow o1 d x) (hy : Rp K mg F H ow o2 e y) (h : cmpD op d e = some b) (q : Q (.bl b) H) : rCmp K op x y H Q := by
  cases op with
  | eq =>
    obtain ⟨p, r, h1, h2, h3, h4, h5⟩ := eq_ok w hx hy h
    exact ⟨p, r, h1, h2, h3, h4, by rw [h5]; exact q⟩
  | ne =>
    have h' : (eqD d e).map not = some b := h
    cases h0 : eqD d e with
    | none => rw [h0] at h'; cases h'
    | some c =>
      rw [h0] at h'; cases h'
      obtain ⟨p, r, h1, h2, h3, h4, h5⟩ := eq_ok w hx hy h0
      exact ⟨p, r, h1, h2, h3, h4, by rw [h5]; exact q⟩
  | lt =>
    cases d with
    | int i =>
      cases e with
      | int j => cases h; exact .inl ⟨i, j, hx, hy, q⟩
      | _ => cases h
    | str i =>
      cases e with
      | str j => cases h; exact .inr ⟨i, j, hx, hy, q⟩
      | _ => cases h
    | _ => cases h
  | le =>
    cases d with
    | int i =>
      cases e with
      | int j => cases h; exact ⟨i, j, hx, hy, q⟩
      | _ => cases h
    | _ => cases h
  | gt =>
    cases d with
    | int i =>
      cases e with
      | int j => cases h; exact ⟨i, j, hx, hy, q⟩
      | _ => cases h
    | _ => cases h
  | ge =>
    cases d with
    | int i =>
      cases e with
      | int j => cases h; exact ⟨i, j, hx, hy, q⟩
      | _ => cases h
    | _ => cases h
  | is_ =>
    cases e with
    | non =>
      refine ⟨hy, ?_⟩
      rw [hx.non_iff]
      have h' : some d.isNon = some b := by cases d <;> exact h
      cases h'
      exact q
    | _ => cases d <;> cases h
  | isnt =>
    cases e with
    | non =>
      refine ⟨hy, ?_⟩
      rw [hx.non_iff]
      have h' : some (!d.isNon) = some b := by cases d <;> exact h
      cases h'
      exact q
    | _ => cases d <;> cases h
  | in_ =>
    cases e with
    | lst xs =>
      have h' : inD d xs = some b := by cases d <;> exact h
      obtain ⟨p, r, h1, h2, h3, h4, h5⟩ := in_ok w hx hy rfl h'
      exact ⟨p, r, h1, h2, h3, h4, by rw [h5]; exact q⟩
    | mls xs =>
      have h' : inD d xs = some b := by cases d <;> exact h
      obtain ⟨p, r, h1, h2, h3, h4, h5⟩ := in_ok w hx hy rfl h'
      exact ⟨p, r, h1, h2, h3, h4, by rw [h5]; exact q⟩
    | _ => cases d <;> cases h
  | nin =>
    have gen : ∀ {xs : List D}, listOf e = some xs → (inD d xs).map not = some b → rCmp K .nin x y H Q := fun {xs} el h' => by
      cases h0 : inD d xs with
      | none => rw [h0] at h'; cases h'
      | some c =>
        rw [h0] at h'; cases h'
        obtain ⟨p, r, h1, h2, h3, h4, h5⟩ := in_ok w hx hy el h0
        exact ⟨p, r, h1, h2, h3, h4, by rw [h5]; exact q⟩
    cases e with
    | lst xs => exact gen rfl (by cases d <;> exact h)
    | mls xs => exact gen rfl (by cases d <;> exact h)
    | _ => cases d <;> cases h
theorem empty_iff {xs : List D} {vs : List V} (r : Rfs K mg F xs vs) : (!vs.isEmpty) = !xs.isEmpty := by
  cases xs with
  | nil => rw [show vs = [] from r]; rfl
  | cons a b => obtain ⟨_, _, e, _⟩ := r; rw [e]; rfl
theorem truth_ok {k : Bool} (w : Wd F ow H) (h : Rp K mg F H ow o d v) (e : truthD d = some k) : TruV K v H k := by
  cases d with
  | non => cases e; rw [show v = .non from h]; rfl
  | bl b => cases e; rw [show v = .bl k from h]; rfl
  | int i => cases e; rw [show v = .int i from h]; rfl
  | str s =>
    have e' : (if s.length ≤ sizeLine then some ((s.length : Int) != 0) else none) = some k := e
    rw [show v = .str s from h]
    split at e'
    · cases e'; exact ⟨‹_›, rfl⟩
    · cases e'
  | tup xs =>
    cases e
    obtain ⟨a, vs, e1, q, r⟩ := Rp.tup w h
    rw [e1]
    exact .inr (.inl ⟨vs, q, (empty_iff r).symm⟩)
  | lst xs =>
    cases e
    obtain ⟨a, vs, e1, q, r⟩ := Rp.list w h rfl
    rw [e1]
    exact .inl ⟨vs, SqL.of q, (empty_iff r).symm⟩
  | mls xs =>
    cases e
    obtain ⟨a, vs, e1, q, r⟩ := Rp.list w h rfl
    rw [e1]
    exact .inl ⟨vs, SqL.of q, (empty_iff r).symm⟩
  | _ => cases e

/-! ### items, slices -/
theorem Rfs.atI {xs : List D} {vs : List V} {i : Int} {d : D} (r : Rfs K mg F xs vs) (h : atI xs i = some d) : ∃ v, atI vs i = some v ∧ Rf K mg F d v := by
  unfold L2.atI at h ⊢
  rw [r.len]
  cases e : ixN xs.length i with
  | none => rw [e] at h; cases h
  | some j => rw [e] at h; exact r.get h
theorem ix_ok {r : D} {Q : VK} (w : Wd F ow H) (hx : Rp K mg F H ow o1 d x) (hy : Rp K mg F H ow o2 e y) (h : ixD d e = some r) (q : ∀ u, Rf K mg F r u → Q u H) : rIx K x y H Q := by
  cases d with
  | tup xs =>
    cases e with
    | int i =>
      obtain ⟨a, vs, e1, h1, r1⟩ := Rp.tup w hx
      obtain ⟨u, h2, h3⟩ := r1.atI h
      exact .inr (.inl ⟨a, vs, i, u, e1, hy, h1, h2, q u h3⟩)
    | _ => cases h
  | lst xs =>
    cases e with
    | int i =>
      obtain ⟨a, vs, e1, h1, r1⟩ := Rp.list w hx rfl
      obtain ⟨u, h2, h3⟩ := r1.atI h
      exact .inl ⟨a, vs, i, u, e1, hy, SqL.of h1, h2, q u h3⟩
    | _ => cases h
  | mls xs =>
    cases e with
    | int i =>
      obtain ⟨a, vs, e1, h1, r1⟩ := Rp.list w hx rfl
      obtain ⟨u, h2, h3⟩ := r1.atI h
      exact .inl ⟨a, vs, i, u, e1, hy, SqL.of h1, h2, q u h3⟩
    | _ => cases h
  | _ => cases h
theorem Rfs.cut {xs : List D} {vs : List V} {lo hi : Option Int} (r : Rfs K mg F xs vs) : Rfs K mg F (cutD xs lo hi) (cutV vs lo hi) := by
  unfold cutD cutV
  rw [r.len]
  exact (r.drop _).take _
abbrev rSl (K : PySem.W.Frag) : V → Option Int → Option Int → Hp → VK → Prop := fun x lo hi H Q => rSlA K x lo hi H Q ∨ rSlL K x lo hi H Q
theorem sl_any {X : Cx} : SlR X (rSl X.K) := sl_tupA.or sl_list
theorem sl_ok {r : D} {lo hi : Option Int} {k : Nat} {Q : VK} (w : Wd F ow H) (hx : Rp K mg F H ow o1 d x) (h : slD d lo hi = some r)
    (q : ∀ u F' ow' H', Grow F ow H F' ow' H' → Rp K mg F' H' ow' (.stk k) r u → Q u H') : rSl K x lo hi H Q := by
  have lst : ∀ {xs : List D}, listOf d = some xs → r = .mls (cutD xs lo hi) → rSl K x lo hi H Q := fun {xs} el er => by
    obtain ⟨a, vs, e1, h1, r1⟩ := hx.list w el
    refine .inr ⟨a, vs, e1, SqL.of h1, fun p hp => ?_⟩
    obtain ⟨g, z⟩ := new_lst (o := .stk k) w (r1.cut (lo := lo) (hi := hi)) hp
    subst er
    exact q _ _ _ _ g z
  cases d with
  | tup xs =>
    have h' : some (D.tup (cutD xs lo hi)) = some r := h
    cases h'
    have hx0 := hx
    obtain ⟨a, vs, e1, h1, r1⟩ := Rp.tup w hx
    refine .inl ⟨a, vs, e1, h1, fun z => ?_, fun z p hp => ?_⟩
    · have : cutD xs lo hi = xs := by
        rw [r1.len] at z
        unfold cutD
        rw [z.1, z.2]
        simp
      rw [this] at q
      rw [← e1]
      exact q _ _ _ _ .refl (Rp.of (show Rf K mg F (.tup xs) x from hx0))
    · obtain ⟨g, z⟩ := new_tup w (r1.cut (lo := lo) (hi := hi)) hp
      exact q _ _ _ _ g (Rp.of z)
  | lst xs => exact lst rfl (by cases h; rfl)
  | mls xs => exact lst rfl (by cases h; rfl)
  | scr ns =>
    have h' : some (D.mls (cutD (ns.map .int) lo hi)) = some r := h
    cases h'
    obtain ⟨a, e1, h1⟩ := hx
    have r1 : Rfs K mg F (ns.map D.int) (ns.map V.int) := by
      clear h h1 q lst
      induction ns with
      | nil => exact rfl
      | cons n ns ih => exact ⟨.int n, ns.map V.int, rfl, rfl, ih⟩
    refine .inr ⟨a, ns.map V.int, e1, w.fh.sqL h1, fun p hp => ?_⟩
    obtain ⟨g, z⟩ := new_lst (o := .stk k) w (r1.cut (lo := lo) (hi := hi)) hp
    exact q _ _ _ _ g z
  | _ => cases h

/-! ### built-ins -/
/-- each is told, whoever owns it -/
def RpX (K : PySem.W.Frag) (mg : Str → Option Value) (F H : Hp) (ow : Ows) : List D → List V → Prop
  | [], vs => vs = []
  | d :: ds, vs => ∃ v r o, vs = v :: r ∧ Rp K mg F H ow o d v ∧ RpX K mg F H ow ds r
theorem ints_ok : ∀ {xs : List D} {vs : List V} {ns : List Int}, Rfs K mg F xs vs → intsOf xs = some ns → vs = ns.map V.int ∧ xs = ns.map D.int
  | [], _, _, r, e => by cases e; exact ⟨r, rfl⟩
  | .int i :: xs, _, ns, ⟨v, t, e1, h1, h2⟩, e => by
    have e' : (intsOf xs).map (i :: ·) = some ns := e
    cases q : intsOf xs with
    | none => rw [q] at e'; cases e'
    | some ms =>
      rw [q] at e'; cases e'
      obtain ⟨a, b⟩ := ints_ok h2 q
      rw [e1, a, b, show v = V.int i from h1]
      exact ⟨rfl, rfl⟩
  | .non :: _, _, _, _, e => by cases e
  | .bl _ :: _, _, _, _, e => by cases e
  | .str _ :: _, _, _, _, e => by cases e
  | .fn _ :: _, _, _, _, e => by cases e
  | .scr _ :: _, _, _, _, e => by cases e
  | .tup _ :: _, _, _, _, e => by cases e
  | .lst _ :: _, _, _, _, e => by cases e
  | .mls _ :: _, _, _, _, e => by cases e
  | .dct _ _ _ :: _, _, _, _, e => by cases e
  | .mdc _ _ _ :: _, _, _, _, e => by cases e
theorem bls_ok : ∀ {xs : List D} {vs : List V} {ns : List Bool}, Rfs K mg F xs vs → blsOf xs = some ns → vs = ns.map V.bl ∧ xs = ns.map D.bl
  | [], _, _, r, e => by cases e; exact ⟨r, rfl⟩
  | .bl i :: xs, _, ns, ⟨v, t, e1, h1, h2⟩, e => by
    have e' : (blsOf xs).map (i :: ·) = some ns := e
    cases q : blsOf xs with
    | none => rw [q] at e'; cases e'
    | some ms =>
      rw [q] at e'; cases e'
      obtain ⟨a, b⟩ := bls_ok h2 q
      rw [e1, a, b, show v = V.bl i from h1]
      exact ⟨rfl, rfl⟩
  | .non :: _, _, _, _, e => by cases e
  | .int _ :: _, _, _, _, e => by cases e
  | .str _ :: _, _, _, _, e => by cases e
  | .fn _ :: _, _, _, _, e => by cases e
  | .scr _ :: _, _, _, _, e => by cases e
  | .tup _ :: _, _, _, _, e => by cases e
  | .lst _ :: _, _, _, _, e => by cases e
  | .mls _ :: _, _, _, _, e => by cases e
  | .dct _ _ _ :: _, _, _, _, e => by cases e
  | .mdc _ _ _ :: _, _, _, _, e => by cases e
abbrev rLen (K : PySem.W.Frag) : List V → Hp → VK → Prop := fun xs H Q => ∃ x n, xs = [x] ∧ LenV K x H n ∧ Q (.int n) H
abbrev rAbs : List V → Hp → VK → Prop := fun xs H Q => ∃ i, xs = [.int i] ∧ Q (.int (if i < 0 then -i else i)) H
abbrev rInt1 : List V → Hp → VK → Prop := fun xs H Q => (∃ i, xs = [.int i] ∧ Q (.int i) H) ∨ ∃ k, xs = [.bl k] ∧ Q (.int (if k then 1 else 0)) H
abbrev rMax2 : List V → Hp → VK → Prop := fun xs H Q => ∃ i j, xs = [.int i, .int j] ∧ Q (.int (if j > i then j else i)) H
abbrev rMin2 : List V → Hp → VK → Prop := fun xs H Q => ∃ i j, xs = [.int i, .int j] ∧ Q (.int (if j < i then j else i)) H
def rBi (K : PySem.W.Frag) : Bi → List V → Hp → VK → Prop
  | .len => rLen K
  | .sum => rSum K
  | .all => rAll K
  | .any => rAny K
  | .abs => rAbs
  | .int => rInt1
  | .min => rMin2
  | .max => rMax2
def Bi.name : Bi → Str
  | .len => "len" | .sum => "sum" | .all => "all" | .any => "any" | .abs => "abs" | .int => "int" | .min => "min" | .max => "max"
def Bi.val : Bi → Value
  | .len => .builtin "len" | .sum => .builtin "sum" | .all => .builtin "all" | .any => .builtin "any" | .abs => .builtin "abs" | .int => .type "int" | .min => .builtin "min" | .max => .builtin "max"
theorem cr_bi {X : Cx} (hc : X.calm = true) : ∀ b : Bi, CallR X b.val (rBi X.K b)
  | .len => call_len
  | .sum => cr_sum hc
  | .all => cr_all hc
  | .any => cr_any hc
  | .abs => call_abs
  | .int => call_int1
  | .min => call_min2 hc
  | .max => call_max2 hc
theorem RpX.one {vs : List V} (h : RpX K mg F H ow [d] vs) : ∃ v o, vs = [v] ∧ Rp K mg F H ow o d v := by
  obtain ⟨v, r, o, e1, h1, h2⟩ := h
  rw [show r = [] from h2] at e1
  exact ⟨v, o, e1, h1⟩
theorem RpX.two {vs : List V} (h : RpX K mg F H ow [d, e] vs) : ∃ v u o o', vs = [v, u] ∧ Rp K mg F H ow o d v ∧ Rp K mg F H ow o' e u := by
  obtain ⟨v, r, o, e1, h1, h2⟩ := h
  obtain ⟨u, o', e2, h3⟩ := RpX.one h2
  rw [e2] at e1
  exact ⟨v, u, o, o', e1, h1, h3⟩
theorem on1_some {f : D → Option D} {ds : List D} {res : D} (h : on1 f ds = some res) : ∃ d, ds = [d] ∧ f d = some res := by
  match ds, h with
  | [d], h => exact ⟨d, rfl, h⟩
theorem on2_some {f : D → D → Option D} {ds : List D} {res : D} (h : on2 f ds = some res) : ∃ d e, ds = [d, e] ∧ f d e = some res := by
  match ds, h with
  | [d, e], h => exact ⟨d, e, rfl, h⟩
theorem list_ints {ns : List Int} (w : Wd F ow H) (h : Rp K mg F H ow o d v) (e : (listOf d).bind intsOf = some ns) : ∃ a, v = .ref a ∧ H a = some (.lst (ns.map V.int)) := by
  cases el : listOf d with
  | none => rw [el] at e; cases e
  | some xs =>
    rw [el] at e
    obtain ⟨a, us, e2, g, r1⟩ := h.list w el
    rw [(ints_ok r1 e).1] at g
    exact ⟨a, e2, g⟩
theorem list_bls {ns : List Bool} (w : Wd F ow H) (h : Rp K mg F H ow o d v) (e : (listOf d).bind blsOf = some ns) : ∃ a, v = .ref a ∧ H a = some (.lst (ns.map V.bl)) := by
  cases el : listOf d with
  | none => rw [el] at e; cases e
  | some xs =>
    rw [el] at e
    obtain ⟨a, us, e2, g, r1⟩ := h.list w el
    rw [(bls_ok r1 e).1] at g
    exact ⟨a, e2, g⟩
theorem bi_ok {b : Bi} {ds : List D} {vs : List V} {res : D} {Q : VK} (w : Wd F ow H) (h : RpX K mg F H ow ds vs) (e : biD b ds = some res) (q : ∀ u, Rf K mg F res u → Q u H) : rBi K b vs H Q := by
  cases b with
  | len =>
    obtain ⟨d, rfl, e⟩ := on1_some (f := lenD) e
    obtain ⟨v, o, rfl, h1⟩ := h.one
    cases d with
    | tup xs =>
      cases e
      obtain ⟨a, us, e2, g, r1⟩ := Rp.tup w h1
      exact ⟨v, us.length, rfl, by rw [e2]; exact .inr ⟨us, g, rfl⟩, by rw [r1.len]; exact q _ rfl⟩
    | lst xs =>
      cases e
      obtain ⟨a, us, e2, g, r1⟩ := Rp.list w h1 rfl
      exact ⟨v, us.length, rfl, by rw [e2]; exact .inl ⟨us, SqL.of g, rfl⟩, by rw [r1.len]; exact q _ rfl⟩
    | mls xs =>
      cases e
      obtain ⟨a, us, e2, g, r1⟩ := Rp.list w h1 rfl
      exact ⟨v, us.length, rfl, by rw [e2]; exact .inl ⟨us, SqL.of g, rfl⟩, by rw [r1.len]; exact q _ rfl⟩
    | str s =>
      have e' : (if s.length ≤ sizeLine then some (D.int s.length) else none) = some res := e
      rw [show v = .str s from h1]
      split at e'
      · cases e'; exact ⟨.str s, s.length, rfl, ⟨‹_›, rfl⟩, q _ rfl⟩
      · cases e'
    | _ => cases e
  | sum =>
    obtain ⟨d, rfl, e⟩ := on1_some (f := sumD) e
    obtain ⟨v, o, rfl, h1⟩ := h.one
    obtain ⟨ns, e1, e2⟩ := Option.map_eq_some_iff.mp (show sumD d = some res from e)
    obtain ⟨a, e3, g⟩ := list_ints w h1 e1
    subst e2 e3
    exact ⟨a, ns, rfl, SqL.of g, q _ rfl⟩
  | all =>
    obtain ⟨d, rfl, e⟩ := on1_some (f := allD) e
    obtain ⟨v, o, rfl, h1⟩ := h.one
    obtain ⟨ns, e1, e2⟩ := Option.map_eq_some_iff.mp (show allD d = some res from e)
    obtain ⟨a, e3, g⟩ := list_bls w h1 e1
    subst e2 e3
    exact ⟨a, ns, rfl, SqL.of g, q _ rfl⟩
  | any =>
    obtain ⟨d, rfl, e⟩ := on1_some (f := anyD) e
    obtain ⟨v, o, rfl, h1⟩ := h.one
    obtain ⟨ns, e1, e2⟩ := Option.map_eq_some_iff.mp (show anyD d = some res from e)
    obtain ⟨a, e3, g⟩ := list_bls w h1 e1
    subst e2 e3
    exact ⟨a, ns, rfl, SqL.of g, q _ rfl⟩
  | abs =>
    obtain ⟨d, rfl, e⟩ := on1_some (f := absD) e
    obtain ⟨v, o, rfl, h1⟩ := h.one
    cases d with
    | int i => cases e; rw [show v = .int i from h1]; exact ⟨i, rfl, q _ rfl⟩
    | _ => cases e
  | int =>
    obtain ⟨d, rfl, e⟩ := on1_some (f := intD) e
    obtain ⟨v, o, rfl, h1⟩ := h.one
    cases d with
    | int i => cases e; rw [show v = .int i from h1]; exact .inl ⟨i, rfl, q _ rfl⟩
    | bl i => cases e; rw [show v = .bl i from h1]; exact .inr ⟨i, rfl, q _ rfl⟩
    | _ => cases e
  | min =>
    obtain ⟨d, e', rfl, e⟩ := on2_some (f := min2D) e
    obtain ⟨v, u, o, o', rfl, h1, h2⟩ := h.two
    cases d with
    | int i =>
      cases e' with
      | int j => cases e; rw [show v = .int i from h1, show u = .int j from h2]; exact ⟨i, j, rfl, q _ rfl⟩
      | _ => cases e
    | _ => cases e
  | max =>
    obtain ⟨d, e', rfl, e⟩ := on2_some (f := max2D) e
    obtain ⟨v, u, o, o', rfl, h1, h2⟩ := h.two
    cases d with
    | int i =>
      cases e' with
      | int j => cases e; rw [show v = .int i from h1, show u = .int j from h2]; exact ⟨i, j, rfl, q _ rfl⟩
      | _ => cases e
    | _ => cases e
end
end Dv
end
section
set_option Elab.async false
set_option linter.all false
set_option maxRecDepth 100000
set_option maxHeartbeats 2000000
/-! Dv7: readings of expressions. -/
namespace Dv
open PySem L2
section
variable {K : PySem.W.Frag} {mg : Str → Option Value} {xf : Str → List Str} {W : WX} {C : Ctx} {F F' F1 F2 H H' H1 H2 : Hp} {ow ow' ow1 ow2 : Ows} {G : GEnv} {σ : St} {st pre : List (RV × V)} {o o' : Own} {d : D} {v : V} {rv : RV}
variable {fa fb fc : GEnv → R RV} {fs : GEnv → R (List RV)} {ft : GEnv → R Bool} {Q : VK} {QT : Bool → Hp → Prop}

theorem At.pushF {x : D} {u : V} (A : At K mg F ow G σ H st) (h : Rf K mg F x u) : At K mg F ow G σ H ((.val x, u) :: st) :=
  A.push (show RVR K mg F H ow σ (.stk st.length) (.val x) u from Rp.of (H := H) (ow := ow) (o := .stk st.length) h)
theorem At.deref {x : RV} {v : V} (A : At K mg F ow G σ H (pre ++ (x, v) :: st)) (e : Dv.deref x G = some d) : ∃ o, Rp K mg F H ow o d v :=
  RVR.deref A (At.pops (pre := pre) A).stk.1 e
theorem At.derefs : ∀ {rvs : List RV} {vs : List V} {ds : List D} {st : List (RV × V)}, rvs.length = vs.length → At K mg F ow G σ H (stkOf rvs vs st) → Dv.derefs rvs G = some ds → RpX K mg F H ow ds vs
  | [], [], ds, st, _, A, e => by cases e; exact rfl
  | rv :: r, v :: vs, ds, st, hl, A, e => by
    have e1 : (match Dv.deref rv G, Dv.derefs r G with
      | some d, some ds => some (d :: ds)
      | _, _ => none) = some ds := e
    cases q1 : Dv.deref rv G with
    | none => rw [q1] at e1; cases e1
    | some d =>
      cases q2 : Dv.derefs r G with
      | none => rw [q1, q2] at e1; cases e1
      | some es =>
        rw [q1, q2] at e1
        cases e1
        have A1 : At K mg F ow G σ H (stkOf r vs ((rv, v) :: st)) := A
        obtain ⟨o, h⟩ := RVR.deref A (At.popsOf A1).stk.1 q1
        exact ⟨v, vs, o, rfl, h, At.derefs (by simpa using hl) A1 q2⟩

theorem r_var {i : Nat} (h : tOf K mg xf W (evE C (.var i)) σ H Q) : tVar i σ H Q := by
  obtain ⟨F, ow, G, st, A, h⟩ := h
  have h' : Fin K mg xf W σ st (pE K mg σ st Q) F ow H (match getS G i with
    | some _ => .ok (.slot i) G
    | none => .no) := h
  cases e : getS G i with
  | none => rw [e] at h'; exact h'.elim
  | some d =>
    rw [e] at h'
    obtain ⟨v, h1, h2⟩ := A.env i d e
    exact ⟨v, h1, h' v F ow H (A.push h1) .refl⟩
theorem r_const {d : D} {v : V} (e : ∀ F, Rf K mg F d v) (h : tOf K mg xf W (fun G => .ok (.val d) G) σ H Q) : tC v σ H Q := by
  obtain ⟨F, ow, G, st, A, h⟩ := h
  exact fin_old (pre := []) A h (e F)
theorem r_bin {op : BOp} (h : tOf K mg xf W (fun G => (fa G).bind fun x G1 => (fb G1).bind fun y G2 => match deref x G2, deref y G2 with
    | some d, some e => lft (binD op d e) G2
    | _, _ => .no) σ H Q) : tOp (rBin K op) (tOf K mg xf W fa) (tOf K mg xf W fb) σ H Q := by
  obtain ⟨F, ow, G, st, A, h⟩ := h
  refine run_E (pre := []) A mono_E h fun F1 ow1 H1 G1 x v A1 h1 => ?_
  refine run_E (pre := [(x, v)]) A1 mono_E h1 fun F2 ow2 H2 G2 y w A2 h2 => ?_
  cases ex : deref x G2 with
  | none => rw [ex] at h2; exact h2.elim
  | some d =>
    cases ey : deref y G2 with
    | none => rw [ex, ey] at h2; exact h2.elim
    | some e =>
      rw [ex, ey] at h2
      obtain ⟨o1, hx⟩ := At.deref (pre := [(y, w)]) A2 ex
      obtain ⟨o2, hy⟩ := At.deref (pre := []) A2 ey
      have h3 : Fin K mg xf W σ st (pE K mg σ st Q) F2 ow2 H2 (lft (binD op d e) G2) := h2
      cases eb : binD op d e with
      | none => rw [eb] at h3; exact h3.elim
      | some res =>
        rw [eb] at h3
        exact bin_ok op F2 ow2 H2 st.length o1 o2 v w d e res Q A2.wd hx hy eb fun u F' ow' H' g r => fin_new (pre := [(y, w), (x, v)]) (k := 0) A2 h3 g r
theorem r_neg (h : tOf K mg xf W (fun G => (fa G).bind fun x G1 => match deref x G1 with
    | some (.int i) => .ok (.val (.int (-i))) G1
    | _ => .no) σ H Q) : tUn (rU fun i => .int (-i)) (tOf K mg xf W fa) σ H Q := by
  obtain ⟨F, ow, G, st, A, h⟩ := h
  refine run_E (pre := []) A mono_E h fun F1 ow1 H1 G1 x v A1 h1 => ?_
  cases ex : deref x G1 with
  | none => rw [ex] at h1; exact h1.elim
  | some d =>
    rw [ex] at h1
    cases d with
    | int i =>
      obtain ⟨o1, hx⟩ := At.deref (pre := []) A1 ex
      exact ⟨i, hx, fin_old (pre := [(x, v)]) A1 h1 rfl⟩
    | _ => exact h1.elim
theorem r_cmp {op : COp} (h : tOf K mg xf W (fun G => (fa G).bind fun x G1 => (fb G1).bind fun y G2 => match deref x G2, deref y G2 with
    | some d, some e => lft ((cmpD op d e).map .bl) G2
    | _, _ => .no) σ H Q) : tOp (rCmp K op) (tOf K mg xf W fa) (tOf K mg xf W fb) σ H Q := by
  obtain ⟨F, ow, G, st, A, h⟩ := h
  refine run_E (pre := []) A mono_E h fun F1 ow1 H1 G1 x v A1 h1 => ?_
  refine run_E (pre := [(x, v)]) A1 mono_E h1 fun F2 ow2 H2 G2 y w A2 h2 => ?_
  cases ex : deref x G2 with
  | none => rw [ex] at h2; exact h2.elim
  | some d =>
    cases ey : deref y G2 with
    | none => rw [ex, ey] at h2; exact h2.elim
    | some e =>
      rw [ex, ey] at h2
      obtain ⟨o1, hx⟩ := At.deref (pre := [(y, w)]) A2 ex
      obtain ⟨o2, hy⟩ := At.deref (pre := []) A2 ey
      have h3 : Fin K mg xf W σ st (pE K mg σ st Q) F2 ow2 H2 (lft ((cmpD op d e).map .bl) G2) := h2
      cases eb : cmpD op d e with
      | none => rw [eb] at h3; exact h3.elim
      | some res =>
        rw [eb] at h3
        exact cmp_ok op A2.wd hx hy eb (fin_old (pre := [(y, w), (x, v)]) A2 h3 rfl)
theorem r_cmpT {op : COp} (h : tOfT K mg xf W (fun G => (fa G).bind fun x G1 => (fb G1).bind fun y G2 => match deref x G2, deref y G2 with
    | some d, some e => (match cmpD op d e with
      | some k => .ok k G2
      | none => .no)
    | _, _ => .no) σ H QT) : tTest (tOp (rCmp K op) (tOf K mg xf W fa) (tOf K mg xf W fb)) σ H QT := by
  obtain ⟨F, ow, G, st, A, h⟩ := h
  refine run_E (pre := []) A mono_T h fun F1 ow1 H1 G1 x v A1 h1 => ?_
  refine run_E (pre := [(x, v)]) A1 mono_T h1 fun F2 ow2 H2 G2 y w A2 h2 => ?_
  cases ex : deref x G2 with
  | none => rw [ex] at h2; exact h2.elim
  | some d =>
    cases ey : deref y G2 with
    | none => rw [ex, ey] at h2; exact h2.elim
    | some e =>
      rw [ex, ey] at h2
      obtain ⟨o1, hx⟩ := At.deref (pre := [(y, w)]) A2 ex
      obtain ⟨o2, hy⟩ := At.deref (pre := []) A2 ey
      have h3 : Fin K mg xf W σ st (pT K mg σ st QT) F2 ow2 H2 (match cmpD op d e with
        | some k => .ok k G2
        | none => .no) := h2
      cases eb : cmpD op d e with
      | none => rw [eb] at h3; exact h3.elim
      | some k =>
        rw [eb] at h3
        exact cmp_ok op A2.wd hx hy eb ⟨k, rfl, h3 F2 ow2 H2 (At.pops (pre := [(y, w), (x, v)]) A2) .refl⟩
theorem r_chain {op op' : COp} (h : tOf K mg xf W (fun G => (fa G).bind fun x G1 => (fb G1).bind fun y G2 => match deref x G2, deref y G2 with
    | some d, some e => (match cmpD op d e with
      | some true => (fc G2).bind fun z G3 => (match deref y G3, deref z G3 with
        | some e, some f => lft ((cmpD op' e f).map .bl) G3
        | _, _ => .no)
      | some false => .ok (.val (.bl false)) G2
      | none => .no)
    | _, _ => .no) σ H Q) : tChain (rCmp K op) (rCmp K op') (tOf K mg xf W fa) (tOf K mg xf W fb) (tOf K mg xf W fc) σ H Q := by
  obtain ⟨F, ow, G, st, A, h⟩ := h
  refine run_E (pre := []) A mono_E h fun F1 ow1 H1 G1 x v A1 h1 => ?_
  refine run_E (pre := [(x, v)]) A1 mono_E h1 fun F2 ow2 H2 G2 y w A2 h2 => ?_
  cases ex : deref x G2 with
  | none => rw [ex] at h2; exact h2.elim
  | some d =>
    cases ey : deref y G2 with
    | none => rw [ex, ey] at h2; exact h2.elim
    | some e =>
      rw [ex, ey] at h2
      obtain ⟨o1, hx⟩ := At.deref (pre := [(y, w)]) A2 ex
      obtain ⟨o2, hy⟩ := At.deref (pre := []) A2 ey
      have h3 : Fin K mg xf W σ st (pE K mg σ st Q) F2 ow2 H2 (match cmpD op d e with
        | some true => (fc G2).bind fun z G3 => (match deref y G3, deref z G3 with
          | some e, some f => lft ((cmpD op' e f).map .bl) G3
          | _, _ => .no)
        | some false => .ok (.val (.bl false)) G2
        | none => .no) := h2
      cases eb : cmpD op d e with
      | none => rw [eb] at h3; exact h3.elim
      | some k =>
        rw [eb] at h3
        refine cmp_ok op A2.wd hx hy eb ⟨k, rfl, ?_⟩
        cases k with
        | false => exact fin_old (pre := [(y, w), (x, v)]) A2 h3 rfl
        | true =>
          show tOf K mg xf W fc σ H2 _
          refine run_E (pre := [(y, w), (x, v)]) A2 mono_E h3 fun F3 ow3 H3 G3 z u A3 h4 => ?_
          cases ey3 : deref y G3 with
          | none => rw [ey3] at h4; exact h4.elim
          | some e3 =>
            cases ez : deref z G3 with
            | none => rw [ey3, ez] at h4; exact h4.elim
            | some f =>
              rw [ey3, ez] at h4
              obtain ⟨o3, hy3⟩ := At.deref (pre := [(z, u)]) A3 ey3
              obtain ⟨o4, hz⟩ := At.deref (pre := []) A3 ez
              have h5 : Fin K mg xf W σ st (pE K mg σ st Q) F3 ow3 H3 (lft ((cmpD op' e3 f).map .bl) G3) := h4
              cases eb2 : cmpD op' e3 f with
              | none => rw [eb2] at h5; exact h5.elim
              | some res =>
                rw [eb2] at h5
                exact cmp_ok op' A3.wd hy3 hz eb2 (fin_old (pre := [(z, u), (y, w), (x, v)]) A3 h5 rfl)
theorem r_chainT {op op' : COp} (h : tOfT K mg xf W (fun G => (fa G).bind fun x G1 => (fb G1).bind fun y G2 => match deref x G2, deref y G2 with
    | some d, some e => (match cmpD op d e with
      | some true => (fc G2).bind fun z G3 => (match deref y G3, deref z G3 with
        | some e, some f => (match cmpD op' e f with
          | some k => .ok k G3
          | none => .no)
        | _, _ => .no)
      | some false => .ok false G2
      | none => .no)
    | _, _ => .no) σ H QT) : tTest (tChain (rCmp K op) (rCmp K op') (tOf K mg xf W fa) (tOf K mg xf W fb) (tOf K mg xf W fc)) σ H QT := by
  obtain ⟨F, ow, G, st, A, h⟩ := h
  refine run_E (pre := []) A mono_T h fun F1 ow1 H1 G1 x v A1 h1 => ?_
  refine run_E (pre := [(x, v)]) A1 mono_T h1 fun F2 ow2 H2 G2 y w A2 h2 => ?_
  cases ex : deref x G2 with
  | none => rw [ex] at h2; exact h2.elim
  | some d =>
    cases ey : deref y G2 with
    | none => rw [ex, ey] at h2; exact h2.elim
    | some e =>
      rw [ex, ey] at h2
      obtain ⟨o1, hx⟩ := At.deref (pre := [(y, w)]) A2 ex
      obtain ⟨o2, hy⟩ := At.deref (pre := []) A2 ey
      have h3 : Fin K mg xf W σ st (pT K mg σ st QT) F2 ow2 H2 (match cmpD op d e with
        | some true => (fc G2).bind fun z G3 => (match deref y G3, deref z G3 with
          | some e, some f => (match cmpD op' e f with
            | some k => .ok k G3
            | none => .no)
          | _, _ => .no)
        | some false => .ok false G2
        | none => .no) := h2
      cases eb : cmpD op d e with
      | none => rw [eb] at h3; exact h3.elim
      | some k =>
        rw [eb] at h3
        refine cmp_ok op A2.wd hx hy eb ⟨k, rfl, ?_⟩
        cases k with
        | false => exact ⟨false, rfl, h3 F2 ow2 H2 (At.pops (pre := [(y, w), (x, v)]) A2) .refl⟩
        | true =>
          show tOf K mg xf W fc σ H2 _
          refine run_E (pre := [(y, w), (x, v)]) A2 mono_T h3 fun F3 ow3 H3 G3 z u A3 h4 => ?_
          cases ey3 : deref y G3 with
          | none => rw [ey3] at h4; exact h4.elim
          | some e3 =>
            cases ez : deref z G3 with
            | none => rw [ey3, ez] at h4; exact h4.elim
            | some f =>
              rw [ey3, ez] at h4
              obtain ⟨o3, hy3⟩ := At.deref (pre := [(z, u)]) A3 ey3
              obtain ⟨o4, hz⟩ := At.deref (pre := []) A3 ez
              have h5 : Fin K mg xf W σ st (pT K mg σ st QT) F3 ow3 H3 (match cmpD op' e3 f with
                | some k => .ok k G3
                | none => .no) := h4
              cases eb2 : cmpD op' e3 f with
              | none => rw [eb2] at h5; exact h5.elim
              | some res =>
                rw [eb2] at h5
                exact cmp_ok op' A3.wd hy3 hz eb2 ⟨res, rfl, h5 F3 ow3 H3 (At.pops (pre := [(z, u), (y, w), (x, v)]) A3) .refl⟩
/-- a value's truth -/
theorem r_truth (h : tOfT K mg xf W (fun G => (fa G).bind fun x G1 => match (deref x G1).bind truthD with
    | some k => .ok k G1
    | none => .no) σ H QT) : (tOf K mg xf W fa) σ H fun x H' => ∃ k, TruV K x H' k ∧ QT k H' := by
  obtain ⟨F, ow, G, st, A, h⟩ := h
  refine run_E (pre := []) A mono_T h fun F1 ow1 H1 G1 x v A1 h1 => ?_
  cases ex : deref x G1 with
  | none => rw [ex] at h1; exact h1.elim
  | some d =>
    rw [ex] at h1
    have h2 : Fin K mg xf W σ st (pT K mg σ st QT) F1 ow1 H1 (match truthD d with
      | some k => .ok k G1
      | none => .no) := h1
    obtain ⟨o1, hx⟩ := At.deref (pre := []) A1 ex
    cases et : truthD d with
    | none => rw [et] at h2; exact h2.elim
    | some k =>
      rw [et] at h2
      exact ⟨k, truth_ok A1.wd hx et, h2 F1 ow1 H1 A1.pop .refl⟩
theorem r_not (h : tOf K mg xf W (fun G => (fa G).bind fun x G1 => match (deref x G1).bind truthD with
    | some k => .ok (.val (.bl (!k))) G1
    | none => .no) σ H Q) : tNotT K (tOf K mg xf W fa) σ H Q := by
  obtain ⟨F, ow, G, st, A, h⟩ := h
  refine run_E (pre := []) A mono_E h fun F1 ow1 H1 G1 x v A1 h1 => ?_
  cases ex : deref x G1 with
  | none => rw [ex] at h1; exact h1.elim
  | some d =>
    rw [ex] at h1
    have h2 : Fin K mg xf W σ st (pE K mg σ st Q) F1 ow1 H1 (match truthD d with
      | some k => .ok (.val (.bl (!k))) G1
      | none => .no) := h1
    obtain ⟨o1, hx⟩ := At.deref (pre := []) A1 ex
    cases et : truthD d with
    | none => rw [et] at h2; exact h2.elim
    | some k =>
      rw [et] at h2
      exact ⟨k, truth_ok A1.wd hx et, fin_old (pre := [(x, v)]) A1 h2 rfl⟩
theorem r_and (h : tOf K mg xf W (fun G => (fa G).bind fun x G1 => match (deref x G1).bind truthD with
    | some true => fb G1
    | some false => .ok x G1
    | none => .no) σ H Q) : tAndT K (tOf K mg xf W fa) (tOf K mg xf W fb) σ H Q := by
  obtain ⟨F, ow, G, st, A, h⟩ := h
  refine run_E (pre := []) A mono_E h fun F1 ow1 H1 G1 x v A1 h1 => ?_
  cases ex : deref x G1 with
  | none => rw [ex] at h1; exact h1.elim
  | some d =>
    rw [ex] at h1
    have h2 : Fin K mg xf W σ st (pE K mg σ st Q) F1 ow1 H1 (match truthD d with
      | some true => fb G1
      | some false => .ok x G1
      | none => .no) := h1
    obtain ⟨o1, hx⟩ := At.deref (pre := []) A1 ex
    cases et : truthD d with
    | none => rw [et] at h2; exact h2.elim
    | some k =>
      rw [et] at h2
      refine ⟨k, truth_ok A1.wd hx et, ?_⟩
      cases k with
      | true => exact ⟨F1, ow1, G1, st, A1.pop, h2⟩
      | false => exact h2 v F1 ow1 H1 A1 .refl
theorem r_or (h : tOf K mg xf W (fun G => (fa G).bind fun x G1 => match (deref x G1).bind truthD with
    | some true => .ok x G1
    | some false => fb G1
    | none => .no) σ H Q) : tOrT K (tOf K mg xf W fa) (tOf K mg xf W fb) σ H Q := by
  obtain ⟨F, ow, G, st, A, h⟩ := h
  refine run_E (pre := []) A mono_E h fun F1 ow1 H1 G1 x v A1 h1 => ?_
  cases ex : deref x G1 with
  | none => rw [ex] at h1; exact h1.elim
  | some d =>
    rw [ex] at h1
    have h2 : Fin K mg xf W σ st (pE K mg σ st Q) F1 ow1 H1 (match truthD d with
      | some true => .ok x G1
      | some false => fb G1
      | none => .no) := h1
    obtain ⟨o1, hx⟩ := At.deref (pre := []) A1 ex
    cases et : truthD d with
    | none => rw [et] at h2; exact h2.elim
    | some k =>
      rw [et] at h2
      refine ⟨k, truth_ok A1.wd hx et, ?_⟩
      cases k with
      | true => exact h2 v F1 ow1 H1 A1 .refl
      | false => exact ⟨F1, ow1, G1, st, A1.pop, h2⟩
theorem r_ife (h : tOf K mg xf W (fun G => (ft G).bind fun k G1 => if k then fa G1 else fb G1) σ H Q) : tIf (tOfT K mg xf W ft) (tOf K mg xf W fa) (tOf K mg xf W fb) σ H Q := by
  obtain ⟨F, ow, G, st, A, h⟩ := h
  refine run_T (pre := []) A mono_E h fun F1 ow1 H1 G1 k A1 h1 => ?_
  cases k with
  | true => exact ⟨F1, ow1, G1, st, A1, h1⟩
  | false => exact ⟨F1, ow1, G1, st, A1, h1⟩
theorem r_notT {fu : GEnv → R Bool} (h : tOfT K mg xf W (fun G => (fu G).bind fun k G1 => .ok (!k) G1) σ H QT) : tNot (tOfT K mg xf W fu) σ H QT := by
  obtain ⟨F, ow, G, st, A, h⟩ := h
  exact run_T (pre := []) A mono_T h fun F1 ow1 H1 G1 k A1 h1 => h1 F1 ow1 H1 A1 .refl
theorem r_andT {fu fw : GEnv → R Bool} (h : tOfT K mg xf W (fun G => (fu G).bind fun k G1 => if k then fw G1 else .ok false G1) σ H QT) : tAnd (tOfT K mg xf W fu) (tOfT K mg xf W fw) σ H QT := by
  obtain ⟨F, ow, G, st, A, h⟩ := h
  refine run_T (pre := []) A mono_T h fun F1 ow1 H1 G1 k A1 h1 => ?_
  cases k with
  | true => exact ⟨F1, ow1, G1, st, A1, h1⟩
  | false => exact h1 F1 ow1 H1 A1 .refl
theorem r_orT {fu fw : GEnv → R Bool} (h : tOfT K mg xf W (fun G => (fu G).bind fun k G1 => if k then .ok true G1 else fw G1) σ H QT) : tOr (tOfT K mg xf W fu) (tOfT K mg xf W fw) σ H QT := by
  obtain ⟨F, ow, G, st, A, h⟩ := h
  refine run_T (pre := []) A mono_T h fun F1 ow1 H1 G1 k A1 h1 => ?_
  cases k with
  | false => exact ⟨F1, ow1, G1, st, A1, h1⟩
  | true => exact h1 F1 ow1 H1 A1 .refl
theorem r_tup (h : tOf K mg xf W (fun G => (fs G).bind fun rvs G1 => match takes rvs G1 with
    | some (ds, G2) => if lenOk ds then .ok (.val (.tup ds)) G2 else .no
    | none => .no) σ H Q) : tTup (tOfA K mg xf W fs) σ H Q := by
  obtain ⟨F, ow, G, st, A, h⟩ := h
  refine run_A (pre := []) A mono_E h fun F1 ow1 H1 G1 rvs vs hl A1 h1 => ?_
  cases e : takes rvs G1 with
  | none => rw [e] at h1; exact h1.elim
  | some p =>
    obtain ⟨ds, G2⟩ := p
    rw [e] at h1
    obtain ⟨F2, ow2, A2, X2, r⟩ := At.takes hl A1 e
    have h2 : Fin K mg xf W σ st (pE K mg σ st Q) F1 ow1 H1 (if lenOk ds then .ok (.val (.tup ds)) G2 else .no) := h1
    by_cases hk : lenOk ds = true
    · rw [if_pos hk] at h2
      refine ⟨by rw [r.len]; exact of_decide_eq_true hk, fun p hp => ?_⟩
      obtain ⟨g, z⟩ := new_tup A2.wd r hp
      exact h2 _ _ _ _ ((A2.popsOf.grow g).pushF z) (X2.trans g.ext)
    · rw [if_neg hk] at h2; exact h2.elim
theorem r_lst (h : tOf K mg xf W (fun G => (fs G).bind fun rvs G1 => match takes rvs G1 with
    | some (ds, G2) => if lenOk ds then .ok (.val (.mls ds)) G2 else .no
    | none => .no) σ H Q) : tLst (tOfA K mg xf W fs) σ H Q := by
  obtain ⟨F, ow, G, st, A, h⟩ := h
  refine run_A (pre := []) A mono_E h fun F1 ow1 H1 G1 rvs vs hl A1 h1 => ?_
  cases e : takes rvs G1 with
  | none => rw [e] at h1; exact h1.elim
  | some p =>
    obtain ⟨ds, G2⟩ := p
    rw [e] at h1
    obtain ⟨F2, ow2, A2, X2, r⟩ := At.takes hl A1 e
    have h2 : Fin K mg xf W σ st (pE K mg σ st Q) F1 ow1 H1 (if lenOk ds then .ok (.val (.mls ds)) G2 else .no) := h1
    by_cases hk : lenOk ds = true
    · rw [if_pos hk] at h2
      refine ⟨by rw [r.len]; exact of_decide_eq_true hk, fun p hp => ?_⟩
      obtain ⟨g, z⟩ := new_lst (o := .stk st.length) A2.wd r hp
      exact h2 _ _ _ _ ((A2.popsOf.grow g).push (rv := .val (.mls ds)) z) (X2.trans g.ext)
    · rw [if_neg hk] at h2; exact h2.elim
theorem r_ix (h : tOf K mg xf W (fun G => (fa G).bind fun x G1 => (fb G1).bind fun y G2 => match deref x G2, deref y G2 with
    | some d, some e => lft (ixD d e) G2
    | _, _ => .no) σ H Q) : tOp (rIx K) (tOf K mg xf W fa) (tOf K mg xf W fb) σ H Q := by
  obtain ⟨F, ow, G, st, A, h⟩ := h
  refine run_E (pre := []) A mono_E h fun F1 ow1 H1 G1 x v A1 h1 => ?_
  refine run_E (pre := [(x, v)]) A1 mono_E h1 fun F2 ow2 H2 G2 y w A2 h2 => ?_
  cases ex : deref x G2 with
  | none => rw [ex] at h2; exact h2.elim
  | some d =>
    cases ey : deref y G2 with
    | none => rw [ex, ey] at h2; exact h2.elim
    | some e =>
      rw [ex, ey] at h2
      obtain ⟨o1, hx⟩ := At.deref (pre := [(y, w)]) A2 ex
      obtain ⟨o2, hy⟩ := At.deref (pre := []) A2 ey
      have h3 : Fin K mg xf W σ st (pE K mg σ st Q) F2 ow2 H2 (lft (ixD d e) G2) := h2
      cases eb : ixD d e with
      | none => rw [eb] at h3; exact h3.elim
      | some res =>
        rw [eb] at h3
        exact ix_ok A2.wd hx hy eb fun u r => fin_old (pre := [(y, w), (x, v)]) A2 h3 r
theorem r_sl {fl fh : GEnv → R (Option Int)} (h : tOf K mg xf W (fun G => (fa G).bind fun x G1 => (fl G1).bind fun l G2 => (fh G2).bind fun u G3 => match deref x G3 with
    | some d => lft (slD d l u) G3
    | none => .no) σ H Q) : tSl (rSl K) (tOf K mg xf W fa) (tOfO K mg xf W fl) (tOfO K mg xf W fh) σ H Q := by
  obtain ⟨F, ow, G, st, A, h⟩ := h
  refine run_E (pre := []) A mono_E h fun F1 ow1 H1 G1 x v A1 h1 => ?_
  refine run_O (pre := [(x, v)]) A1 mono_E h1 fun F2 ow2 H2 G2 l A2 h2 => ?_
  refine run_O (pre := [(x, v)]) A2 mono_E h2 fun F3 ow3 H3 G3 u A3 h3 => ?_
  cases ex : deref x G3 with
  | none => rw [ex] at h3; exact h3.elim
  | some d =>
    rw [ex] at h3
    obtain ⟨o1, hx⟩ := At.deref (pre := []) A3 ex
    have h4 : Fin K mg xf W σ st (pE K mg σ st Q) F3 ow3 H3 (lft (slD d l u) G3) := h3
    cases eb : slD d l u with
    | none => rw [eb] at h4; exact h4.elim
    | some res =>
      rw [eb] at h4
      exact sl_ok (k := st.length) A3.wd hx eb fun w F' ow' H' g r => fin_new (pre := [(x, v)]) (k := 0) A3 h4 g r
theorem r_none {QO : Option Int → Hp → Prop} (h : tOfO K mg xf W (fun G => .ok none G) σ H QO) : tNoPart σ H QO := by
  obtain ⟨F, ow, G, st, A, h⟩ := h
  exact h F ow H A .refl
theorem r_part {QO : Option Int → Hp → Prop} (h : tOfO K mg xf W (fun G => (fa G).bind fun x G1 => match deref x G1 with
    | some (.int i) => .ok (some i) G1
    | _ => .no) σ H QO) : tPart (tOf K mg xf W fa) σ H QO := by
  obtain ⟨F, ow, G, st, A, h⟩ := h
  refine run_E (pre := []) A mono_O h fun F1 ow1 H1 G1 x v A1 h1 => ?_
  cases ex : deref x G1 with
  | none => rw [ex] at h1; exact h1.elim
  | some d =>
    rw [ex] at h1
    cases d with
    | int i =>
      obtain ⟨o1, hx⟩ := At.deref (pre := []) A1 ex
      exact ⟨i, hx, h1 F1 ow1 H1 A1.pop .refl⟩
    | _ => exact h1.elim
theorem r_rev (h : tOf K mg xf W (fun G => (fa G).bind fun x G1 => match deref x G1 with
    | some d => lft (revD d) G1
    | none => .no) σ H Q) : tRevL K (tOf K mg xf W fa) σ H Q := by
  obtain ⟨F, ow, G, st, A, h⟩ := h
  refine run_E (pre := []) A mono_E h fun F1 ow1 H1 G1 x v A1 h1 => ?_
  cases ex : deref x G1 with
  | none => rw [ex] at h1; exact h1.elim
  | some d =>
    rw [ex] at h1
    obtain ⟨o1, hx⟩ := At.deref (pre := []) A1 ex
    have go : ∀ {xs : List D}, listOf d = some xs → revD d = some (.mls xs.reverse) → ∃ a us, v = .ref a ∧ SqL K H1 a us ∧ ∀ p, H1 p = none → Q (.ref p) (upd H1 p (.lst us.reverse)) := fun {xs} el er => by
      have h2 : Fin K mg xf W σ st (pE K mg σ st Q) F1 ow1 H1 (lft (revD d) G1) := h1
      rw [er] at h2
      obtain ⟨a, us, e1, q1, r1⟩ := hx.list A1.wd el
      refine ⟨a, us, e1, SqL.of q1, fun p hp => ?_⟩
      obtain ⟨g, z⟩ := new_lst (o := .stk st.length) A1.wd r1.reverse hp
      exact fin_new (pre := [(x, v)]) (k := 0) A1 h2 g z
    cases d with
    | lst xs => exact go rfl rfl
    | mls xs => exact go rfl rfl
    | _ => exact h1.elim
theorem r_bi {b : Bi} (h : tOf K mg xf W (fun G => (fs G).bind fun rvs G1 => match derefs rvs G1 with
    | some ds => lft (biD b ds) G1
    | none => .no) σ H Q) : tCB (rBi K b) (tOfA K mg xf W fs) σ H Q := by
  obtain ⟨F, ow, G, st, A, h⟩ := h
  refine run_A (pre := []) A mono_E h fun F1 ow1 H1 G1 rvs vs hl A1 h1 => ?_
  cases e : derefs rvs G1 with
  | none => rw [e] at h1; exact h1.elim
  | some ds =>
    rw [e] at h1
    have h2 : Fin K mg xf W σ st (pE K mg σ st Q) F1 ow1 H1 (lft (biD b ds) G1) := h1
    cases eb : biD b ds with
    | none => rw [eb] at h2; exact h2.elim
    | some res =>
      rw [eb] at h2
      exact bi_ok A1.wd (At.derefs hl A1 e) eb fun u r => fin_old (pre := []) A1.popsOf h2 r
/-! arguments -/
theorem r_nil {QA : List V → Hp → Prop} (h : tOfA K mg xf W (fun G => .ok [] G) σ H QA) : tNil σ H QA := by
  obtain ⟨F, ow, G, st, A, h⟩ := h
  exact h [] F ow H rfl A .refl
theorem r_cons {QA : List V → Hp → Prop} (h : tOfA K mg xf W (fun G => (fa G).bind fun x G1 => (fs G1).bind fun xs G2 => .ok (x :: xs) G2) σ H QA) : tCons (tOf K mg xf W fa) (tOfA K mg xf W fs) σ H QA := by
  obtain ⟨F, ow, G, st, A, h⟩ := h
  refine run_E (pre := []) A mono_A h fun F1 ow1 H1 G1 x v A1 h1 => ?_
  refine run_A (pre := [(x, v)]) A1 mono_A h1 fun F2 ow2 H2 G2 rvs vs hl A2 h2 => ?_
  exact h2 (v :: vs) F2 ow2 H2 (by simp [hl]) A2 .refl
end
end Dv
end
section
set_option Elab.async false
set_option linter.all false
set_option maxRecDepth 100000
set_option maxHeartbeats 2000000
/-! Dv8: calls. -/
namespace Dv
open PySem L2
section
variable (K : PySem.W.Frag) (mg : Str → Option Value) (xf : Str → List Str)
/-- the arguments, owned by the callee's slots -/
def ArgR (F H : Hp) (ow : Ows) : Nat → List D → List V → Prop
  | _, [], vs => vs = []
  | j, d :: ds, vs => ∃ v r, vs = v :: r ∧ Rp K mg F H ow (.env j) d v ∧ ArgR F H ow (j + 1) ds r
/-- what was lent comes back -/
def BackR (F H : Hp) (ow : Ows) : Nat → List Bool → List D → List V → Prop
  | j, true :: ms, d :: ds, v :: vs => Rp K mg F H ow (.env j) d v ∧ BackR F H ow (j + 1) ms ds vs
  | j, false :: ms, _ :: ds, _ :: vs => BackR F H ow (j + 1) ms ds vs
  | _, _, _, _ => True
def FinF (md : List Bool) (vs : List V) (Q : VK) (E : XK) (F : Hp) (ow : Ows) (H : Hp) : FR → Prop
  | .ret d as => as.length = vs.length ∧ ∀ v F' ow' H', Wd F' ow' H' → Rp K mg F' H' ow' (.stk 0) d v → BackR K mg F' H' ow' 0 md as vs → Ext F ow H F' ow' H' → Q v H'
  | .ex c es as => as.length = vs.length ∧ ∀ cls dd F' ow' H', XV K mg xf F' c es cls dd → Wd F' ow' H' → BackR K mg F' H' ow' 0 md as vs → Ext F ow H F' ow' H' → E cls dd H'
  | .no => False
/-- THE PROMISE of a def by the evaluator -/
def spF (np : Nat) (md : List Bool) (fr : List D → FR) : Sp := fun vs H Q E => ∃ F ow ds, Wd F ow H ∧ vs.length = np ∧ ArgR K mg F H ow 0 ds vs ∧ FinF K mg xf md vs Q E F ow H (fr ds)
end
section
variable {K : PySem.W.Frag} {mg : Str → Option Value} {xf : Str → List Str} {W : WX} {C : Ctx} {F F' F1 F2 H H' H1 H2 : Hp} {ow ow' ow1 ow2 : Ows} {G : GEnv} {σ : St} {st pre : List (RV × V)} {o o' : Own} {d : D} {v : V} {rv : RV} {Q : VK}
theorem Rp.re (s : Sub F F') (hk : ∀ a x, ow a = some o → H a = some x → H' a = some x ∧ ow' a = some o') (h : Rp K mg F H ow o d v) : Rp K mg F' H' ow' o' d v := by
  cases d with
  | mls xs =>
    obtain ⟨a, vs, e, h1, h2, h3⟩ := h
    exact ⟨a, vs, e, (hk a _ h2 h1).1, (hk a _ h2 h1).2, Rfs.mono s h3⟩
  | mdc t ks xs =>
    obtain ⟨a, vs, e, h1, h2, h3, h4, h5⟩ := h
    exact ⟨a, vs, e, (hk a _ h2 h1).1, (hk a _ h2 h1).2, h3, h4, Rfs.mono s h5⟩
  | _ => exact Rf.mono s (show Rf K mg F _ v from h)
/-- how the arguments lie at the call -/
def PassR (K : PySem.W.Frag) (mg : Str → Option Value) (F : Hp) (σ : St) (G : GEnv) : List Bool → List RV → List D → List V → Prop
  | true :: ms, .slot i :: r, d :: ds, v :: vs => getS G i = some d ∧ σ[i]? = some (some v) ∧ PassR K mg F σ G ms r ds vs
  | _ :: ms, _ :: r, d :: ds, v :: vs => Rf K mg F d v ∧ PassR K mg F σ G ms r ds vs
  | [], _ :: r, d :: ds, v :: vs => Rf K mg F d v ∧ PassR K mg F σ G [] r ds vs
  | _, [], ds, vs => ds = [] ∧ vs = []
  | _, _, _, _ => False
theorem stk_take : ∀ (r : List RV) (vs : List V) {x y : RV × V} {G1 : GEnv} {d : D}, x = (rv, v) → y = (.val d, v) → At K mg F ow G σ H (stkOf r vs (x :: st)) → take rv G = some (d, G1) →
    ∃ F' ow', At K mg F' ow' G1 σ H (stkOf r vs (y :: st)) ∧ Ext F ow H F' ow' H ∧ Rf K mg F' d v := by
  intro r vs x y G1 d ex ey A e
  subst ex ey
  obtain ⟨pre, ep⟩ := stkOf_pre r vs ((rv, v) :: st)
  have hpre : ∀ (x : RV × V), stkOf r vs (x :: st) = pre ++ x :: st := by
    have gen : ∀ (r : List RV) (vs : List V) (x y : RV × V) (pre s1 : List (RV × V)), stkOf r vs (s1 ++ x :: st) = pre ++ x :: st → stkOf r vs (s1 ++ y :: st) = pre ++ y :: st := by
      intro r
      induction r with
      | nil => intro vs x y pre s1 h; have h' : s1 ++ x :: st = pre ++ x :: st := h; rw [List.append_cancel_right h']; rfl
      | cons a b ih =>
        intro vs x y pre s1 h
        cases vs with
        | nil => have h' : s1 ++ x :: st = pre ++ x :: st := h; rw [List.append_cancel_right h']; rfl
        | cons c d => exact ih d x y pre ((a, c) :: s1) h
    intro x
    exact gen r vs (rv, v) x pre [] ep
  rw [ep] at A
  obtain ⟨F', ow', A2, X2, r2⟩ := A.take e
  exact ⟨F', ow', by rw [hpre]; exact A2, X2, r2⟩
theorem PassR.mono (s : Sub F F') : ∀ {ms : List Bool} {rvs : List RV} {ds : List D} {vs : List V}, PassR K mg F σ G ms rvs ds vs → PassR K mg F' σ G ms rvs ds vs := by
  intro ms rvs
  induction rvs generalizing ms with
  | nil => intro ds vs h; cases ms with | nil => exact h | cons a b => cases a <;> exact h
  | cons rv r ih =>
    intro ds vs h
    cases ds with
    | nil => cases ms with
      | nil => cases rv <;> exact h.elim
      | cons a b => cases a <;> cases rv <;> exact h.elim
    | cons d ds =>
      cases vs with
      | nil => cases ms with
        | nil => cases rv <;> exact h.elim
        | cons a b => cases a <;> cases rv <;> exact h.elim
      | cons v vs =>
        cases ms with
        | nil => cases rv with
          | val z => exact ⟨Rf.mono s h.1, ih h.2⟩
          | slot z => exact ⟨Rf.mono s h.1, ih h.2⟩
        | cons a b =>
          cases a with
          | false => cases rv with
            | val z => exact ⟨Rf.mono s h.1, ih h.2⟩
            | slot z => exact ⟨Rf.mono s h.1, ih h.2⟩
          | true =>
            cases rv with
            | val z => exact ⟨Rf.mono s h.1, ih h.2⟩
            | slot z => exact ⟨h.1, h.2.1, ih h.2.2⟩
theorem passA_plain {ms : List Bool} {rv : RV} {r : List RV} {ds : List D} {G1 : GEnv} (h : passA ms (rv :: r) G = some (ds, G1)) (hm : ms.headD false = false) :
    ∃ d Ga ds', take rv G = some (d, Ga) ∧ passA ms.tail r Ga = some (ds', G1) ∧ ds = d :: ds' := by
  have h' : (match take rv G with
    | some (d, G1) => (passA ms.tail r G1).map fun q => (d :: q.1, q.2)
    | none => none) = some (ds, G1) := by
    cases ms with
    | nil => cases rv <;> exact h
    | cons a b =>
      have ha : a = false := hm
      subst ha
      cases rv <;> exact h
  cases q1 : take rv G with
  | none => rw [q1] at h'; cases h'
  | some p =>
    obtain ⟨d, Ga⟩ := p
    rw [q1] at h'
    obtain ⟨q, e1, e2⟩ := Option.map_eq_some_iff.mp h'
    obtain ⟨ds', Gb⟩ := q
    cases e2
    exact ⟨d, Ga, ds', rfl, e1, rfl⟩
/-- the arguments are handed over -/
theorem At.pass : ∀ {rvs : List RV} {ms : List Bool} {vs : List V} {ds : List D} {F : Hp} {ow : Ows} {G G1 : GEnv} {st : List (RV × V)}, rvs.length = vs.length → At K mg F ow G σ H (stkOf rvs vs st) → passA ms rvs G = some (ds, G1) →
    ∃ F' ow', At K mg F' ow' G1 σ H st ∧ Ext F ow H F' ow' H ∧ PassR K mg F' σ G1 ms rvs ds vs
  | [], ms, [], ds, F, ow, G, G1, st, _, A, e => by
    have e' : some ([], G) = some (ds, G1) := by cases ms with | nil => exact e | cons a b => cases a <;> exact e
    cases e'
    exact ⟨F, ow, A, .refl, by cases ms with | nil => exact ⟨rfl, rfl⟩ | cons a b => cases a <;> exact ⟨rfl, rfl⟩⟩
  | rv :: r, ms, v :: vs, ds, F, ow, G, G1, st, hl, A, e => by
    have A1 : At K mg F ow G σ H (stkOf r vs ((rv, v) :: st)) := A
    by_cases hm : ms.headD false = false
    · obtain ⟨d, Ga, ds', q1, q2, rfl⟩ := passA_plain e hm
      obtain ⟨F1, ow1, A2, X1, r1⟩ := stk_take r vs rfl rfl A1 q1
      obtain ⟨F2, ow2, A3, X2, r2⟩ := At.pass (by simpa using hl) A2 q2
      refine ⟨F2, ow2, A3.pop, X1.trans X2, ?_⟩
      have z := Rf.mono X2.sub r1
      cases ms with
      | nil => cases rv with
        | val y => exact ⟨z, r2⟩
        | slot y => exact ⟨z, r2⟩
      | cons a b =>
        have ha : a = false := hm
        subst ha
        cases rv with
        | val y => exact ⟨z, r2⟩
        | slot y => exact ⟨z, r2⟩
    · cases ms with
      | nil => exact absurd rfl hm
      | cons a b =>
        cases a with
        | false => exact absurd rfl hm
        | true =>
          cases rv with
          | val y => cases e
          | slot i =>
            have e' : (match passA b r G with
              | some (ds, G1) => (getS G1 i).map fun d => (d :: ds, G1)
              | none => none) = some (ds, G1) := e
            cases q2 : passA b r G with
            | none => rw [q2] at e'; cases e'
            | some p =>
              obtain ⟨ds', Gb⟩ := p
              rw [q2] at e'
              obtain ⟨d, e1, e2⟩ := Option.map_eq_some_iff.mp e'
              cases e2
              obtain ⟨F2, ow2, A3, X2, r2⟩ := At.pass (by simpa using hl) A1 q2
              exact ⟨F2, ow2, A3.pop, X2, e1, A3.stk.1, r2⟩

/-! ### who owns what at the call -/
/-- the lent slots, with the callee's places -/
def lentP : Nat → List Bool → List RV → List (Nat × Nat)
  | j, true :: ms, .slot i :: r => (i, j) :: lentP (j + 1) ms r
  | j, _ :: ms, _ :: r => lentP (j + 1) ms r
  | _, _, _ => []
theorem lentP_fst : ∀ (j : Nat) (ms : List Bool) (rvs : List RV), (lentP j ms rvs).map (·.1) = lentS ms rvs
  | _, [], _ => rfl
  | _, true :: _, [] => rfl
  | _, false :: _, [] => rfl
  | j, true :: ms, .slot i :: r => by
    show i :: _ = i :: _
    rw [lentP_fst (j + 1) ms r]
  | j, true :: ms, .val d :: r => lentP_fst (j + 1) ms r
  | j, false :: ms, .slot i :: r => lentP_fst (j + 1) ms r
  | j, false :: ms, .val d :: r => lentP_fst (j + 1) ms r
theorem lentP_ge : ∀ (j : Nat) (ms : List Bool) (rvs : List RV) (p : Nat × Nat), p ∈ lentP j ms rvs → j ≤ p.2
  | _, [], _, _, h => by cases h
  | _, true :: _, [], _, h => by cases h
  | _, false :: _, [], _, h => by cases h
  | j, true :: ms, .slot i :: r, p, h => by
    rcases List.mem_cons.mp (show p ∈ (i, j) :: lentP (j + 1) ms r from h) with e | h
    · subst e; exact Nat.le_refl _
    · have := lentP_ge (j + 1) ms r p h; omega
  | j, true :: ms, .val d :: r, p, h => by have := lentP_ge (j + 1) ms r p h; omega
  | j, false :: ms, .slot i :: r, p, h => by have := lentP_ge (j + 1) ms r p h; omega
  | j, false :: ms, .val d :: r, p, h => by have := lentP_ge (j + 1) ms r p h; omega
def toC (l : List (Nat × Nat)) (i : Nat) : Option Nat := (l.find? fun p => p.1 == i).map (·.2)
def ofC (l : List (Nat × Nat)) (j : Nat) : Option Nat := (l.find? fun p => p.2 == j).map (·.1)
def owC (ow : Ows) (l : List (Nat × Nat)) : Ows := fun a => match ow a with
  | some (.env i) => (toC l i).map .env
  | _ => none
def owB (ow owc owc' : Ows) (l : List (Nat × Nat)) (k : Nat) : Ows := fun a => match owc' a with
  | some (.stk _) => some (.stk k)
  | some (.env j) => (ofC l j).map .env
  | none => if owc a = none then ow a else none
theorem toC_of : ∀ {l : List (Nat × Nat)} {i j : Nat}, (l.map (·.1)).Nodup → (i, j) ∈ l → toC l i = some j
  | (a, b) :: l, i, j, nd, h => by
    unfold toC
    rw [List.find?_cons]
    rcases List.mem_cons.mp h with e | h
    · cases e
      simp
    · have hne : a ≠ i := fun e => by
        subst e
        exact (List.nodup_cons.mp nd).1 (List.mem_map.mpr ⟨(a, j), h, rfl⟩)
      rw [show ((a, b).1 == i) = false from beq_eq_false_iff_ne.mpr hne]
      exact toC_of (List.nodup_cons.mp nd).2 h
theorem ofC_of : ∀ {l : List (Nat × Nat)} {i j : Nat}, (l.map (·.2)).Nodup → (i, j) ∈ l → ofC l j = some i
  | (a, b) :: l, i, j, nd, h => by
    unfold ofC
    rw [List.find?_cons]
    rcases List.mem_cons.mp h with e | h
    · cases e
      simp
    · have hne : b ≠ j := fun e => by
        subst e
        exact (List.nodup_cons.mp nd).1 (List.mem_map.mpr ⟨(i, b), h, rfl⟩)
      rw [show ((a, b).2 == j) = false from beq_eq_false_iff_ne.mpr hne]
      exact ofC_of (List.nodup_cons.mp nd).2 h
theorem lentP_snd : ∀ (j : Nat) (ms : List Bool) (rvs : List RV), ((lentP j ms rvs).map (·.2)).Nodup
  | _, [], _ => .nil
  | _, true :: _, [] => .nil
  | _, false :: _, [] => .nil
  | j, true :: ms, .slot i :: r => by
    show (j :: (lentP (j + 1) ms r).map (·.2)).Nodup
    refine List.nodup_cons.mpr ⟨fun h => ?_, lentP_snd (j + 1) ms r⟩
    obtain ⟨p, hp, e⟩ := List.mem_map.mp h
    have := lentP_ge (j + 1) ms r p hp
    omega
  | j, true :: ms, .val d :: r => lentP_snd (j + 1) ms r
  | j, false :: ms, .slot i :: r => lentP_snd (j + 1) ms r
  | j, false :: ms, .val d :: r => lentP_snd (j + 1) ms r
theorem owC_some {l : List (Nat × Nat)} {a : Addr} (h : owC ow l a ≠ none) : ow a ≠ none := fun e => h (by unfold owC; rw [e])
theorem owC_wd {l : List (Nat × Nat)} (w : Wd F ow H) : Wd F (owC ow l) H := ⟨w.fh, fun a o e => by
  cases q : ow a with
  | none => exact absurd q (owC_some (by rw [e]; simp))
  | some z => exact w.of a z q⟩
/-- from the caller's slots to the callee's -/
theorem args_of (w : Wd F ow H) {l : List (Nat × Nat)} (nd : (l.map (·.1)).Nodup) : ∀ {rvs : List RV} {j : Nat} {ms : List Bool} {ds : List D} {vs : List V}, At K mg F ow G σ H st → (∀ p ∈ lentP j ms rvs, p ∈ l) → PassR K mg F σ G ms rvs ds vs → ArgR K mg F H (owC ow l) j ds vs := by
  intro rvs
  induction rvs with
  | nil =>
    intro j ms ds vs A hl h
    have h' : ds = [] ∧ vs = [] := by cases ms with | nil => exact h | cons a b => cases a <;> exact h
    rw [h'.1, h'.2]; exact rfl
  | cons rv r ih =>
    intro j ms ds vs A hl h
    cases ds with
    | nil => cases ms with
      | nil => cases rv <;> exact h.elim
      | cons a b => cases a <;> cases rv <;> exact h.elim
    | cons d ds =>
      cases vs with
      | nil => cases ms with
        | nil => cases rv <;> exact h.elim
        | cons a b => cases a <;> cases rv <;> exact h.elim
      | cons v vs =>
        cases ms with
        | nil => cases rv with
          | val z => exact ⟨v, vs, rfl, Rp.of h.1, ih A (fun p hp => by cases hp) h.2⟩
          | slot z => exact ⟨v, vs, rfl, Rp.of h.1, ih A (fun p hp => by cases hp) h.2⟩
        | cons a b =>
          cases a with
          | false => cases rv with
            | val z => exact ⟨v, vs, rfl, Rp.of h.1, ih A (fun p hp => hl p hp) h.2⟩
            | slot z => exact ⟨v, vs, rfl, Rp.of h.1, ih A (fun p hp => hl p hp) h.2⟩
          | true =>
            cases rv with
            | val z => exact ⟨v, vs, rfl, Rp.of h.1, ih A (fun p hp => hl p hp) h.2⟩
            | slot i =>
              refine ⟨v, vs, rfl, ?_, ih A (fun p hp => hl p (List.mem_cons_of_mem _ hp)) h.2.2⟩
              obtain ⟨u, h1, h2⟩ := A.env i d h.1
              rw [h.2.1] at h1; cases h1
              have hi : toC l i = some j := toC_of nd (hl (i, j) (List.mem_cons_self))
              exact h2.re (Sub.refl _) fun a x q e => ⟨e, by unfold owC; rw [q]; show (toC l i).map Own.env = _; rw [hi]; rfl⟩
theorem PassR.len : ∀ {rvs : List RV} {ms : List Bool} {ds : List D} {vs : List V}, PassR K mg F σ G ms rvs ds vs → ds.length = vs.length := by
  intro rvs
  induction rvs with
  | nil =>
    intro ms ds vs h
    have h' : ds = [] ∧ vs = [] := by cases ms with | nil => exact h | cons a b => cases a <;> exact h
    rw [h'.1, h'.2] <;> rfl
  | cons rv r ih =>
    intro ms ds vs h
    cases ds with
    | nil => cases ms with
      | nil => cases rv <;> exact h.elim
      | cons a b => cases a <;> cases rv <;> exact h.elim
    | cons d ds =>
      cases vs with
      | nil => cases ms with
        | nil => cases rv <;> exact h.elim
        | cons a b => cases a <;> cases rv <;> exact h.elim
      | cons v vs =>
        have : ∃ ms', PassR K mg F σ G ms' r ds vs := by
          cases ms with
          | nil => cases rv <;> exact ⟨_, h.2⟩
          | cons a b => cases a with
            | false => cases rv <;> exact ⟨_, h.2⟩
            | true => cases rv with
              | val z => exact ⟨_, h.2⟩
              | slot z => exact ⟨_, h.2.2⟩
        obtain ⟨ms', q⟩ := this
        rw [List.length_cons, List.length_cons, ih q]
/-- behind the call: what G holds -/
theorem backA_get : ∀ {rvs : List RV} {j : Nat} {ms : List Bool} {as ds : List D} {vs : List V} {G0 : GEnv}, as.length = vs.length → PassR K mg F σ G0 ms rvs ds vs → (lentS ms rvs).Nodup → BackR K mg F' H' ow' j ms as vs → G.length = G0.length →
    (∀ i, i ∉ lentS ms rvs → getS (backA ms rvs as G) i = getS G i) ∧ (∀ i k, (i, k) ∈ lentP j ms rvs → ∃ d v, getS (backA ms rvs as G) i = some d ∧ σ[i]? = some (some v) ∧ Rp K mg F' H' ow' (.env k) d v) ∧ (backA ms rvs as G).length = G.length := by
  intro rvs
  induction rvs generalizing G with
  | nil =>
    intro j ms as ds vs G0 hl h nd hb hg
    have e1 : backA ms [] as G = G := by cases ms with | nil => rfl | cons a b => cases a <;> rfl
    have e2 : lentP j ms [] = [] := by cases ms with | nil => rfl | cons a b => cases a <;> rfl
    rw [e1, e2]
    exact ⟨fun _ _ => rfl, fun _ _ hm => (by cases hm), rfl⟩
  | cons rv r ih =>
    intro j ms as ds vs G0 hl h nd hb hg
    cases ds with
    | nil => cases ms with
      | nil => cases rv <;> exact h.elim
      | cons a b => cases a <;> cases rv <;> exact h.elim
    | cons d ds =>
      cases vs with
      | nil => cases ms with
        | nil => cases rv <;> exact h.elim
        | cons a b => cases a <;> cases rv <;> exact h.elim
      | cons v vs =>
        cases as with
        | nil => cases hl
        | cons x as =>
          have hl' : as.length = vs.length := by simpa using hl
          cases ms with
          | nil => exact ⟨fun _ _ => rfl, fun _ _ hm => (by cases hm), rfl⟩
          | cons a b =>
            cases a with
            | false =>
              have e1 : backA (false :: b) (rv :: r) (x :: as) G = backA b r as G := by cases rv <;> rfl
              have e2 : lentP j (false :: b) (rv :: r) = lentP (j + 1) b r := by cases rv <;> rfl
              have e3 : lentS (false :: b) (rv :: r) = lentS b r := by cases rv <;> rfl
              rw [e3] at nd
              rw [e1, e2, e3]
              exact ih hl' (by cases rv <;> exact h.2) nd hb hg
            | true =>
              cases rv with
              | val z => exact ih hl' h.2 nd hb.2 hg
              | slot i =>
                have nd' : (i :: lentS b r).Nodup := nd
                obtain ⟨n1, n2⟩ := List.nodup_cons.mp nd'
                have hi : i < G.length := by rw [hg]; exact getS_lt h.1
                obtain ⟨k1, k2, k3⟩ := ih (G := G.set i (some x)) (j := j + 1) hl' h.2.2 n2 hb.2 (by rw [List.length_set]; exact hg)
                refine ⟨fun i' hi' => ?_, fun i' k hm => ?_, ?_⟩
                · have q1 : i' ≠ i := fun e => hi' (by subst e; exact List.mem_cons_self)
                  have q2 : i' ∉ lentS b r := fun e => hi' (List.mem_cons_of_mem _ e)
                  show getS (backA b r as (G.set i (some x))) i' = _
                  rw [k1 i' q2, getS_set_ne (Ne.symm q1)]
                · rcases List.mem_cons.mp (show (i', k) ∈ (i, j) :: lentP (j + 1) b r from hm) with e | hm
                  · cases e
                    refine ⟨x, v, ?_, h.2.1, hb.1⟩
                    show getS (backA b r as (G.set i (some x))) i = _
                    rw [k1 i n1, getS_set_self hi]
                  · exact k2 i' k hm
                · show (backA b r as (G.set i (some x))).length = _
                  rw [k3, List.length_set]

/-- THE CALL: the callee's promise, from the caller's state -/
theorem call_core {md : List Bool} {rvs : List RV} {vs : List V} {ds : List D} {G1 : GEnv} {cal : List D → FR} {np : Nat} {E : XK} {Q' : VK} (hl : rvs.length = vs.length) (hnp : vs.length = np) (A : At K mg F ow G σ H (stkOf rvs vs st)) (e : passA md rvs G = some (ds, G1)) (nd : (lentS md rvs).Nodup)
    (h : match cal ds with
      | .ret d as => as.length = vs.length ∧ (∀ v F' ow' H', At K mg F' ow' (backA md rvs as G1) σ H' ((.val d, v) :: st) → Ext F ow H F' ow' H' → Q' v H')
      | .ex c es as => as.length = vs.length ∧ (∀ cls dd F' ow' H', XV K mg xf F' c es cls dd → At K mg F' ow' (backA md rvs as G1) σ H' st → Ext F ow H F' ow' H' → E cls dd H')
      | .no => False) : spF K mg xf np md cal vs H Q' E := by
  obtain ⟨F1, ow1, A1, X1, pr⟩ := A.pass hl e
  have ndl : ((lentP 0 md rvs).map (·.1)).Nodup := by rw [lentP_fst]; exact nd
  refine ⟨F1, owC ow1 (lentP 0 md rvs), ds, owC_wd A1.wd, hnp, args_of A1.wd ndl A1 (fun _ hp => hp) pr, ?_⟩
  -- the world behind the call
  have back : ∀ {as : List D} {F' : Hp} {owc' : Ows} {H' : Hp}, as.length = vs.length → Wd F' owc' H' → BackR K mg F' H' owc' 0 md as vs → Ext F1 (owC ow1 (lentP 0 md rvs)) H F' owc' H' →
      Ext F ow H F' (owB ow1 (owC ow1 (lentP 0 md rvs)) owc' (lentP 0 md rvs) st.length) H' ∧ At K mg F' (owB ow1 (owC ow1 (lentP 0 md rvs)) owc' (lentP 0 md rvs) st.length) (backA md rvs as G1) σ H' st := by
    intro as F' owc' H' hlen w' hb X
    generalize hL : lentP 0 md rvs = L at *
    obtain ⟨k1, k2, k3⟩ := backA_get (G := G1) (j := 0) hlen pr nd hb rfl
    rw [hL] at k2
    -- an address that the callee does not own, which the caller owns
    have stay : ∀ a z, ow1 a = some z → owC ow1 L a = none → owc' a = none ∧ owB ow1 (owC ow1 L) owc' L st.length a = some z ∧ (∀ x, H a = some x → H' a = some x) := by
      intro a z hz hc
      have hn : H a ≠ none := (A1.wd.of a z hz).2
      have h1 : owc' a = none := by
        cases q : owc' a with
        | none => rfl
        | some y =>
          rcases X.newO a (by rw [q]; simp) with q1 | q1
          · exact absurd q1 hn
          · exact absurd hc q1
      refine ⟨h1, ?_, fun x hx => X.keep a x hx hc⟩
      show (match owc' a with
        | some (.stk _) => some (.stk st.length)
        | some (.env j) => (ofC L j).map .env
        | none => if owC ow1 L a = none then ow1 a else none) = some z
      rw [h1]
      show (if owC ow1 L a = none then ow1 a else none) = some z
      rw [if_pos hc]
      exact hz
    have notC : ∀ a i, ow1 a = some (.env i) → i ∉ lentS md rvs → owC ow1 L a = none := by
      intro a i hz hi
      unfold owC
      rw [hz]
      show (toC L i).map Own.env = none
      have : toC L i = none := by
        cases q : toC L i with
        | none => rfl
        | some k =>
          unfold toC at q
          obtain ⟨p, hp, _⟩ := Option.map_eq_some_iff.mp q
          have hm := List.mem_of_find?_eq_some hp
          have he := List.find?_some hp
          have : p.1 = i := by simpa using he
          exact absurd (by rw [← lentP_fst 0 md rvs, hL]; exact List.mem_map.mpr ⟨p, hm, this⟩) hi
      rw [this] <;> rfl
    have notS : ∀ a k, ow1 a = some (.stk k) → owC ow1 L a = none := by
      intro a k hz
      unfold owC
      rw [hz]
    refine ⟨X1.trans ⟨X.sub, fun a x hx ho => X.keep a x hx (by cases q : owC ow1 L a with | none => rfl | some z => exact absurd ho (owC_some (by rw [q]; simp))), fun a ha => ?_, fun a ha => ?_⟩, ⟨⟨w'.fh, fun a z hz => ?_⟩, by rw [k3]; exact A1.ln, fun i d hd => ?_, ?_⟩⟩
    · rcases X.newF a ha with q | q | q
      · exact .inl q
      · exact .inr (.inl q)
      · exact .inr (.inr (owC_some q))
    · cases q : owc' a with
      | some y =>
        rcases X.newO a (by rw [q]; simp) with q1 | q1
        · exact .inl q1
        · exact .inr (owC_some q1)
      | none =>
        refine .inr fun h0 => ha ?_
        show (match owc' a with
          | some (.stk _) => some (.stk st.length)
          | some (.env j) => (ofC L j).map .env
          | none => if owC ow1 L a = none then ow1 a else none) = none
        rw [q]
        show (if owC ow1 L a = none then ow1 a else none) = none
        split
        · exact h0
        · rfl
    · have hz' : (match owc' a with
        | some (.stk _) => some (.stk st.length)
        | some (.env j) => (ofC L j).map .env
        | none => if owC ow1 L a = none then ow1 a else none) = some z := hz
      cases q : owc' a with
      | some y => exact w'.of a y q
      | none =>
        rw [q] at hz'
        have hz2 : (if owC ow1 L a = none then ow1 a else none) = some z := hz'
        split at hz2
        · rename_i hc
          obtain ⟨f1, f2⟩ := A1.wd.of a z hz2
          cases hq : H a with
          | none => exact absurd hq f2
          | some x =>
            refine ⟨?_, by rw [X.keep a x hq hc]; simp⟩
            cases hf : F' a with
            | none => rfl
            | some y =>
              rcases X.newF a (by rw [hf]; simp) with r | r | r
              · exact absurd f1 r
              · exact absurd r f2
              · exact absurd hc r
        · cases hz2
    · by_cases hi : i ∈ lentS md rvs
      · rw [← lentP_fst 0 md rvs, hL] at hi
        obtain ⟨p, hp, e1⟩ := List.mem_map.mp hi
        obtain ⟨i', k⟩ := p
        have e1' : i' = i := e1
        subst e1'
        obtain ⟨d', v', g1, g2, g3⟩ := k2 i' k hp
        rw [hd] at g1; cases g1
        refine ⟨v', g2, g3.re (Sub.refl _) fun a x q ex => ⟨ex, ?_⟩⟩
        show (match owc' a with
          | some (.stk _) => some (.stk st.length)
          | some (.env j) => (ofC L j).map .env
          | none => if owC ow1 L a = none then ow1 a else none) = some (.env i')
        rw [q]
        show (ofC L k).map Own.env = some (.env i')
        rw [ofC_of (by rw [← hL]; exact lentP_snd 0 md rvs) hp] <;> rfl
      · rw [k1 i hi] at hd
        obtain ⟨u, h1, h2⟩ := A1.env i d hd
        refine ⟨u, h1, h2.mono X.sub fun a x q ex => ?_⟩
        obtain ⟨_, s2, s3⟩ := stay a (.env i) q (notC a i q hi)
        exact ⟨s3 x ex, s2⟩
    · refine A1.stk.mono X.sub fun k hk a x q ex => ?_
      obtain ⟨_, s2, s3⟩ := stay a (.stk k) q (notS a k q)
      exact ⟨s3 x ex, s2⟩
  cases ec : cal ds with
  | no => rw [ec] at h; exact h
  | ret d as =>
    rw [ec] at h
    refine ⟨h.1, fun v F' owc' H' w' r hb X => ?_⟩
    obtain ⟨X', A'⟩ := back h.1 w' hb X
    refine h.2 v F' _ H' (A'.push ?_) X'
    exact Rp.re (Sub.refl _) (fun a x q ex => ⟨ex, by
      show (match owc' a with
        | some (.stk _) => some (Own.stk st.length)
        | some (.env j) => (ofC (lentP 0 md rvs) j).map .env
        | none => if owC ow1 (lentP 0 md rvs) a = none then ow1 a else none) = some (.stk st.length)
      rw [q]⟩) r
  | ex c es as =>
    rw [ec] at h
    refine ⟨h.1, fun cls dd F' owc' H' xv w' hb X => ?_⟩
    obtain ⟨X', A'⟩ := back h.1 w' hb X
    exact h.2 cls dd F' _ H' xv A' X'
end
end Dv
end
section
set_option Elab.async false
set_option linter.all false
set_option maxRecDepth 100000
set_option maxHeartbeats 2000000
/-! Dv9: readings of calls, methods, targets, statements. -/
namespace Dv
open PySem L2
section
variable {K : PySem.W.Frag} {mg : Str → Option Value} {xf : Str → List Str} {W : WX} {C : Ctx} {F F' F1 F2 H H' H1 H2 : Hp} {ow ow' ow1 ow2 : Ows} {G : GEnv} {σ σ' σ1 : St} {st pre : List (RV × V)} {o o' : Own} {d : D} {v : V} {rv : RV} {Q : VK}
variable {fa fb fc : GEnv → R RV} {fs : GEnv → R (List RV)} {ft : GEnv → R Bool}

/-! ### calls -/
/-- a call's answer fits -/
def CalOk (cal : List D → FR) (np : Nat) : Prop := ∀ ds, match cal ds with
  | .ret _ as => ds.length = np ∧ as.length = np
  | .ex _ _ as => ds.length = np ∧ as.length = np
  | .no => True
theorem passA_len : ∀ {rvs : List RV} {ms : List Bool} {G G1 : GEnv} {ds : List D}, passA ms rvs G = some (ds, G1) → ds.length = rvs.length
  | [], ms, G, G1, ds, e => by
    have e' : some ([], G) = some (ds, G1) := by cases ms with | nil => exact e | cons a b => cases a <;> exact e
    cases e' <;> rfl
  | rv :: r, ms, G, G1, ds, e => by
    by_cases hm : ms.headD false = false
    · obtain ⟨d, Ga, ds', q1, q2, rfl⟩ := passA_plain e hm
      rw [List.length_cons, List.length_cons, passA_len q2]
    · cases ms with
      | nil => exact absurd rfl hm
      | cons a b =>
        cases a with
        | false => exact absurd rfl hm
        | true =>
          cases rv with
          | val y => cases e
          | slot i =>
            have e' : (match passA b r G with
              | some (ds, G1) => (getS G1 i).map fun d => (d :: ds, G1)
              | none => none) = some (ds, G1) := e
            cases q2 : passA b r G with
            | none => rw [q2] at e'; cases e'
            | some p =>
              obtain ⟨ds', Gb⟩ := p
              rw [q2] at e'
              obtain ⟨d, e1, e2⟩ := Option.map_eq_some_iff.mp e'
              cases e2
              rw [List.length_cons, List.length_cons, passA_len q2]
theorem r_call {f : Str} {np : Nat} (ok : CalOk (C.cal f) np) (h : tOf K mg xf W (fun G => (fs G).bind fun rvs G1 => callE C f rvs G1) σ H Q) :
    tCallS (spF K mg xf np (C.md f) (C.cal f)) (WE W) (tOfA K mg xf W fs) σ H Q := by
  obtain ⟨F, ow, G, st, A, h⟩ := h
  refine run_A (pre := []) A mono_E h fun F1 ow1 H1 G1 rvs vs hl A1 h1 => ?_
  have h2 : Fin K mg xf W σ st (pE K mg σ st Q) F1 ow1 H1 (match passA (C.md f) rvs G1 with
    | none => .no
    | some (ds, G1) => if (lentS (C.md f) rvs).Nodup then (match C.cal f ds with
      | .ret d as => .ok (.val d) (backA (C.md f) rvs as G1)
      | .ex c es as => .ex c es (backA (C.md f) rvs as G1)
      | .no => .no) else .no) := h1
  cases e : passA (C.md f) rvs G1 with
  | none => rw [e] at h2; exact h2.elim
  | some p =>
    obtain ⟨ds, G2⟩ := p
    rw [e] at h2
    have h3 : Fin K mg xf W σ st (pE K mg σ st Q) F1 ow1 H1 (if (lentS (C.md f) rvs).Nodup then (match C.cal f ds with
      | .ret d as => .ok (.val d) (backA (C.md f) rvs as G2)
      | .ex c es as => .ex c es (backA (C.md f) rvs as G2)
      | .no => .no) else .no) := h2
    by_cases nd : (lentS (C.md f) rvs).Nodup
    · rw [if_pos nd] at h3
      have ok' := ok ds
      have hlen := passA_len e
      cases ec : C.cal f ds with
      | no => rw [ec] at h3; exact h3.elim
      | ret d as =>
        rw [ec] at h3 ok'
        have hnp : vs.length = np := by rw [← hl, ← hlen]; exact ok'.1
        refine call_core (st := st) hl hnp A1 e nd ?_
        rw [ec]
        exact ⟨by rw [ok'.2, hnp], fun v F' ow' H' A' X' => h3 v F' ow' H' A' X'⟩
      | ex c es as =>
        rw [ec] at h3 ok'
        have hnp : vs.length = np := by rw [← hl, ← hlen]; exact ok'.1
        refine call_core (st := st) hl hnp A1 e nd ?_
        rw [ec]
        exact ⟨by rw [ok'.2, hnp], fun cls dd F' ow' H' xv A' X' => h3 cls dd F' ow' H' xv A' X'⟩
    · rw [if_neg nd] at h3; exact h3.elim

/-! ### methods of lists -/
def rMt : Mt → V → List V → Hp → VK → Prop
  | .append => rAppend
  | .extend => rExtend
  | .pop => fun x vs H Q => rPop x vs H Q ∨ rPopAt x vs H Q
theorem Rfs.one' {d : D} {vs : List V} (h : Rfs K mg F [d] vs) : ∃ v, vs = [v] ∧ Rf K mg F d v := by
  obtain ⟨v, r, e, h1, h2⟩ := h
  rw [show r = [] from h2] at e
  exact ⟨v, e, h1⟩
theorem mt_ok {m : Mt} {a : Addr} {xs : List D} {us vs : List V} {ds : List D} {r : D} {xs' : List D} (w : Wd F ow H) (hH : H a = some (.lst us)) (hr : Rfs K mg F xs us) (hv : v = .ref a) (hd : Rfs K mg F ds vs) (e : mtL m xs ds = some (r, xs'))
    (q : ∀ u us', Rf K mg F r u → Rfs K mg F xs' us' → Q u (upd H a (.lst us'))) : rMt m v vs H Q := by
  have one : ∀ {x : D}, ds = [x] → ∃ y, vs = [y] ∧ Rf K mg F x y := fun {x} ex => by rw [ex] at hd; exact hd.one'
  cases m with
  | append =>
    cases ds with
    | nil => cases e
    | cons x t =>
      cases t with
      | cons _ _ => cases e
      | nil =>
        obtain ⟨y, rfl, h1⟩ := one rfl
        have e' : (if decide (xs.length < sizeLine) = true then some (D.non, xs ++ [x]) else none) = some (r, xs') := e
        split at e'
        · cases e'
          exact ⟨a, us, y, hv, rfl, hH, by rw [hr.len]; exact of_decide_eq_true ‹_›, q _ _ rfl (hr.append (.one h1))⟩
        · cases e'
  | extend =>
    cases ds with
    | nil => cases e
    | cons x t =>
      cases t with
      | cons _ _ => cases e
      | nil =>
        obtain ⟨y, rfl, h1⟩ := one rfl
        cases x with
        | lst ys =>
          obtain ⟨b, zs, rfl, h2, h3⟩ := h1
          have e' : (if decide (xs.length + ys.length ≤ sizeLine) = true then some (D.non, xs ++ ys) else none) = some (r, xs') := e
          split at e'
          · cases e'
            exact ⟨a, b, us, zs, hv, rfl, hH, w.fh _ _ h2, by rw [hr.len, h3.len]; exact of_decide_eq_true ‹_›, q _ _ rfl (hr.append h3)⟩
          · cases e'
        | _ => cases e
  | pop =>
    cases ds with
    | nil =>
      rw [show vs = [] from hd]
      obtain ⟨y, g, e2⟩ := Option.map_eq_some_iff.mp (show (xs[xs.length - 1]?).map (fun y => (y, xs.dropLast)) = some (r, xs') from e)
      cases e2
      obtain ⟨u, g1, g2⟩ := hr.get g
      exact .inl ⟨a, us, u, hv, rfl, hH, by rw [hr.len]; exact g1, q _ _ g2 hr.dropLast⟩
    | cons x t =>
      cases t with
      | cons _ _ => cases e
      | nil =>
        obtain ⟨y, rfl, h1⟩ := one rfl
        cases x with
        | int i =>
          rw [show y = .int i from h1]
          have e' : (if (decide (-(2 ^ 63) ≤ i) && decide (i < 2 ^ 63)) = true then (PySem.seqIndex? i xs.length).bind (fun k => (xs[k]?).map fun y => (y, xs.eraseIdx k)) else none) = some (r, xs') := e
          split at e'
          · rename_i hb
            rw [Bool.and_eq_true, decide_eq_true_eq, decide_eq_true_eq] at hb
            obtain ⟨k, g0, e2⟩ := Option.bind_eq_some_iff.mp e'
            obtain ⟨y, g, e3⟩ := Option.map_eq_some_iff.mp e2
            cases e3
            obtain ⟨u, g1, g2⟩ := hr.get g
            exact .inr ⟨a, us, i, k, u, hv, rfl, hH, hb.1, hb.2, by rw [hr.len]; exact g0, g1, q _ _ g2 (hr.erase k)⟩
          · cases e'
        | _ => cases e
theorem r_mt {m : Mt} {i : Nat} (h : tOf K mg xf W (fun G => match getS G i with
      | some (.mls _) => (fs G).bind fun rvs G1 => (match takes rvs G1 with
        | some (ds, G2) => (match getS G2 i with
          | some d => (match mtD m d ds with
            | some (r, d') => .ok (.val r) (G2.set i (some d'))
            | none => .no)
          | none => .no)
        | none => .no)
      | _ => .no) σ H Q) : tBM K "list" (rMt m) (tVar i) (tOfA K mg xf W fs) σ H Q := by
  obtain ⟨F, ow, G, st, A, h⟩ := h
  dsimp only at h
  cases e0 : getS G i with
  | none => rw [e0] at h; exact h.elim
  | some d0 =>
    cases d0 with
    | mls xs0 =>
      rw [e0] at h
      obtain ⟨v, hv, a0, us0, e1, hH0, ho0, hr0⟩ := A.env i _ e0
      refine ⟨v, hv, by rw [e1]; exact Or.inl ⟨rfl, us0, SqL.of hH0⟩, ?_⟩
      have h' : Fin K mg xf W σ st (pE K mg σ st Q) F ow H ((fs G).bind fun rvs G1 => (match takes rvs G1 with
        | some (ds, G2) => (match getS G2 i with
          | some d => (match mtD m d ds with
            | some (r, d') => .ok (.val r) (G2.set i (some d'))
            | none => .no)
          | none => .no)
        | none => .no)) := h
      refine run_A (pre := []) A mono_E h' fun F1 ow1 H1 G1 rvs vs hl A1 h1 => ?_
      cases e2 : takes rvs G1 with
      | none => rw [e2] at h1; exact h1.elim
      | some p =>
        obtain ⟨ds, G2⟩ := p
        rw [e2] at h1
        obtain ⟨F2, ow2, A2, X2, r2⟩ := At.takes hl A1 e2
        have h2 : Fin K mg xf W σ st (pE K mg σ st Q) F1 ow1 H1 (match getS G2 i with
          | some d => (match mtD m d ds with
            | some (r, d') => .ok (.val r) (G2.set i (some d'))
            | none => .no)
          | none => .no) := h1
        cases e3 : getS G2 i with
        | none => rw [e3] at h2; exact h2.elim
        | some d =>
          rw [e3] at h2
          have h3 : Fin K mg xf W σ st (pE K mg σ st Q) F1 ow1 H1 (match mtD m d ds with
            | some (r, d') => .ok (.val r) (G2.set i (some d'))
            | none => .no) := h2
          cases e4 : mtD m d ds with
          | none => rw [e4] at h3; exact h3.elim
          | some p =>
            obtain ⟨r, d'⟩ := p
            rw [e4] at h3
            cases d with
            | mls xs =>
              obtain ⟨v2, hv2, a, us, e5, hH, ho, hr⟩ := A2.env i _ e3
              rw [hv] at hv2; cases hv2
              obtain ⟨⟨r', xs'⟩, e6, e7⟩ := Option.map_eq_some_iff.mp (show (mtL m xs ds).map (fun q => (q.1, D.mls q.2)) = some (r, d') from e4)
              cases e7
              refine mt_ok A2.wd hH hr e5 r2 e6 fun u us' ru rs' => ?_
              have A3 := A2.popsOf.updS (x := .lst us') (d' := .mls xs') ho (getS_lt e3) hv ⟨a, us', e5, upd_same, ho, rs'⟩
              exact h3 u F2 ow2 _ (A3.pushF ru) (X2.trans (upd_ext ho))
            | _ => cases e4
    | _ => rw [e0] at h; exact h.elim

/-! ### targets -/
mutual
def gOf (K : PySem.W.Frag) : Tgt → TG
  | .name i => gName i
  | .tup ts => gTup K (Tgts.len ts) (gsOf K ts)
def gsOf (K : PySem.W.Frag) : Tgts → TGs
  | .nil => gNil
  | .cons t r => gCons (gOf K t) (gsOf K r)
def Tgts.len : Tgts → Nat
  | .nil => 0
  | .cons _ r => Tgts.len r + 1
end
def PrEq (p : Nat → Bool) (σ σ' : St) : Prop := ∀ i, p i = true → σ'[i]? = σ[i]?
theorem PrEq.refl (p : Nat → Bool) : PrEq p σ σ := fun _ _ => rfl
theorem PrEq.trans {p : Nat → Bool} (a : PrEq p σ σ1) (b : PrEq p σ1 σ') : PrEq p σ σ' := fun i h => (b i h).trans (a i h)
theorem PrEq.set {p : Nat → Bool} {i : Nat} {x : Option V} (h : p i = false) : PrEq p σ (σ.set i x) := fun j hj => by
  rw [List.getElem?_set_ne (by intro e; subst e; rw [h] at hj; cases hj)]
mutual
def Tgt.slots : Tgt → List Nat
  | .name i => [i]
  | .tup ts => Tgts.slots ts
def Tgts.slots : Tgts → List Nat
  | .nil => []
  | .cons t r => Tgt.slots t ++ Tgts.slots r
end
def SlEq (l : List Nat) (σ σ' : St) : Prop := σ'.length = σ.length ∧ ∀ i, i ∉ l → σ'[i]? = σ[i]?
mutual
theorem asg_ok {Q' : St → Hp → Prop} (hs : noSlot st) : ∀ {tg : Tgt} {d : D} {v : V} {σ : St} {G G1 : GEnv} {ow : Ows}, At K mg F ow G σ H st → Rf K mg F d v → asgG tg d G = some G1 →
    (∀ σ' ow', At K mg F ow' G1 σ' H st → Ext F ow H F ow' H → SlEq tg.slots σ σ' → Q' σ' H) → gOf K tg v σ H Q'
  | .name i, d, v, σ, G, G1, ow, A, r, e, q => by
    have e' : (if i < G.length then some (G.set i (some d)) else none) = some G1 := e
    split at e'
    · cases e'
      exact q _ _ ((A.pushF r).bind hs ‹_›) mov_ext ⟨List.length_set, fun j hj => List.getElem?_set_ne (fun z => hj (by rw [z]; exact List.mem_singleton.mpr rfl))⟩
    · cases e'
  | .tup ts, d, v, σ, G, G1, ow, A, r, e, q => by
    cases d with
    | tup ds =>
      obtain ⟨a, vs, e1, h1, h2⟩ := r
      have e' : asgsG ts ds G = some G1 := e
      obtain ⟨q1, q2⟩ := asgs_ok (Q' := Q') hs A h2 e' q
      exact ⟨a, vs, e1, A.wd.fh.sqT h1, q1, q2⟩
    | _ => cases e
theorem asgs_ok {Q' : St → Hp → Prop} (hs : noSlot st) : ∀ {ts : Tgts} {ds : List D} {vs : List V} {σ : St} {G G1 : GEnv} {ow : Ows}, At K mg F ow G σ H st → Rfs K mg F ds vs → asgsG ts ds G = some G1 →
    (∀ σ' ow', At K mg F ow' G1 σ' H st → Ext F ow H F ow' H → SlEq ts.slots σ σ' → Q' σ' H) → vs.length = ts.len ∧ gsOf K ts vs σ H Q'
  | .nil, ds, vs, σ, G, G1, ow, A, r, e, q => by
    cases ds with
    | nil =>
      have e' : some G = some G1 := e
      cases e'
      have : vs = [] := r
      exact ⟨by rw [this]; rfl, this, q _ _ A .refl ⟨rfl, fun _ _ => rfl⟩⟩
    | cons x xs => cases e
  | .cons t rt, ds, vs, σ, G, G1, ow, A, r, e, q => by
    cases ds with
    | nil => cases e
    | cons x xs =>
      obtain ⟨v, r', e1, h1, h2⟩ := r
      subst e1
      have e' : (match asgG t x G with
        | some G1 => asgsG rt xs G1
        | none => none) = some G1 := e
      cases e2 : asgG t x G with
      | none => rw [e2] at e'; cases e'
      | some G2 =>
        rw [e2] at e'
        have e3 : asgsG rt xs G2 = some G1 := e'
        have len : r'.length = rt.len := by
          have gen : ∀ {rt : Tgts} {xs : List D} {r' : List V} {G2 G1 : GEnv}, Rfs K mg F xs r' → asgsG rt xs G2 = some G1 → r'.length = rt.len := by
            intro rt
            induction rt using Tgts.rec (motive_1 := fun _ => True) with
            | name _ => trivial
            | tup _ _ => trivial
            | nil =>
              intro xs r' G2 G1 h e
              cases xs with
              | nil => rw [show r' = [] from h]; rfl
              | cons _ _ => cases e
            | cons t r _ ih =>
              intro xs r' G2 G1 h e
              cases xs with
              | nil => cases e
              | cons x xs =>
                obtain ⟨v, w, e1, _, h2⟩ := h
                have e' : (match asgG t x G2 with
                  | some G1 => asgsG r xs G1
                  | none => none) = some G1 := e
                cases e2 : asgG t x G2 with
                | none => rw [e2] at e'; cases e'
                | some G3 =>
                  rw [e2] at e'
                  rw [e1]
                  show w.length + 1 = Tgts.len r + 1
                  rw [ih h2 e']
          exact gen h2 e3
        refine ⟨by show r'.length + 1 = Tgts.len rt + 1; rw [len], v, r', rfl, ?_⟩
        refine asg_ok hs A h1 e2 fun σ1 ow1 A1 X1 S1 => ?_
        refine (asgs_ok hs A1 h2 e3 fun σ2 ow2 A2 X2 S2 => ?_).2
        exact q σ2 ow2 A2 (X1.trans X2) ⟨S2.1.trans S1.1, fun i hi => (S2.2 i (fun z => hi (List.mem_append_right _ z))).trans (S1.2 i (fun z => hi (List.mem_append_left _ z)))⟩
end
mutual
theorem prot_slots {p : Nat → Bool} : ∀ {tg : Tgt}, protT p tg = true → ∀ i ∈ tg.slots, p i = false
  | .name j, h, i, hi => by
    have e : i = j := List.mem_singleton.mp hi
    subst e
    simpa [protT] using h
  | .tup ts, h, i, hi => prots_slots (show protTs p ts = true from h) i hi
theorem prots_slots {p : Nat → Bool} : ∀ {ts : Tgts}, protTs p ts = true → ∀ i ∈ ts.slots, p i = false
  | .nil, _, i, hi => by cases hi
  | .cons t r, h, i, hi => by
    have h' : (protT p t && protTs p r) = true := h
    rw [Bool.and_eq_true] at h'
    rcases List.mem_append.mp (show i ∈ t.slots ++ r.slots from hi) with q | q
    · exact prot_slots h'.1 i q
    · exact prots_slots h'.2 i q
end
theorem SlEq.pr {p : Nat → Bool} {l : List Nat} (s : SlEq l σ σ') (h : ∀ i ∈ l, p i = false) : PrEq p σ σ' := fun i hi => s.2 i fun z => by rw [h i z] at hi; cases hi
end
end Dv
end
section
set_option Elab.async false
set_option linter.all false
set_option maxRecDepth 100000
set_option maxHeartbeats 2000000
/-! Dv10: readings of statements. -/
namespace Dv
open PySem L2
section
variable (K : PySem.W.Frag) (mg : Str → Option Value) (xf : Str → List Str) (W : WX) (p : Nat → Bool)
def pS (En : Ends) (σ : St) : Hp → Ows → Hp → Flo → GEnv → Prop := fun F ow H f G => match f with
  | .nx => ∀ σ' F' ow' H', At K mg F' ow' G σ' H' [] → PrEq p σ σ' → Ext F ow H F' ow' H' → En.nx σ' H'
  | .bk => ∀ σ' F' ow' H', At K mg F' ow' G σ' H' [] → PrEq p σ σ' → Ext F ow H F' ow' H' → En.bk σ' H'
  | .ct => ∀ σ' F' ow' H', At K mg F' ow' G σ' H' [] → PrEq p σ σ' → Ext F ow H F' ow' H' → En.ct σ' H'
  | .rt d => ∀ v σ' F' ow' H', At K mg F' ow' G σ' H' [(.val d, v)] → PrEq p σ σ' → Ext F ow H F' ow' H' → En.rt v H'
def FinS (En : Ends) (σ : St) (F : Hp) (ow : Ows) (H : Hp) (r : R Flo) : Prop := match r with
  | .ok f G => pS K mg p En σ F ow H f G
  | .ex c ds G => ∀ cls dd σ' F' ow' H', XV K mg xf F' c ds cls dd → At K mg F' ow' G σ' H' [] → PrEq p σ σ' → Ext F ow H F' ow' H' → W cls dd σ' H'
  | .no => False
def tOfS (f : GEnv → R Flo) : TS := fun En σ H => ∃ F ow G, At K mg F ow G σ H [] ∧ FinS K mg xf W p En σ F ow H (f G)
/-- a walk gives these data -/
structure JW (J : It) (F0 : Hp) (ds : List D) : Prop where
  go : ∀ i H, i < ds.length → Sub F0 H → J.go i H
  stop : ∀ H, Sub F0 H → J.stop ds.length H
  yld : ∀ i F ow H x H', i < ds.length → Sub F0 F → Wd F ow H → J.yld i H x H' → ∃ F' d, ds[i]? = some d ∧ Grow F ow H F' ow H' ∧ Rf K mg F' d x
def pI (σ : St) (st : List (RV × V)) (Q : It → Hp → Prop) : Post (List D) := fun F ow H ds G => ∀ J F' ow' H', At K mg F' ow' G σ H' st → Ext F ow H F' ow' H' → JW K mg J F' ds → Q J H'
def tOfI (f : GEnv → R (List D)) : TI := fun σ H Q => ∃ F ow G st, At K mg F ow G σ H st ∧ Fin K mg xf W σ st (pI K mg σ st Q) F ow H (f G)
end
section
variable {K : PySem.W.Frag} {mg : Str → Option Value} {xf : Str → List Str} {W : WX} {p : Nat → Bool} {C : Ctx} {F F' F1 F2 H H' H1 H2 : Hp} {ow ow' ow1 ow2 : Ows} {G : GEnv} {σ σ' σ1 : St} {st pre : List (RV × V)} {o o' : Own} {d : D} {v : V} {rv : RV} {Q : VK} {En : Ends} {β : Type} {P : Post β}
variable {fa fb fc fe : GEnv → R RV} {fs : GEnv → R (List RV)} {ft : GEnv → R Bool} {fi : GEnv → R (List D)} {f g : GEnv → R Flo}

theorem mono_I {Q : It → Hp → Prop} : Mono (pI K mg σ st Q) := fun _ _ _ _ _ _ _ _ x p J F' ow' H' a y => p J F' ow' H' a (x.trans y)
theorem FinS.ext {r : R Flo} (h : FinS K mg xf W p En σ F ow H r) (e : PrEq p σ σ1) (x : Ext F ow H F1 ow1 H1) : FinS K mg xf W p En σ1 F1 ow1 H1 r := by
  cases r with
  | ok f G => cases f with
    | nx => exact fun σ' F' ow' H' a b c => h σ' F' ow' H' a (e.trans b) (x.trans c)
    | bk => exact fun σ' F' ow' H' a b c => h σ' F' ow' H' a (e.trans b) (x.trans c)
    | ct => exact fun σ' F' ow' H' a b c => h σ' F' ow' H' a (e.trans b) (x.trans c)
    | rt d => exact fun v σ' F' ow' H' a b c => h v σ' F' ow' H' a (e.trans b) (x.trans c)
  | ex c ds G => exact fun cls dd σ' F' ow' H' xv a b c => h cls dd σ' F' ow' H' xv a (e.trans b) (x.trans c)
  | no => exact h
/-- an expression within a statement -/
theorem run_ES {k : RV → GEnv → R Flo} {R2 : VK} (A : At K mg F ow G σ H []) (h : FinS K mg xf W p En σ F ow H ((fa G).bind k))
    (hk : ∀ F1 ow1 H1 G1 x v, At K mg F1 ow1 G1 σ H1 [(x, v)] → FinS K mg xf W p En σ F1 ow1 H1 (k x G1) → R2 v H1) : tOf K mg xf W fa σ H R2 := by
  refine ⟨F, ow, G, [], A, ?_⟩
  cases e : fa G with
  | no => rw [e] at h; exact h
  | ok x G1 =>
    rw [e] at h
    exact fun v F1 ow1 H1 A1 x1 => hk F1 ow1 H1 G1 x v A1 (FinS.ext h (.refl p) x1)
  | ex c ds G1 =>
    rw [e] at h
    exact fun cls dd F' ow' H' e A y => h cls dd σ F' ow' H' e A (.refl p) y
theorem run_TS {k : Bool → GEnv → R Flo} {R2 : Bool → Hp → Prop} (A : At K mg F ow G σ H []) (h : FinS K mg xf W p En σ F ow H ((ft G).bind k))
    (hk : ∀ F1 ow1 H1 G1 x, At K mg F1 ow1 G1 σ H1 [] → FinS K mg xf W p En σ F1 ow1 H1 (k x G1) → R2 x H1) : tOfT K mg xf W ft σ H R2 := by
  refine ⟨F, ow, G, [], A, ?_⟩
  cases e : ft G with
  | no => rw [e] at h; exact h
  | ok x G1 =>
    rw [e] at h
    exact fun F1 ow1 H1 A1 x1 => hk F1 ow1 H1 G1 x A1 (FinS.ext h (.refl p) x1)
  | ex c ds G1 =>
    rw [e] at h
    exact fun cls dd F' ow' H' e A y => h cls dd σ F' ow' H' e A (.refl p) y
theorem run_AS {k : List RV → GEnv → R Flo} {R2 : List V → Hp → Prop} (A : At K mg F ow G σ H []) (h : FinS K mg xf W p En σ F ow H ((fs G).bind k))
    (hk : ∀ F1 ow1 H1 G1 rvs vs, rvs.length = vs.length → At K mg F1 ow1 G1 σ H1 (stkOf rvs vs []) → FinS K mg xf W p En σ F1 ow1 H1 (k rvs G1) → R2 vs H1) : tOfA K mg xf W fs σ H R2 := by
  refine ⟨F, ow, G, [], A, ?_⟩
  cases e : fs G with
  | no => rw [e] at h; exact h
  | ok x G1 =>
    rw [e] at h
    exact fun vs F1 ow1 H1 l A1 x1 => hk F1 ow1 H1 G1 x vs l A1 (FinS.ext h (.refl p) x1)
  | ex c ds G1 =>
    rw [e] at h
    exact fun cls dd F' ow' H' e A y => h cls dd σ F' ow' H' e A (.refl p) y
theorem run_IS {k : List D → GEnv → R Flo} {R2 : It → Hp → Prop} (A : At K mg F ow G σ H []) (h : FinS K mg xf W p En σ F ow H ((fi G).bind k))
    (hk : ∀ F1 ow1 H1 G1 ds J, At K mg F1 ow1 G1 σ H1 [] → JW K mg J F1 ds → FinS K mg xf W p En σ F1 ow1 H1 (k ds G1) → R2 J H1) : tOfI K mg xf W fi σ H R2 := by
  refine ⟨F, ow, G, [], A, ?_⟩
  cases e : fi G with
  | no => rw [e] at h; exact h
  | ok x G1 =>
    rw [e] at h
    exact fun J F1 ow1 H1 A1 x1 j => hk F1 ow1 H1 G1 x J A1 j (FinS.ext h (.refl p) x1)
  | ex c ds G1 =>
    rw [e] at h
    exact fun cls dd F' ow' H' e A y => h cls dd σ F' ow' H' e A (.refl p) y
theorem run_I {k : List D → GEnv → R β} {R2 : It → Hp → Prop} (A : At K mg F ow G σ H (pre ++ st)) (m : Mono P) (h : Fin K mg xf W σ st P F ow H ((fi G).bind k))
    (hk : ∀ F1 ow1 H1 G1 ds J, At K mg F1 ow1 G1 σ H1 (pre ++ st) → JW K mg J F1 ds → Fin K mg xf W σ st P F1 ow1 H1 (k ds G1) → R2 J H1) : tOfI K mg xf W fi σ H R2 := by
  refine ⟨F, ow, G, pre ++ st, A, ?_⟩
  cases e : fi G with
  | no => rw [e] at h; exact h
  | ok x G1 =>
    rw [e] at h
    exact fun J F1 ow1 H1 A1 x1 j => hk F1 ow1 H1 G1 x J A1 j (Fin.ext m x1 h)
  | ex c ds G1 =>
    rw [e] at h
    exact fun cls dd F' ow' H' e A y => h cls dd F' ow' H' e A.pops y
/-- a value that is bound: it moves, or it is taken -/
theorem At.own {x : RV} {v : V} {G1 : GEnv} (A : At K mg F ow G σ H ((x, v) :: st)) (e : Dv.own x G = some (d, G1)) : ∃ F' ow', At K mg F' ow' G1 σ H ((.val d, v) :: st) ∧ Ext F ow H F' ow' H := by
  cases x with
  | val d0 =>
    have e' : some (d0, G) = some (d, G1) := e
    cases e'
    exact ⟨F, ow, A, .refl⟩
  | slot i =>
    obtain ⟨F', ow', A', X, _⟩ := At.take (pre := []) A (show Dv.take (.slot i) G = some (d, G1) from e)
    exact ⟨F', ow', A', X⟩

/-! ### small statements -/
theorem s_nil (h : tOfS K mg xf W p (fun G => .ok .nx G) En σ H) : tNext En σ H := by
  obtain ⟨F, ow, G, A, h⟩ := h
  exact h σ F ow H A (.refl p) .refl
theorem s_brk (h : tOfS K mg xf W p (fun G => .ok .bk G) En σ H) : tBreak En σ H := by
  obtain ⟨F, ow, G, A, h⟩ := h
  exact h σ F ow H A (.refl p) .refl
theorem s_cont (h : tOfS K mg xf W p (fun G => .ok .ct G) En σ H) : tCont En σ H := by
  obtain ⟨F, ow, G, A, h⟩ := h
  exact h σ F ow H A (.refl p) .refl
theorem s_seq (h : tOfS K mg xf W p (fun G => (f G).bind fun r G1 => match r with
    | .nx => g G1
    | r => .ok r G1) En σ H) : tSeq (tOfS K mg xf W p f) (tOfS K mg xf W p g) En σ H := by
  obtain ⟨F, ow, G, A, h⟩ := h
  refine ⟨F, ow, G, A, ?_⟩
  dsimp only at h
  cases e : f G with
  | no => rw [e] at h; exact h
  | ok r G1 =>
    rw [e] at h
    cases r with
    | nx =>
      have h' : FinS K mg xf W p En σ F ow H (g G1) := h
      exact fun σ' F' ow' H' A' b c => ⟨F', ow', G1, A', h'.ext b c⟩
    | bk => exact h
    | ct => exact h
    | rt d => exact h
  | ex c ds G1 => rw [e] at h; exact h
theorem s_expr (h : tOfS K mg xf W p (fun G => (fa G).bind fun _ G1 => .ok .nx G1) En σ H) : tDrop (tOf K mg xf W fa) En σ H := by
  obtain ⟨F, ow, G, A, h⟩ := h
  exact run_ES A h fun F1 ow1 H1 G1 x v A1 h1 => h1 σ F1 ow1 H1 A1.pop (.refl p) .refl
theorem s_if (h : tOfS K mg xf W p (fun G => (ft G).bind fun k G1 => if k then f G1 else g G1) En σ H) : tIfS (tOfT K mg xf W ft) (tOfS K mg xf W p f) (tOfS K mg xf W p g) En σ H := by
  obtain ⟨F, ow, G, A, h⟩ := h
  refine run_TS A h fun F1 ow1 H1 G1 k A1 h1 => ?_
  cases k with
  | true => exact ⟨F1, ow1, G1, A1, h1⟩
  | false => exact ⟨F1, ow1, G1, A1, h1⟩
theorem s_ret (h : tOfS K mg xf W p (fun G => (fa G).bind fun x G1 => match retV C x G1 with
    | some (d, G2) => .ok (.rt d) G2
    | none => .no) En σ H) : tRet (tOf K mg xf W fa) En σ H := by
  obtain ⟨F, ow, G, A, h⟩ := h
  refine run_ES A h fun F1 ow1 H1 G1 x v A1 h1 => ?_
  cases e : retV C x G1 with
  | none => rw [e] at h1; exact h1.elim
  | some q =>
    obtain ⟨d, G2⟩ := q
    rw [e] at h1
    cases x with
    | val d0 =>
      have e' : some (d0, G1) = some (d, G2) := e
      cases e'
      exact h1 v σ F1 ow1 H1 A1 (.refl p) .refl
    | slot i =>
      have e' : (if i < C.np then take (.slot i) G1 else (getS G1 i).map fun d => (d, G1.set i none)) = some (d, G2) := e
      split at e'
      · obtain ⟨F', ow', A', X, _⟩ := At.take (pre := []) A1 e'
        exact h1 v σ F' ow' H1 A' (.refl p) X
      · obtain ⟨d0, e2, e3⟩ := Option.map_eq_some_iff.mp e'
        cases e3
        -- the slot's value moves to the stack
        obtain ⟨u, hu, hr⟩ := A1.env i d e2
        have hv : σ[i]? = some (some v) := A1.stk.1
        rw [hv] at hu; cases hu
        refine h1 v σ F1 (movO ow1 (.env i) (.stk 0)) H1 ⟨mov_wd A1.wd, by rw [List.length_set]; exact A1.ln, fun j d1 q => ?_, mov_same hr, trivial⟩ (.refl p) mov_ext
        by_cases hij : i = j
        · subst hij
          rw [getS_set_self (getS_lt e2)] at q; cases q
        · rw [getS_set_ne hij] at q
          obtain ⟨u, g1, g2⟩ := A1.env j d1 q
          exact ⟨u, g1, g2.mono (Sub.refl _) (mov_keep (by intro z; cases z; exact hij rfl))⟩
theorem s_retN (h : tOfS K mg xf W p (fun G => .ok (.rt .non) G) En σ H) : tRetN En σ H := by
  obtain ⟨F, ow, G, A, h⟩ := h
  exact h .non σ F ow H (A.pushF rfl) (.refl p) .refl
theorem s_set {i : Nat} (h : tOfS K mg xf W p (fun G => if p i then .no else (fa G).bind fun x G1 => match own x G1 with
    | some (d, G2) => if i < G2.length then .ok .nx (G2.set i (some d)) else .no
    | none => .no) En σ H) : tAsg (tOf K mg xf W fa) (gName i) En σ H := by
  obtain ⟨F, ow, G, A, h⟩ := h
  dsimp only at h
  by_cases hp : p i = true
  · rw [if_pos hp] at h; exact h.elim
  · rw [if_neg hp] at h
    refine run_ES A h fun F1 ow1 H1 G1 x v A1 h1 => ?_
    cases e : own x G1 with
    | none => rw [e] at h1; exact h1.elim
    | some q =>
      obtain ⟨d, G2⟩ := q
      rw [e] at h1
      obtain ⟨F2, ow2, A2, X2⟩ := A1.own e
      have h2 : FinS K mg xf W p En σ F1 ow1 H1 (if i < G2.length then .ok .nx (G2.set i (some d)) else .no) := h1
      by_cases hi : i < G2.length
      · rw [if_pos hi] at h2
        exact h2 _ F2 _ H1 (A2.bind (fun _ hm => by cases hm) hi) (PrEq.set (by simpa using hp)) (X2.trans mov_ext)
      · rw [if_neg hi] at h2; exact h2.elim
theorem s_asg {tg : Tgt} (h : tOfS K mg xf W p (fun G => if protT p tg then (fa G).bind fun x G1 => (match take x G1 with
    | some (d, G2) => (match asgG tg d G2 with
      | some G3 => .ok .nx G3
      | none => .no)
    | none => .no) else .no) En σ H) : tAsg (tOf K mg xf W fa) (gOf K tg) En σ H := by
  obtain ⟨F, ow, G, A, h⟩ := h
  dsimp only at h
  by_cases hp : protT p tg = true
  · rw [if_pos hp] at h
    refine run_ES A h fun F1 ow1 H1 G1 x v A1 h1 => ?_
    cases e : take x G1 with
    | none => rw [e] at h1; exact h1.elim
    | some q =>
      obtain ⟨d, G2⟩ := q
      rw [e] at h1
      obtain ⟨F2, ow2, A2, X2, r2⟩ := At.take (pre := []) A1 e
      have h2 : FinS K mg xf W p En σ F1 ow1 H1 (match asgG tg d G2 with
        | some G3 => .ok .nx G3
        | none => .no) := h1
      cases e2 : asgG tg d G2 with
      | none => rw [e2] at h2; exact h2.elim
      | some G3 =>
        rw [e2] at h2
        exact asg_ok (fun _ hm => by cases hm) A2.pop r2 e2 fun σ' ow' A' X' S' => h2 σ' F2 ow' H1 A' (S'.pr (prot_slots hp)) (X2.trans X')
  · rw [if_neg hp] at h; exact h.elim
/-! ### for -/
theorem s_for {tg : Tgt} (h : tOfS K mg xf W p (fun G => if protT p tg then (fi G).bind fun xs G1 => forL (fun d G => match asgG tg d G with
      | none => .no
      | some G => f G) xs G1 else .no) En σ H) : tFor (tOfI K mg xf W fi) (gOf K tg) (tOfS K mg xf W p f) En σ H := by
  obtain ⟨F, ow, G, A, h⟩ := h
  dsimp only at h
  by_cases hp : protT p tg = true
  · rw [if_pos hp] at h
    refine run_IS A h fun F1 ow1 H1 G1 ds J A1 jw h1 => ?_
    generalize hb : (fun d G => match asgG tg d G with
      | none => R.no
      | some G => f G) = body at h1
    have inv : ∀ i m σ' H', (i ≤ ds.length ∧ m = ds.length - i ∧ ∃ F2 ow2 G2, At K mg F2 ow2 G2 σ' H' [] ∧ Sub F1 F2 ∧ FinS K mg xf W p En σ' F2 ow2 H' (forL body (ds.drop i) G2)) →
        (J.stop i H' ∧ En.nx σ' H') ∨ (J.go i H' ∧ ∃ N : St → Hp → Prop, (∀ σ'' H'', N σ'' H'' → ∃ m', m' < m ∧ (i + 1 ≤ ds.length ∧ m' = ds.length - (i + 1) ∧ ∃ F2 ow2 G2, At K mg F2 ow2 G2 σ'' H'' [] ∧ Sub F1 F2 ∧ FinS K mg xf W p En σ'' F2 ow2 H'' (forL body (ds.drop (i + 1)) G2))) ∧
          ∀ x H'', J.yld i H' x H'' → gOf K tg x σ' H'' fun σ2 H2 => tOfS K mg xf W p f { En with nx := N, ct := N, bk := En.nx } σ2 H2) := by
      rintro i m σ' H' ⟨hi, rfl, F2, ow2, G2, A2, s2, h2⟩
      by_cases hlt : i < ds.length
      · refine .inr ⟨jw.go i H' hlt (s2.trans A2.wd.fh), fun σ'' H'' => ∃ F2 ow2 G2, At K mg F2 ow2 G2 σ'' H'' [] ∧ Sub F1 F2 ∧ FinS K mg xf W p En σ'' F2 ow2 H'' (forL body (ds.drop (i + 1)) G2), fun σ'' H'' hn => ⟨ds.length - (i + 1), by omega, hlt, rfl, hn⟩, fun x H'' y => ?_⟩
        obtain ⟨F3, d, hd, gr, r3⟩ := jw.yld i F2 ow2 H' x H'' hlt s2 A2.wd y
        have ed : ds.drop i = d :: ds.drop (i + 1) := by
          rw [List.drop_eq_getElem_cons hlt]
          rw [List.getElem?_eq_getElem hlt] at hd
          cases hd
          rfl
        rw [ed] at h2
        have h3 : FinS K mg xf W p En σ' F2 ow2 H' ((body d G2).bind fun f G1 => match f with
          | .nx => forL body (ds.drop (i + 1)) G1
          | .ct => forL body (ds.drop (i + 1)) G1
          | .bk => .ok .nx G1
          | .rt x => .ok (.rt x) G1) := h2
        have A3 := A2.grow gr
        have h4 := h3.ext (.refl p) gr.ext
        have eb : body d G2 = (match asgG tg d G2 with
          | none => R.no
          | some G => f G) := by rw [← hb]
        rw [eb] at h4
        cases e2 : asgG tg d G2 with
        | none => rw [e2] at h4; exact h4.elim
        | some G3 =>
          rw [e2] at h4
          refine asg_ok (fun _ hm => by cases hm) A3 r3 e2 fun σ2 ow4 A4 X4 S4 => ?_
          have h5 := h4.ext (S4.pr (prot_slots hp)) X4
          refine ⟨F3, ow4, G3, A4, ?_⟩
          have sub3 : Sub F1 F3 := s2.trans gr.sub
          cases e3 : f G3 with
          | no => have h6 := h5; simp only [e3] at h6; exact h6
          | ex c es G4 => have h6 := h5; simp only [e3] at h6; exact h6
          | ok r G4 =>
            have h6 := h5
            simp only [e3] at h6
            cases r with
            | nx =>
              have h7 : FinS K mg xf W p En σ2 F3 ow4 H'' (forL body (ds.drop (i + 1)) G4) := h6
              exact fun σ5 F5 ow5 H5 A5 b5 X5 => ⟨F5, ow5, G4, A5, sub3.trans X5.sub, h7.ext b5 X5⟩
            | ct =>
              have h7 : FinS K mg xf W p En σ2 F3 ow4 H'' (forL body (ds.drop (i + 1)) G4) := h6
              exact fun σ5 F5 ow5 H5 A5 b5 X5 => ⟨F5, ow5, G4, A5, sub3.trans X5.sub, h7.ext b5 X5⟩
            | bk => exact h6
            | rt d => exact h6
      · have e : i = ds.length := by omega
        subst e
        rw [List.drop_length] at h2
        exact .inl ⟨jw.stop H' (s2.trans A2.wd.fh), h2 σ' F2 ow2 H' A2 (.refl p) .refl⟩
    exact ⟨_, ⟨ds.length - 0, Nat.zero_le _, rfl, F1, ow1, G1, A1, Sub.refl _, h1⟩, inv⟩
  · rw [if_neg hp] at h; exact h.elim
/-! ### while -/
theorem s_whl {n : Nat} (h : tOfS K mg xf W p (fun G => whlL ft f n G) En σ H) : tWhile (tOfT K mg xf W ft) (tOfS K mg xf W p f) En σ H := by
  obtain ⟨F, ow, G, A, h⟩ := h
  refine ⟨fun m σ' H' => ∃ F2 ow2 G2, At K mg F2 ow2 G2 σ' H' [] ∧ FinS K mg xf W p En σ' F2 ow2 H' (whlL ft f m G2), ⟨n, F, ow, G, A, h⟩, ?_⟩
  rintro m σ' H' ⟨F2, ow2, G2, A2, h2⟩
  cases m with
  | zero => exact h2.elim
  | succ m =>
    refine run_TS A2 h2 fun F3 ow3 H3 G3 k A3 h3 => ?_
    cases k with
    | false =>
      rw [if_neg Bool.false_ne_true]
      exact h3 σ' F3 ow3 H3 A3 (.refl p) .refl
    | true =>
      rw [if_pos rfl]
      refine ⟨fun σ'' H'' => ∃ F2 ow2 G2, At K mg F2 ow2 G2 σ'' H'' [] ∧ FinS K mg xf W p En σ'' F2 ow2 H'' (whlL ft f m G2), fun σ'' H'' hn => ⟨m, Nat.lt_succ_self m, hn⟩, F3, ow3, G3, A3, ?_⟩
      have h4 : FinS K mg xf W p En σ' F3 ow3 H3 ((f G3).bind fun r G2 => (match r with
        | .nx => whlL ft f m G2
        | .ct => whlL ft f m G2
        | .bk => .ok .nx G2
        | .rt x => .ok (.rt x) G2)) := h3
      cases e3 : f G3 with
      | no => rw [e3] at h4; exact h4
      | ex c es G4 => rw [e3] at h4; exact h4
      | ok r G4 =>
        rw [e3] at h4
        cases r with
        | nx =>
          have h7 : FinS K mg xf W p En σ' F3 ow3 H3 (whlL ft f m G4) := h4
          exact fun σ5 F5 ow5 H5 A5 b5 X5 => ⟨F5, ow5, G4, A5, h7.ext b5 X5⟩
        | ct =>
          have h7 : FinS K mg xf W p En σ' F3 ow3 H3 (whlL ft f m G4) := h4
          exact fun σ5 F5 ow5 H5 A5 b5 X5 => ⟨F5, ow5, G4, A5, h7.ext b5 X5⟩
        | bk => exact h4
        | rt d => exact h4
end
end Dv
end
section
set_option Elab.async false
set_option linter.all false
set_option maxRecDepth 100000
set_option maxHeartbeats 2000000
/-! Dv11: comprehensions. -/
namespace Dv
open PySem L2
section
variable {K : PySem.W.Frag} {mg : Str → Option Value} {xf : Str → List Str} {W : WX} {p : Nat → Bool} {C : Ctx} {F F' F1 F2 H H' H1 H2 : Hp} {ow ow' ow1 ow2 : Ows} {G G1 : GEnv} {σ σ' σ1 : St} {st pre : List (RV × V)} {o o' : Own} {d : D} {v : V} {rv : RV} {Q : VK}
variable {fa fb fc fe : GEnv → R RV} {fs : GEnv → R (List RV)} {fi : GEnv → R (List D)}
theorem R.bind_assoc {α β γ : Type} (r : R α) (k : α → GEnv → R β) (l : β → GEnv → R γ) : (r.bind k).bind l = r.bind fun a G => (k a G).bind l := by
  cases r <;> rfl
/-- a stack without slots -/
def hid (st : List (RV × V)) : List (RV × V) := st.map fun q => match q.1 with
  | .val _ => q
  | .slot _ => (.val .non, .non)
theorem hid_len : (hid st).length = st.length := List.length_map ..
theorem hid_noSlot : noSlot (hid st) := fun q hq => by
  obtain ⟨r, _, e⟩ := List.mem_map.mp hq
  obtain ⟨rv, v⟩ := r
  cases rv with
  | val d => exact ⟨d, by rw [← e]⟩
  | slot i => exact ⟨.non, by rw [← e]⟩
theorem StR.hid : ∀ {st : List (RV × V)}, StR K mg F H ow σ st → StR K mg F H ow σ' (hid st)
  | [], _ => trivial
  | (.val d, v) :: r, ⟨h1, h2⟩ => ⟨by
    have e : (Dv.hid r).length = r.length := hid_len
    show RVR K mg F H ow σ' (.stk (Dv.hid r).length) (.val d) v
    rw [e]
    exact h1, StR.hid h2⟩
  | (.slot i, v) :: r, ⟨h1, h2⟩ => ⟨rfl, StR.hid h2⟩
theorem StR.unhid : ∀ {st : List (RV × V)}, StR K mg F1 H1 ow1 σ st → StR K mg F H ow σ' (Dv.hid st) → StR K mg F H ow σ st
  | [], _, _ => trivial
  | (.val d, v) :: r, ⟨h1, h2⟩, ⟨h3, h4⟩ => ⟨by
    have e : (Dv.hid r).length = r.length := hid_len
    have h3' : RVR K mg F H ow σ' (.stk (Dv.hid r).length) (.val d) v := h3
    rw [e] at h3'
    exact h3', StR.unhid h2 h4⟩
  | (.slot i, v) :: r, ⟨h1, h2⟩, ⟨h3, h4⟩ => ⟨h1, StR.unhid h2 h4⟩
theorem At.hide (A : At K mg F ow G σ H st) : At K mg F ow G σ H (hid st) := ⟨A.wd, A.ln, A.env, A.stk.hid⟩
theorem At.wiped (hs : noSlot st) : ∀ {own : List Nat}, At K mg F ow G σ H st → At K mg F ow (wipeG own G) (wipe σ own) H st
  | [], A => A
  | i :: r, A => At.forget (At.wiped hs (own := r) A) hs
theorem wipe_out' {i : Nat} : ∀ {vs : List Nat}, i ∉ vs → (wipe σ vs)[i]? = σ[i]?
  | [], _ => rfl
  | v :: vs, h => by
    show ((wipe σ vs).set v none)[i]? = _
    rw [List.getElem?_set_ne (by intro e; exact h (by rw [e]; exact List.mem_cons_self))]
    exact wipe_out' (fun q => h (List.mem_cons_of_mem _ q))
theorem wipe_in {i : Nat} : ∀ {vs : List Nat}, i ∈ vs → i < σ.length → (wipe σ vs)[i]? = some none
  | v :: vs, h, hl => by
    show ((wipe σ vs).set v none)[i]? = _
    by_cases e : v = i
    · subst e
      rw [List.getElem?_set_self (by rw [wipe_length]; exact hl)]
    · rw [List.getElem?_set_ne e]
      exact wipe_in ((List.mem_cons.mp h).resolve_left (fun q => e q.symm)) hl
theorem wipe_eq {own : List Nat} {l : List Nat} (s : SlEq l (wipe σ own) σ') (h : ∀ i ∈ l, i ∈ own) : wipe σ' own = wipe σ own := by
  apply List.ext_getElem?
  intro i
  have hl : σ'.length = σ.length := by rw [s.1, wipe_length]
  by_cases hi : i ∈ own
  · by_cases hlt : i < σ.length
    · rw [wipe_in hi hlt, wipe_in hi (by rw [hl]; exact hlt)]
    · rw [List.getElem?_eq_none (by rw [wipe_length]; omega), List.getElem?_eq_none (by rw [wipe_length]; omega)]
  · rw [wipe_out' hi, wipe_out' hi, s.2 i (fun z => hi (h i z)), wipe_out' hi]
theorem restG_get {i : Nat} : ∀ {own : List Nat} {G0 G : GEnv} {d : D}, getS (restG own G0 G) i = some d → (i ∈ own ∧ getS G0 i = some d ∧ d.still = true) ∨ (i ∉ own ∧ getS G i = some d)
  | [], _, _, _, h => .inr ⟨by simp, h⟩
  | j :: r, G0, G, d, h => by
    have h' : getS ((restG r G0 G).set j (match getS G0 j with
      | some d => if d.still then some d else none
      | none => none)) i = some d := h
    by_cases e : j = i
    · subst e
      have hl : j < (restG r G0 G).length := by
        have := getS_lt h'
        rwa [List.length_set] at this
      rw [getS_set_self hl] at h'
      cases q : getS G0 j with
      | none => rw [q] at h'; cases h'
      | some d0 =>
        rw [q] at h'
        have h2 : (if d0.still = true then some d0 else none) = some d := h'
        split at h2
        · cases h2; exact .inl ⟨List.mem_cons_self, rfl, ‹_›⟩
        · cases h2
    · rw [getS_set_ne e] at h'
      rcases restG_get h' with ⟨a, b, c⟩ | ⟨a, b⟩
      · exact .inl ⟨List.mem_cons_of_mem _ a, b, c⟩
      · exact .inr ⟨fun q => (List.mem_cons.mp q).elim (fun z => e z.symm) a, b⟩
theorem restG_len : ∀ {own : List Nat} {G0 G : GEnv}, (restG own G0 G).length = G.length
  | [], _, _ => rfl
  | j :: r, G0, G => by
    show ((restG r G0 G).set j _).length = _
    rw [List.length_set, restG_len]
/-- the frame's own slots again -/
theorem At.rest' {own : List Nat} (A1 : At K mg F1 ow1 G1 σ H1 st) {pre : List (RV × V)} (A2 : At K mg F ow G (wipe σ own) H (pre ++ hid st)) (hp : noSlot pre) (s : Sub F1 F) : At K mg F ow (restG own G1 G) σ H (pre ++ st) where
  wd := A2.wd
  ln := by rw [restG_len, A2.ln, wipe_length]
  env := fun i d h => by
    rcases restG_get h with ⟨a, b, c⟩ | ⟨a, b⟩
    · obtain ⟨u, h1, h2⟩ := A1.env i d b
      exact ⟨u, h1, Rp.of (Rf.mono s (h2.still c))⟩
    · obtain ⟨u, h1, h2⟩ := A2.env i d b
      exact ⟨u, by rw [wipe_out' a] at h1; exact h1, h2⟩
  stk := by
    have hs := A2.stk
    clear A2
    induction pre with
    | nil => exact StR.unhid A1.stk hs
    | cons q r ih =>
      obtain ⟨h1, h2⟩ := hs
      obtain ⟨d, e⟩ := hp q List.mem_cons_self
      refine ⟨?_, ih (fun x hx => hp x (List.mem_cons_of_mem _ hx)) h2⟩
      have el : (r ++ Dv.hid st).length = (r ++ st).length := by rw [List.length_append, List.length_append, hid_len]
      have h1' : RVR K mg F H ow (wipe σ own) (.stk (r ++ Dv.hid st).length) q.1 q.2 := h1
      rw [el, e] at h1'
      show RVR K mg F H ow σ (.stk (r ++ st).length) q.1 q.2
      rw [e]
      exact h1'
abbrev W0 : WX := fun _ _ _ _ => False
def tCnd (K : PySem.W.Frag) (mg : Str → Option Value) (xf : Str → List Str) : Option (GEnv → R Bool) → TT
  | none => tYes
  | some f => tOfT K mg xf W0 f
/-- what a comprehension goes on with -/
def lcK (J : It) (g : TG) (tt : TT) (te : TE) (vs : List Nat) (σ : St) (Q : VK) (H1 : Hp) : Prop := ∀ D, H1 D = none → ∃ W : Nat → Nat → Hp → Prop, (∃ m, W 0 m (upd H1 D (.lst []))) ∧ ∀ i m H, W i m H →
  (J.stop i H ∧ Q (.ref D) H) ∨ (J.go i H ∧ ∃ Nx : Hp → Prop, (∀ H', Nx H' → ∃ m', m' < m ∧ W (i + 1) m' H') ∧ ∀ x H', J.yld i H x H' → g x (wipe σ vs) H' fun σ2 H2 => wipe σ2 vs = wipe σ vs ∧ tt σ2 H2 fun b H3 =>
    if b = true then te σ2 H3 fun y H4 => ∃ acc, H4 D = some (.lst acc) ∧ acc.length < sizeLine ∧ Nx (upd H4 D (.lst (acc ++ [y]))) else Nx H3)
theorem comp_go {own : List Nat} {tg : Tgt} {ft : Option (GEnv → R Bool)} {ds : List D} {J : It} (hsl : ∀ i ∈ tg.slots, i ∈ own) (A1 : At K mg F1 ow1 G1 σ H1 ([] ++ st)) (jw : JW K mg J F1 ds)
    (h1 : Fin K mg xf W σ st (pE K mg σ st Q) F1 ow1 H1 ((compL (compB own tg ft fe) ds (wipeG own G1)).bind fun ys G2 => if lenOk ys then .ok (.val (.mls ys)) (restG own G1 G2) else .no)) :
    lcK J (gOf K tg) (tCnd K mg xf ft) (tOf K mg xf W0 fe) own σ Q H1 := by
  intro L hL
  have A1' : At K mg F1 ow1 G1 σ H1 st := A1
  -- what is left to be done, with what was made so far
  let rest : List D → Nat → GEnv → R RV := fun acc i G2 => (compL (compB own tg ft fe) (ds.drop i) G2).bind fun ys G3 => if lenOk (acc ++ ys) then .ok (.val (.mls (acc ++ ys))) (restG own G1 G3) else .no
  let Inv : Nat → Hp → Prop := fun i H' => ∃ F2 ow2 G2 acc, At K mg F2 ow2 G2 (wipe σ own) H' ((.val (.mls acc), .ref L) :: hid st) ∧ Ext F1 ow1 H1 F2 ow2 H' ∧ Fin K mg xf W σ st (pE K mg σ st Q) F1 ow1 H1 (rest acc i G2)
  refine ⟨fun i m H' => i ≤ ds.length ∧ m = ds.length - i ∧ Inv i H', ⟨ds.length, Nat.zero_le _, rfl, ?_⟩, ?_⟩
  · have gr : Grow F1 ow1 H1 F1 (updO ow1 L (.stk st.length)) (upd H1 L (.lst [])) := Grow.own A1'.wd hL _
    refine ⟨F1, updO ow1 L (.stk st.length), wipeG own G1, [], ?_, gr.ext, h1⟩
    have A2 := At.wiped (own := own) hid_noSlot ((A1'.grow gr).hide)
    refine A2.push ⟨L, [], rfl, upd_same, ?_, rfl⟩
    rw [hid_len]
    exact updO_same
  · rintro i m H' ⟨hi, rfl, F2, ow2, G2, acc, A2, X2, h2⟩
    by_cases hlt : i < ds.length
    · refine .inr ⟨jw.go i H' hlt (X2.sub.trans A2.wd.fh), Inv (i + 1), fun H'' hn => ⟨ds.length - (i + 1), by omega, hlt, rfl, hn⟩, fun x H'' y => ?_⟩
      obtain ⟨F3, d, hd, gr, r3⟩ := jw.yld i F2 ow2 H' x H'' hlt X2.sub A2.wd y
      have ed : ds.drop i = d :: ds.drop (i + 1) := by
        rw [List.drop_eq_getElem_cons hlt]
        rw [List.getElem?_eq_getElem hlt] at hd
        cases hd
        rfl
      -- one turn, then the rest
      have h3 : Fin K mg xf W σ st (pE K mg σ st Q) F1 ow1 H1 ((noEx (compB own tg ft fe d G2)).bind fun o G3 => (compL (compB own tg ft fe) (ds.drop (i + 1)) G3).bind fun ys G4 =>
          if lenOk (acc ++ (match o with | some x => x :: ys | none => ys)) then .ok (.val (.mls (acc ++ (match o with | some x => x :: ys | none => ys)))) (restG own G1 G4) else .no) := by
        have h2' : Fin K mg xf W σ st (pE K mg σ st Q) F1 ow1 H1 ((compL (compB own tg ft fe) (ds.drop i) G2).bind fun ys G3 => if lenOk (acc ++ ys) then .ok (.val (.mls (acc ++ ys))) (restG own G1 G3) else .no) := h2
        rw [ed] at h2'
        have e1 : compL (compB own tg ft fe) (d :: ds.drop (i + 1)) G2 = (noEx (compB own tg ft fe d G2)).bind fun o G1 => (compL (compB own tg ft fe) (ds.drop (i + 1)) G1).bind fun r G2 => .ok (match o with | some x => x :: r | none => r) G2 := rfl
        rw [e1, R.bind_assoc] at h2'
        have e2 : ∀ (o : Option D) (G3 : GEnv), ((compL (compB own tg ft fe) (ds.drop (i + 1)) G3).bind fun r G2 => R.ok (match o with | some x => x :: r | none => r) G2).bind (fun ys G3 => if lenOk (acc ++ ys) then R.ok (RV.val (.mls (acc ++ ys))) (restG own G1 G3) else .no) =
            (compL (compB own tg ft fe) (ds.drop (i + 1)) G3).bind fun ys G4 => if lenOk (acc ++ (match o with | some x => x :: ys | none => ys)) then .ok (.val (.mls (acc ++ (match o with | some x => x :: ys | none => ys)))) (restG own G1 G4) else .no := fun o G3 => R.bind_assoc _ _ _
        simp only [e2] at h2'
        exact h2'
      have A3 := A2.grow gr
      have X3 := X2.trans gr.ext
      have ns : noSlot ((RV.val (.mls acc), V.ref L) :: hid st) := fun q hq => (List.mem_cons.mp hq).elim (fun e => ⟨.mls acc, by rw [e]⟩) fun hq => hid_noSlot q hq
      unfold compB at h3
      cases e2 : asgG tg d G2 with
      | none => rw [e2] at h3; exact h3.elim
      | some G3 =>
        rw [e2] at h3
        dsimp only at h3
        refine asg_ok ns A3 r3 e2 fun σ2 ow4 A4 X4 S4 => ?_
        have ew : wipe σ2 own = wipe σ own := wipe_eq S4 hsl
        refine ⟨ew, ?_⟩
        -- behind the test
        have next : ∀ (k : Bool) (F5 : Hp) (ow5 : Ows) (H5 : Hp) (G5 : GEnv), At K mg F5 ow5 G5 σ2 H5 ((.val (.mls acc), .ref L) :: hid st) → Ext F1 ow1 H1 F5 ow5 H5 →
            Fin K mg xf W σ st (pE K mg σ st Q) F1 ow1 H1 ((noEx (if k = true then (fe G5).bind fun x G2 => (match take x G2 with
              | some (d, G3) => R.ok (some d) (wipeG own G3)
              | none => .no) else .ok none (wipeG own G5))).bind fun o G3 => (compL (compB own tg ft fe) (ds.drop (i + 1)) G3).bind fun ys G4 =>
                if lenOk (acc ++ (match o with | some x => x :: ys | none => ys)) then .ok (.val (.mls (acc ++ (match o with | some x => x :: ys | none => ys)))) (restG own G1 G4) else .no) →
            if k = true then tOf K mg xf W0 fe σ2 H5 fun y H4 => ∃ acc, H4 L = some (.lst acc) ∧ acc.length < sizeLine ∧ Inv (i + 1) (upd H4 L (.lst (acc ++ [y]))) else Inv (i + 1) H5 := by
          intro k F5 ow5 H5 G5 A5 X5 h5
          cases k with
          | false =>
            rw [if_neg Bool.false_ne_true] at h5 ⊢
            refine ⟨F5, ow5, wipeG own G5, acc, ?_, X5, h5⟩
            have A6 := At.wiped (own := own) ns A5
            rw [ew] at A6
            exact A6
          | true =>
            rw [if_pos rfl] at h5 ⊢
            refine ⟨F5, ow5, G5, _, A5, ?_⟩
            cases e6 : fe G5 with
            | no => rw [e6] at h5; exact h5.elim
            | ex c es G6 => rw [e6] at h5; exact h5.elim
            | ok x G6 =>
              rw [e6] at h5
              intro y F7 ow7 H7 A7 X7
              have h6 : Fin K mg xf W σ st (pE K mg σ st Q) F1 ow1 H1 ((noEx (match take x G6 with
                | some (d, G3) => R.ok (some d) (wipeG own G3)
                | none => .no)).bind fun o G3 => (compL (compB own tg ft fe) (ds.drop (i + 1)) G3).bind fun ys G4 =>
                  if lenOk (acc ++ (match o with | some x => x :: ys | none => ys)) then .ok (.val (.mls (acc ++ (match o with | some x => x :: ys | none => ys)))) (restG own G1 G4) else .no) := h5
              cases e7 : take x G6 with
              | none => rw [e7] at h6; exact h6.elim
              | some q =>
                obtain ⟨d', G8⟩ := q
                rw [e7] at h6
                have h7 : Fin K mg xf W σ st (pE K mg σ st Q) F1 ow1 H1 ((compL (compB own tg ft fe) (ds.drop (i + 1)) (wipeG own G8)).bind fun ys G4 =>
                  if lenOk (acc ++ d' :: ys) then .ok (.val (.mls (acc ++ d' :: ys))) (restG own G1 G4) else .no) := h6
                obtain ⟨F8, ow8, A8, X8, r8⟩ := At.take (pre := []) A7 e7
                have A9 : At K mg F8 ow8 G8 σ2 H7 ((.val (.mls acc), .ref L) :: hid st) := At.pop A8
                obtain ⟨a, vs, ea, hHa, hoa, hra⟩ := A9.stk.1
                cases ea
                have hlen : acc.length < sizeLine := by
                  cases e9 : compL (compB own tg ft fe) (ds.drop (i + 1)) (wipeG own G8) with
                  | no => rw [e9] at h7; exact h7.elim
                  | ex c es G9 =>
                    have never : ∀ (l : List D) (G : GEnv) c es G', compL (compB own tg ft fe) l G ≠ .ex c es G' := by
                      intro l
                      induction l with
                      | nil => intro G c es G' z; cases z
                      | cons a b ih =>
                        intro G c es G' z
                        have z' : (noEx (compB own tg ft fe a G)).bind (fun o G1 => (compL (compB own tg ft fe) b G1).bind fun r G2 => R.ok (match o with | some x => x :: r | none => r) G2) = .ex c es G' := z
                        cases q : compB own tg ft fe a G with
                        | no => rw [q] at z'; cases z'
                        | ex _ _ _ => rw [q] at z'; cases z'
                        | ok o G2 =>
                          rw [q] at z'
                          have z2 : (compL (compB own tg ft fe) b G2).bind (fun r G2 => R.ok (match o with | some x => x :: r | none => r) G2) = .ex c es G' := z'
                          cases q2 : compL (compB own tg ft fe) b G2 with
                          | no => rw [q2] at z2; cases z2
                          | ok _ _ => rw [q2] at z2; cases z2
                          | ex c1 es1 G3 => exact ih _ _ _ _ q2
                    exact absurd e9 (never _ _ _ _ _)
                  | ok ys G9 =>
                    rw [e9] at h7
                    have h8 : Fin K mg xf W σ st (pE K mg σ st Q) F1 ow1 H1 (if lenOk (acc ++ d' :: ys) then .ok (.val (.mls (acc ++ d' :: ys))) (restG own G1 G9) else .no) := h7
                    by_cases hk : lenOk (acc ++ d' :: ys) = true
                    · have := of_decide_eq_true hk
                      rw [List.length_append, List.length_cons] at this
                      omega
                    · rw [if_neg hk] at h8; exact h8.elim
                refine ⟨vs, hHa, by rw [hra.len]; exact hlen, F8, ow8, wipeG own G8, acc ++ [d'], ?_, (((X5.trans X7).trans X8).trans (upd_ext hoa)), ?_⟩
                · have A10 := A9.updT (x := .lst (vs ++ [y])) (d' := .mls (acc ++ [d'])) hoa ⟨L, vs ++ [y], rfl, upd_same, hoa, hra.append (.one r8)⟩
                  have ns' : noSlot ((RV.val (.mls (acc ++ [d'])), V.ref L) :: hid st) := fun q hq => (List.mem_cons.mp hq).elim (fun e => ⟨.mls (acc ++ [d']), by rw [e]⟩) fun hq => hid_noSlot q hq
                  have A11 := At.wiped (own := own) ns' A10
                  rw [ew] at A11
                  exact A11
                · show Fin K mg xf W σ st (pE K mg σ st Q) F1 ow1 H1 ((compL (compB own tg ft fe) (ds.drop (i + 1)) (wipeG own G8)).bind fun ys G3 => if lenOk ((acc ++ [d']) ++ ys) then .ok (.val (.mls ((acc ++ [d']) ++ ys))) (restG own G1 G3) else .no)
                  simp only [List.append_assoc, List.singleton_append]
                  exact h7
        cases ft with
        | none => exact next true F3 ow4 H'' G3 A4 (X3.trans X4) h3
        | some f =>
          refine ⟨F3, ow4, G3, _, A4, ?_⟩
          cases e5 : f G3 with
          | no => simp only [e5] at h3; exact h3.elim
          | ex c es G5 => simp only [e5] at h3; exact h3.elim
          | ok k G5 =>
            simp only [e5] at h3
            exact fun F6 ow6 H6 A6 X6 => next k F6 ow6 H6 G5 A6 ((X3.trans X4).trans X6) h3
    · have e : i = ds.length := by omega
      subst e
      refine .inl ⟨jw.stop H' (X2.sub.trans A2.wd.fh), ?_⟩
      have h3 : Fin K mg xf W σ st (pE K mg σ st Q) F1 ow1 H1 ((compL (compB own tg ft fe) (ds.drop ds.length) G2).bind fun ys G3 => if lenOk (acc ++ ys) then .ok (.val (.mls (acc ++ ys))) (restG own G1 G3) else .no) := h2
      rw [List.drop_length] at h3
      have h4 : Fin K mg xf W σ st (pE K mg σ st Q) F1 ow1 H1 (if lenOk (acc ++ []) then .ok (.val (.mls (acc ++ []))) (restG own G1 G2) else .no) := h3
      rw [List.append_nil] at h4
      by_cases hk : lenOk acc = true
      · rw [if_pos hk] at h4
        exact h4 (.ref L) F2 ow2 H' (At.rest' (pre := [(.val (.mls acc), .ref L)]) A1' A2 (fun q hq => ⟨.mls acc, by rw [List.mem_singleton.mp hq]⟩) X2.sub) X2
      · rw [if_neg hk] at h4; exact h4.elim
theorem r_comp {own : List Nat} {tg : Tgt} {ft : Option (GEnv → R Bool)} (hsl : ∀ i ∈ tg.slots, i ∈ own)
    (h : tOf K mg xf W (fun G => (fi G).bind fun xs G1 => (compL (compB own tg ft fe) xs (wipeG own G1)).bind fun ys G2 => if lenOk ys then .ok (.val (.mls ys)) (restG own G1 G2) else .no) σ H Q) :
    tLc (tOfI K mg xf W fi) (gOf K tg) (tCnd K mg xf ft) (tOf K mg xf W0 fe) own σ H Q := by
  obtain ⟨F, ow, G, st, A, h⟩ := h
  exact run_I (pre := []) A mono_E h fun F1 ow1 H1 G1 ds J A1 jw h1 => comp_go hsl A1 jw h1
end
end Dv
end
section
set_option Elab.async false
set_option linter.all false
set_option maxRecDepth 100000
set_option maxHeartbeats 2000000
/-! Dv12: what is walked. -/
namespace Dv
open PySem L2
section
variable {K : PySem.W.Frag} {mg : Str → Option Value} {xf : Str → List Str} {W : WX} {p : Nat → Bool} {C : Ctx} {F F' F1 F2 H H' H1 H2 : Hp} {ow ow' ow1 ow2 : Ows} {G G1 : GEnv} {σ σ' σ1 : St} {st pre : List (RV × V)} {o o' : Own} {d : D} {v : V} {rv : RV} {Q : VK} {QI : It → Hp → Prop}
variable {fa fb fc fe : GEnv → R RV} {fs : GEnv → R (List RV)} {fi : GEnv → R (List D)}

theorem jw_list {a : Addr} {ds : List D} {vs : List V} (h : F a = some (.lst vs)) (r : Rfs K mg F ds vs) : JW K mg (Itl K a) F ds where
  go := fun i H hi s => by
    have hl := r.len
    exact ⟨vs, vs[i]'(by omega), SqL.of (s _ _ h), List.getElem?_eq_getElem (by omega)⟩
  stop := fun H s => ⟨vs, SqL.of (s _ _ h), by rw [r.len] <;> exact Nat.le_refl _⟩
  yld := fun i F' ow H x H' hi s w y => by
    obtain ⟨rfl, y⟩ := y
    have hx := y vs (SqL.of (w.fh _ _ (s _ _ h)))
    obtain ⟨d, hd, rd⟩ := r.at hx
    exact ⟨F', d, hd, .refl, rd.mono s⟩
theorem jw_tup {a : Addr} {ds : List D} {vs : List V} (h : SqT K F a vs) (r : Rfs K mg F ds vs) : JW K mg (Itt K a) F ds where
  go := fun i H hi s => by
    have hl := r.len
    exact ⟨vs, vs[i]'(by omega), s.sqT h, List.getElem?_eq_getElem (by omega)⟩
  stop := fun H s => ⟨vs, s.sqT h, by rw [r.len] <;> exact Nat.le_refl _⟩
  yld := fun i F' ow H x H' hi s w y => by
    obtain ⟨rfl, y⟩ := y
    have hx := y vs (w.fh.sqT (s.sqT h))
    obtain ⟨d, hd, rd⟩ := r.at hx
    exact ⟨F', d, hd, .refl, rd.mono s⟩
theorem jw_rng {lo : Int} {n : Nat} : JW K mg (Itr lo n) F ((List.range n).map fun i => .int (lo + (i : Nat))) where
  go := fun i H hi s => by show i < n; simpa using hi
  stop := fun H s => by show n ≤ _; simp
  yld := fun i F' ow H x H' hi s w y => by
    obtain ⟨rfl, rfl⟩ := y
    have hi' : i < n := by simpa using hi
    exact ⟨F', .int (lo + i), by simp [hi'], .refl, rfl⟩
theorem Rfs.two {d e : D} {v u : V} (h : Rf K mg F d v) (h' : Rf K mg F e u) : Rfs K mg F [d, e] [v, u] := ⟨v, [u], rfl, h, u, [], rfl, h', rfl⟩
theorem zip_at {xs ys : List D} {i : Nat} {x y : D} (h1 : xs[i]? = some x) (h2 : ys[i]? = some y) : (zipD xs ys)[i]? = some (.tup [x, y]) := by
  unfold zipD
  rw [List.getElem?_map, (List.getElem?_zip_eq_some (z := (x, y))).mpr ⟨h1, h2⟩]
  rfl
theorem zip_len {xs ys : List D} : (zipD xs ys).length = min xs.length ys.length := by
  unfold zipD
  rw [List.length_map, List.length_zip]
theorem jw_zip {a b : Addr} {xs ys : List D} {vs us : List V} (h : F a = some (.lst vs)) (r : Rfs K mg F xs vs) (h' : F b = some (.lst us)) (r' : Rfs K mg F ys us) : JW K mg (Itz K a b) F (zipD xs ys) where
  go := fun i H hi s => by
    have h1 := r.len
    have h2 := r'.len
    rw [zip_len] at hi
    exact ⟨vs, us, vs[i]'(by omega), us[i]'(by omega), SqL.of (s _ _ h), SqL.of (s _ _ h'), List.getElem?_eq_getElem (by omega), List.getElem?_eq_getElem (by omega)⟩
  stop := fun H s => ⟨vs, us, SqL.of (s _ _ h), SqL.of (s _ _ h'), by rw [zip_len, r.len, r'.len]; omega⟩
  yld := fun i F' ow H x H' hi s w y => by
    obtain ⟨T, x, y, rfl, hT, rfl, f1, f2⟩ := y
    have hx := f1 vs (SqL.of (w.fh _ _ (s _ _ h)))
    have hy := f2 us (SqL.of (w.fh _ _ (s _ _ h')))
    obtain ⟨d, hd, rd⟩ := r.at hx
    obtain ⟨e, he, re⟩ := r'.at hy
    obtain ⟨g, z⟩ := new_tup (ow := ow) w (Rfs.two (rd.mono s) (re.mono s)) hT
    exact ⟨_, _, zip_at hd he, g, z⟩
theorem jw_zipT {a b : Addr} {xs ys : List D} {vs us : List V} (h : SqT K F a vs) (r : Rfs K mg F xs vs) (h' : SqT K F b us) (r' : Rfs K mg F ys us) : JW K mg (RZ.ItzT K a b) F (zipD xs ys) where
  go := fun i H hi s => by
    have h1 := r.len
    have h2 := r'.len
    rw [zip_len] at hi
    exact ⟨vs, us, vs[i]'(by omega), us[i]'(by omega), s.sqT h, s.sqT h', List.getElem?_eq_getElem (by omega), List.getElem?_eq_getElem (by omega)⟩
  stop := fun H s => ⟨vs, us, s.sqT h, s.sqT h', by rw [zip_len, r.len, r'.len]; omega⟩
  yld := fun i F' ow H x H' hi s w y => by
    obtain ⟨T, x, y, rfl, hT, rfl, f1, f2⟩ := y
    have hx := f1 vs (w.fh.sqT (s.sqT h))
    have hy := f2 us (w.fh.sqT (s.sqT h'))
    obtain ⟨d, hd, rd⟩ := r.at hx
    obtain ⟨e, he, re⟩ := r'.at hy
    obtain ⟨g, z⟩ := new_tup (ow := ow) w (Rfs.two (rd.mono s) (re.mono s)) hT
    exact ⟨_, _, zip_at hd he, g, z⟩
theorem jw_enum {a : Addr} {xs : List D} {vs : List V} (h : F a = some (.lst vs)) (r : Rfs K mg F xs vs) : JW K mg (L2.Ite K a) F (enumD xs) where
  go := fun i H hi s => by
    have h1 := r.len
    have hi' : i < xs.length := by simpa [enumD] using hi
    exact ⟨vs, vs[i]'(by omega), SqL.of (s _ _ h), List.getElem?_eq_getElem (by omega)⟩
  stop := fun H s => ⟨vs, SqL.of (s _ _ h), by rw [r.len]; simp [enumD]⟩
  yld := fun i F' ow H x H' hi s w y => by
    obtain ⟨T, x, rfl, hT, rfl, f1⟩ := y
    have hx := f1 vs (SqL.of (w.fh _ _ (s _ _ h)))
    obtain ⟨d, hd, rd⟩ := r.at hx
    obtain ⟨g, z⟩ := new_tup (ow := ow) w (Rfs.two (show Rf K mg F' (.int (i : Nat)) (.int (i : Nat)) from rfl) (rd.mono s)) hT
    refine ⟨_, .tup [.int (i : Nat), d], ?_, g, z⟩
    unfold enumD
    rw [List.getElem?_map, List.getElem?_zipIdx, hd]
    simp

/-! ### the readings -/
def iSeq (K : PySem.W.Frag) (te : TE) : TI := fun σ H R => te σ H fun x H1 => ∃ a, x = .ref a ∧ (((∃ xs, SqL K H1 a xs) ∧ R (Itl K a) H1) ∨ ((∃ xs, SqT K H1 a xs) ∧ R (Itt K a) H1))
theorem pi_seq {X : Cx} {tg l : Expr} {tl : TE} (hl : PE X l tl) : PI X tg l (iSeq X.K tl) := by
  refine ⟨fun pins s σ H R I h => ?_⟩
  refine thn (hl.run pins s σ H _ I h) fun v s1 ⟨x, H1, I1, r1, q1⟩ => ?_
  obtain ⟨a, e, q1⟩ := q1
  subst e
  cases r1
  rcases q1 with ⟨⟨xs, hq⟩, q⟩ | ⟨⟨xs, hq⟩, q⟩
  · obtain ⟨its, rv, p, hz⟩ := I1.list hq
    refine wpAny_pyIter_list p.isList ?_
    refine ⟨s1.heap.objs.size, [s1.heap.objs.size], _, _, H1, rfl, I1.kept (t' := s1.toks) fun b o e => Heap.get?_push_of_some _ e, turn_list a _, ⟨_, Heap.get?_push_size _ rfl, rfl, rfl⟩, fun b hb => ?_, q⟩
    have e : b = s1.heap.objs.size := by simpa using hb
    subst e
    exact I1.fpOk (Nat.le_refl _) (I1.hok.fresh (Nat.le_refl _))
  · obtain ⟨its, rv, p, hz⟩ := I1.tuple hq
    refine wpAny_pyIter_tuple (show s1.heap.IsTuple a its.toArray from p) ?_
    refine ⟨s1.heap.objs.size, [s1.heap.objs.size], _, _, H1, rfl, I1.kept (t' := s1.toks) fun b o e => Heap.get?_push_of_some _ e, turn_tuple a _, ⟨_, Heap.get?_push_size _ rfl, rfl, rfl⟩, fun b hb => ?_, q⟩
    have e : b = s1.heap.objs.size := by simpa using hb
    subst e
    exact I1.fpOk (Nat.le_refl _) (I1.hok.fresh (Nat.le_refl _))
theorem i_seq (h : tOfI K mg xf W (fun G => (fa G).bind fun x G1 => match Dv.take x G1 with
    | some (d, G2) => (match seqOf d with
      | some xs => .ok xs G2
      | none => .no)
    | none => .no) σ H QI) : iSeq K (tOf K mg xf W fa) σ H QI := by
  obtain ⟨F, ow, G, st, A, h⟩ := h
  refine run_E (pre := []) A mono_I h fun F1 ow1 H1 G1 x v A1 h1 => ?_
  cases e : Dv.take x G1 with
  | none => rw [e] at h1; exact h1.elim
  | some q =>
    obtain ⟨d, G2⟩ := q
    rw [e] at h1
    obtain ⟨F2, ow2, A2, X2, r2⟩ := At.take (pre := []) A1 e
    have h2 : Fin K mg xf W σ st (pI K mg σ st QI) F1 ow1 H1 (match seqOf d with
      | some xs => .ok xs G2
      | none => .no) := h1
    cases e2 : seqOf d with
    | none => rw [e2] at h2; exact h2.elim
    | some xs =>
      rw [e2] at h2
      have A3 : At K mg F2 ow2 G2 σ H1 st := A2.pop
      cases d with
      | lst ys =>
        cases e2
        obtain ⟨a, vs, e3, h3, r3⟩ := r2
        exact ⟨a, e3, .inl ⟨⟨vs, SqL.of (A3.wd.fh _ _ h3)⟩, h2 _ F2 ow2 H1 A3 X2 (jw_list h3 r3)⟩⟩
      | tup ys =>
        cases e2
        obtain ⟨a, vs, e3, h3, r3⟩ := r2
        exact ⟨a, e3, .inr ⟨⟨vs, A3.wd.fh.sqT h3⟩, h2 _ F2 ow2 H1 A3 X2 (jw_tup h3 r3)⟩⟩
      | mls ys => exact r2.elim
      | _ => cases e2
theorem i_range1 (h : tOfI K mg xf W (fun G => (fs G).bind fun rvs G1 => match (Dv.derefs rvs G1).bind rangeD with
    | some xs => .ok xs G1
    | none => .no) σ H QI) (one : ∀ G rvs G1, fs G = .ok rvs G1 → rvs.length = 1) : iRng1 (tOfA K mg xf W fs) σ H QI := by
  obtain ⟨F, ow, G, st, A, h⟩ := h
  have h0 : Fin K mg xf W σ st (pI K mg σ st QI) F ow H ((fs G).bind fun rvs G1 => match (if rvs.length = 1 then Dv.derefs rvs G1 else none).bind rangeD with
    | some xs => .ok xs G1
    | none => .no) := by
    cases e : fs G with
    | no => dsimp only at h; rw [e] at h; exact h
    | ex c ds G1 => dsimp only at h; rw [e] at h; exact h
    | ok rvs G1 =>
      dsimp only at h; rw [e] at h
      show Fin K mg xf W σ st (pI K mg σ st QI) F ow H (match (if rvs.length = 1 then Dv.derefs rvs G1 else none).bind rangeD with
        | some xs => .ok xs G1
        | none => .no)
      rw [if_pos (one G rvs G1 e)]
      exact h
  refine run_A (pre := []) A mono_I h0 fun F1 ow1 H1 G1 rvs vs hl A1 h1 => ?_
  by_cases h1l : rvs.length = 1
  · rw [if_pos h1l] at h1
    cases e : Dv.derefs rvs G1 with
    | none => rw [e] at h1; exact h1.elim
    | some ds =>
      rw [e] at h1
      have h2 : Fin K mg xf W σ st (pI K mg σ st QI) F1 ow1 H1 (match rangeD ds with
        | some xs => .ok xs G1
        | none => .no) := h1
      have r := At.derefs hl A1 e
      obtain ⟨x, rfl⟩ := List.length_eq_one_iff.mp h1l
      cases ds with
      | nil => rw [show rangeD [] = none from rfl] at h2; exact h2.elim
      | cons d t =>
        have : t = [] := by
          have e' : (match Dv.deref x G1, some ([] : List D) with
            | some d, some ds => some (d :: ds)
            | _, _ => none) = some (d :: t) := e
          cases q : Dv.deref x G1 with
          | none => rw [q] at e'; cases e'
          | some d0 => rw [q] at e'; cases e' <;> rfl
        subst this
        obtain ⟨v, o1, rfl, r1⟩ := r.one
        cases d with
        | int n =>
          have h3 : Fin K mg xf W σ st (pI K mg σ st QI) F1 ow1 H1 (match (if decide (-(2 ^ 62) ≤ n) && decide (n < 2 ^ 62) then some ((List.range n.toNat).map fun i => D.int (0 + (i : Nat))) else none) with
            | some xs => .ok xs G1
            | none => .no) := h2
          by_cases hb : (decide (-(2 ^ 62) ≤ n) && decide (n < 2 ^ 62)) = true
          · rw [if_pos hb] at h3
            rw [Bool.and_eq_true, decide_eq_true_eq, decide_eq_true_eq] at hb
            exact ⟨n, by rw [show v = .int n from r1], hb.1, hb.2, h3 _ F1 ow1 H1 A1.popsOf .refl jw_rng⟩
          · rw [if_neg hb] at h3; exact h3.elim
        | _ => exact h2.elim
  · rw [if_neg h1l] at h1; exact h1.elim
theorem i_range2 (h : tOfI K mg xf W (fun G => (fs G).bind fun rvs G1 => match (Dv.derefs rvs G1).bind rangeD with
    | some xs => .ok xs G1
    | none => .no) σ H QI) (two : ∀ G rvs G1, fs G = .ok rvs G1 → rvs.length = 2) : iRng2 (tOfA K mg xf W fs) σ H QI := by
  obtain ⟨F, ow, G, st, A, h⟩ := h
  have h0 : Fin K mg xf W σ st (pI K mg σ st QI) F ow H ((fs G).bind fun rvs G1 => match (if rvs.length = 2 then Dv.derefs rvs G1 else none).bind rangeD with
    | some xs => .ok xs G1
    | none => .no) := by
    cases e : fs G with
    | no => dsimp only at h; rw [e] at h; exact h
    | ex c ds G1 => dsimp only at h; rw [e] at h; exact h
    | ok rvs G1 =>
      dsimp only at h; rw [e] at h
      show Fin K mg xf W σ st (pI K mg σ st QI) F ow H (match (if rvs.length = 2 then Dv.derefs rvs G1 else none).bind rangeD with
        | some xs => .ok xs G1
        | none => .no)
      rw [if_pos (two G rvs G1 e)]
      exact h
  refine run_A (pre := []) A mono_I h0 fun F1 ow1 H1 G1 rvs vs hl A1 h1 => ?_
  by_cases h1l : rvs.length = 2
  · rw [if_pos h1l] at h1
    cases e : Dv.derefs rvs G1 with
    | none => rw [e] at h1; exact h1.elim
    | some ds =>
      rw [e] at h1
      have h2 : Fin K mg xf W σ st (pI K mg σ st QI) F1 ow1 H1 (match rangeD ds with
        | some xs => .ok xs G1
        | none => .no) := h1
      have r := At.derefs hl A1 e
      have hlen : ds.length = 2 := by
        have gen : ∀ {rvs : List RV} {ds : List D}, Dv.derefs rvs G1 = some ds → ds.length = rvs.length := by
          intro rvs
          induction rvs with
          | nil => intro ds e; cases e; rfl
          | cons x t ih =>
            intro ds e
            have e' : (match Dv.deref x G1, Dv.derefs t G1 with
              | some d, some ds => some (d :: ds)
              | _, _ => none) = some ds := e
            cases q : Dv.deref x G1 with
            | none => rw [q] at e'; cases e'
            | some d0 =>
              cases q2 : Dv.derefs t G1 with
              | none => rw [q, q2] at e'; cases e'
              | some es => rw [q, q2] at e'; cases e'; rw [List.length_cons, List.length_cons, ih q2]
        rw [gen e, h1l]
      match ds, hlen, h2, r with
      | [d, d'], _, h2, r =>
        obtain ⟨v, u, o1, o2, rfl, r1, r2⟩ := r.two
        cases d with
        | int n =>
          cases d' with
          | int m =>
            have h3 : Fin K mg xf W σ st (pI K mg σ st QI) F1 ow1 H1 (match (if decide (-(2 ^ 62) ≤ n) && decide (n < 2 ^ 62) && decide (-(2 ^ 62) ≤ m) && decide (m < 2 ^ 62) then some ((List.range (m - n).toNat).map fun i => D.int (n + (i : Nat))) else none) with
              | some xs => .ok xs G1
              | none => .no) := h2
            by_cases hb : (decide (-(2 ^ 62) ≤ n) && decide (n < 2 ^ 62) && decide (-(2 ^ 62) ≤ m) && decide (m < 2 ^ 62)) = true
            · rw [if_pos hb] at h3
              rw [Bool.and_eq_true, Bool.and_eq_true, Bool.and_eq_true, decide_eq_true_eq, decide_eq_true_eq, decide_eq_true_eq, decide_eq_true_eq] at hb
              exact ⟨n, m, by rw [show v = .int n from r1, show u = .int m from r2], ⟨hb.1.1.1, hb.1.1.2, hb.1.2, hb.2⟩, h3 _ F1 ow1 H1 A1.popsOf .refl jw_rng⟩
            · rw [if_neg hb] at h3; exact h3.elim
          | _ => exact h2.elim
        | _ => exact h2.elim
  · rw [if_neg h1l] at h1; exact h1.elim
theorem listOf_frz {ds : List D} (h : listOf d = some ds) (r : Rf K mg F d v) : ∃ a vs, v = .ref a ∧ F a = some (.lst vs) ∧ Rfs K mg F ds vs := by
  cases d with
  | lst ys => cases h; exact r
  | mls ys => exact r.elim
  | _ => cases h
theorem tupOf_frz {ds : List D} (h : tupOf d = some ds) (r : Rf K mg F d v) : ∃ a vs, v = .ref a ∧ SqT K F a vs ∧ Rfs K mg F ds vs := by
  cases d with
  | tup ys => cases h; exact r
  | _ => cases h
theorem i_zip (h : tOfI K mg xf W (fun G => (fs G).bind fun rvs G1 => match Dv.takes rvs G1 with
    | some (ds, G2) => (match on2 zipX ds with
      | some (.tup xs) => .ok xs G2
      | _ => .no)
    | _ => .no) σ H QI) : RZ.iZipA K (tOfA K mg xf W fs) σ H QI := by
  obtain ⟨F, ow, G, st, A, h⟩ := h
  refine run_A (pre := []) A mono_I h fun F1 ow1 H1 G1 rvs vs hl A1 h1 => ?_
  cases e : Dv.takes rvs G1 with
  | none => rw [e] at h1; exact h1.elim
  | some q =>
    obtain ⟨ds, G2⟩ := q
    rw [e] at h1
    obtain ⟨F2, ow2, A2, X2, r2⟩ := At.takes hl A1 e
    have h2 : Fin K mg xf W σ st (pI K mg σ st QI) F1 ow1 H1 (match on2 zipX ds with
      | some (.tup xs) => .ok xs G2
      | _ => .no) := h1
    cases e2 : on2 zipX ds with
    | none => rw [e2] at h2; exact h2.elim
    | some z =>
      obtain ⟨d, d', rfl, ez⟩ := on2_some e2
      obtain ⟨v, t, rfl, r3, r4⟩ := r2
      obtain ⟨u, t', rfl, r5, r6⟩ := r4
      have et : t' = [] := r6
      subst et
      have A3 : At K mg F2 ow2 G2 σ H1 st := A2.popsOf
      have ez' : (match listOf d, listOf d' with
        | some xs, some ys => some (.tup (zipD xs ys))
        | _, _ => match tupOf d, tupOf d' with
          | some xs, some ys => some (.tup (zipD xs ys))
          | _, _ => none) = some z := ez
      have tupc : (match tupOf d, tupOf d' with
          | some xs, some ys => some (D.tup (zipD xs ys))
          | _, _ => none) = some z → ∃ a b xs ys, [v, u] = [.ref a, .ref b] ∧ ((SqL K H1 a xs ∧ SqL K H1 b ys ∧ QI (Itz K a b) H1) ∨ (SqT K H1 a xs ∧ SqT K H1 b ys ∧ QI (RZ.ItzT K a b) H1)) := fun ez => by
        cases q1 : tupOf d with
        | none => rw [q1] at ez; cases ez
        | some xs =>
          cases q2 : tupOf d' with
          | none => rw [q1, q2] at ez; cases ez
          | some ys =>
            rw [q1, q2] at ez
            cases ez
            rw [e2] at h2
            obtain ⟨a, vs, rfl, g1, g2⟩ := tupOf_frz q1 r3
            obtain ⟨b, us, rfl, g3, g4⟩ := tupOf_frz q2 r5
            exact ⟨a, b, vs, us, rfl, .inr ⟨A3.wd.fh.sqT g1, A3.wd.fh.sqT g3, h2 _ F2 ow2 H1 A3 X2 (jw_zipT g1 g2 g3 g4)⟩⟩
      cases q1 : listOf d with
      | none => rw [q1] at ez'; exact tupc ez'
      | some xs =>
        cases q2 : listOf d' with
        | none => rw [q1, q2] at ez'; exact tupc ez'
        | some ys =>
          rw [q1, q2] at ez'
          cases ez'
          rw [e2] at h2
          obtain ⟨a, vs, rfl, g1, g2⟩ := listOf_frz q1 r3
          obtain ⟨b, us, rfl, g3, g4⟩ := listOf_frz q2 r5
          exact ⟨a, b, vs, us, rfl, .inl ⟨SqL.of (A3.wd.fh _ _ g1), SqL.of (A3.wd.fh _ _ g3), h2 _ F2 ow2 H1 A3 X2 (jw_zip g1 g2 g3 g4)⟩⟩
theorem i_enum (h : tOfI K mg xf W (fun G => (fs G).bind fun rvs G1 => match Dv.takes rvs G1 with
    | some (ds, G2) => (match on1 enumX ds with
      | some (.tup xs) => .ok xs G2
      | _ => .no)
    | _ => .no) σ H QI) : iEnum K (tOfA K mg xf W fs) σ H QI := by
  obtain ⟨F, ow, G, st, A, h⟩ := h
  refine run_A (pre := []) A mono_I h fun F1 ow1 H1 G1 rvs vs hl A1 h1 => ?_
  cases e : Dv.takes rvs G1 with
  | none => rw [e] at h1; exact h1.elim
  | some q =>
    obtain ⟨ds, G2⟩ := q
    rw [e] at h1
    obtain ⟨F2, ow2, A2, X2, r2⟩ := At.takes hl A1 e
    have h2 : Fin K mg xf W σ st (pI K mg σ st QI) F1 ow1 H1 (match on1 enumX ds with
      | some (.tup xs) => .ok xs G2
      | _ => .no) := h1
    cases e2 : on1 enumX ds with
    | none => rw [e2] at h2; exact h2.elim
    | some z =>
      obtain ⟨d, rfl, ez⟩ := on1_some e2
      obtain ⟨v, rfl, r3⟩ := r2.one'
      have A3 : At K mg F2 ow2 G2 σ H1 st := A2.popsOf
      obtain ⟨xs, q1, rfl⟩ := Option.map_eq_some_iff.mp (show (listOf d).map (fun xs => D.tup (enumD xs)) = some z from ez)
      rw [e2] at h2
      obtain ⟨a, vs, rfl, g1, g2⟩ := listOf_frz q1 r3
      exact ⟨a, vs, rfl, SqL.of (A3.wd.fh _ _ g1), h2 _ F2 ow2 H1 A3 X2 (jw_enum g1 g2)⟩
end
end Dv
end
section
set_option Elab.async false
set_option linter.all false
set_option maxRecDepth 100000
set_option maxHeartbeats 2000000
/-! Dv13: more statements. -/
namespace Dv
open PySem L2
section
variable {K : PySem.W.Frag} {mg : Str → Option Value} {xf : Str → List Str} {W : WX} {p : Nat → Bool} {C : Ctx} {F F' F1 F2 H H' H1 H2 : Hp} {ow ow' ow1 ow2 : Ows} {G G1 : GEnv} {σ σ' σ1 : St} {st pre : List (RV × V)} {o o' : Own} {d : D} {v : V} {rv : RV} {Q : VK} {En : Ends}
variable {fa fb fc fe : GEnv → R RV} {fs : GEnv → R (List RV)} {fi : GEnv → R (List D)}
theorem At.own1 {x : RV} {v : V} {G1 : GEnv} (A : At K mg F ow G σ H (pre ++ (x, v) :: st)) (e : Dv.own x G = some (d, G1)) : ∃ F' ow', At K mg F' ow' G1 σ H (pre ++ (.val d, v) :: st) ∧ Ext F ow H F' ow' H := by
  cases x with
  | val d0 =>
    have e' : some (d0, G) = some (d, G1) := e
    cases e'
    exact ⟨F, ow, A, .refl⟩
  | slot i =>
    obtain ⟨F', ow', A', X, _⟩ := At.take (pre := pre) A (show Dv.take (.slot i) G = some (d, G1) from e)
    exact ⟨F', ow', A', X⟩
/-- a, b = x, y -/
theorem s_par2 {i j : Nat} (hij : i ≠ j) (h : tOfS K mg xf W p (fun G => if [i, j].any p then .no else (fs G).bind fun xs G1 => match owns xs G1 with
    | some (ds, G2) => (match setsG [i, j] ds G2 with
      | some G3 => .ok .nx G3
      | none => .no)
    | none => .no) En σ H) : tPar i j (tOfA K mg xf W fs) En σ H := by
  obtain ⟨F, ow, G, A, h⟩ := h
  dsimp only at h
  by_cases hp : [i, j].any p = true
  · rw [if_pos hp] at h; exact h.elim
  · rw [if_neg hp] at h
    have hpi : p i = false := by
      cases q : p i with
      | false => rfl
      | true => exact absurd (by simp [q]) hp
    have hpj : p j = false := by
      cases q : p j with
      | false => rfl
      | true => exact absurd (by simp [q]) hp
    refine run_AS A h fun F1 ow1 H1 G1 rvs vs hl A1 h1 => ?_
    match rvs, vs, hl with
    | [], [], _ => exact h1.elim
    | [x], [v], _ =>
      have h1' : FinS K mg xf W p En σ F1 ow1 H1 (match owns [x] G1 with
        | some (ds, G2) => (match setsG [i, j] ds G2 with
          | some G3 => .ok .nx G3
          | none => .no)
        | none => .no) := h1
      have e : owns [x] G1 = (match own x G1 with
        | some (d, G1) => some ([d], G1)
        | none => none) := by
        show (match own x G1 with
          | some (d, G1) => (owns [] G1).map fun (q : List D × GEnv) => (d :: q.1, q.2)
          | none => none) = _
        cases own x G1 <;> rfl
      rw [e] at h1'
      cases q : own x G1 with
      | none => rw [q] at h1'; exact h1'.elim
      | some r =>
        rw [q] at h1'
        have h2 : FinS K mg xf W p En σ F1 ow1 H1 (match setsG [i, j] [r.1] r.2 with
          | some G3 => .ok .nx G3
          | none => .no) := h1'
        have : setsG [i, j] [r.1] r.2 = none := by
          show (if i < r.2.length then none else none) = none
          split <;> rfl
        rw [this] at h2
        exact h2.elim
    | [x, y], [v, w], _ =>
      have h1' : FinS K mg xf W p En σ F1 ow1 H1 (match (match own x G1 with
        | some (d, G1) => (match own y G1 with
          | some (e, G1) => some ([d, e], G1)
          | none => none)
        | none => none) with
        | some (ds, G2) => (match setsG [i, j] ds G2 with
          | some G3 => .ok .nx G3
          | none => .no)
        | none => .no) := by
        have e : owns [x, y] G1 = (match own x G1 with
          | some (d, G1) => (match own y G1 with
            | some (e, G1) => some ([d, e], G1)
            | none => none)
          | none => none) := by
          show (match own x G1 with
            | some (d, G1) => (owns [y] G1).map fun (q : List D × GEnv) => (d :: q.1, q.2)
            | none => none) = _
          cases own x G1 with
          | none => rfl
          | some r =>
            show ((match own y r.2 with
              | some (d, G1) => (owns [] G1).map fun (q : List D × GEnv) => (d :: q.1, q.2)
              | none => none).map fun (q : List D × GEnv) => (r.1 :: q.1, q.2)) = _
            cases q : own y r.2 with
            | none => simp [q]
            | some t => simp [q, owns]
        rw [← e]
        exact h1
      have A1' : At K mg F1 ow1 G1 σ H1 ([(y, w)] ++ (x, v) :: []) := A1
      cases q1 : own x G1 with
      | none => rw [q1] at h1'; exact h1'.elim
      | some r =>
        obtain ⟨d, G2⟩ := r
        rw [q1] at h1'
        obtain ⟨F2, ow2, A2, X2⟩ := A1'.own1 q1
        have h2 : FinS K mg xf W p En σ F1 ow1 H1 (match (match own y G2 with
          | some (e, G1) => some ([d, e], G1)
          | none => none) with
          | some (ds, G2) => (match setsG [i, j] ds G2 with
            | some G3 => .ok .nx G3
            | none => .no)
          | none => .no) := h1'
        cases q2 : own y G2 with
        | none => rw [q2] at h2; exact h2.elim
        | some r =>
          obtain ⟨e, G3⟩ := r
          rw [q2] at h2
          obtain ⟨F3, ow3, A3, X3⟩ := At.own1 (pre := []) (st := [(.val d, v)]) A2 q2
          have h3 : FinS K mg xf W p En σ F1 ow1 H1 (match (if i < G3.length then (if j < (G3.set i (some d)).length then some ((G3.set i (some d)).set j (some e)) else none) else none) with
            | some G3 => .ok .nx G3
            | none => .no) := h2
          by_cases hi : i < G3.length
          · by_cases hj : j < G3.length
            · rw [if_pos hi, if_pos (by rw [List.length_set]; exact hj)] at h3
              have ns : noSlot [(RV.val d, v)] := fun q hq => ⟨d, by rw [List.mem_singleton.mp hq]⟩
              have A4 := At.bind A3 ns hj
              have A5 := At.bind A4 (fun _ hm => by cases hm) (by rw [List.length_set]; exact hi)
              rw [List.set_comm _ _ (Ne.symm hij), List.set_comm _ _ (Ne.symm hij)] at A5
              exact ⟨v, w, rfl, h3 _ _ _ _ A5 ((PrEq.set hpi).trans (PrEq.set hpj)) (((X2.trans X3).trans mov_ext).trans mov_ext)⟩
            · rw [if_pos hi, if_neg (by rw [List.length_set]; exact hj)] at h3; exact h3.elim
          · rw [if_neg hi] at h3; exact h3.elim
    | x :: y :: z :: t, v :: w :: u :: s, _ =>
      have h1' : FinS K mg xf W p En σ F1 ow1 H1 (match owns (x :: y :: z :: t) G1 with
        | some (ds, G2) => (match setsG [i, j] ds G2 with
          | some G3 => .ok .nx G3
          | none => .no)
        | none => .no) := h1
      have len : ∀ {rvs : List RV} {G : GEnv} {ds : List D} {G' : GEnv}, owns rvs G = some (ds, G') → ds.length = rvs.length := by
        intro rvs
        induction rvs with
        | nil => intro G ds G' e; cases e; rfl
        | cons a b ih =>
          intro G ds G' e
          have e' : (match own a G with
            | some (d, G1) => (owns b G1).map fun q => (d :: q.1, q.2)
            | none => none) = some (ds, G') := e
          cases q : own a G with
          | none => rw [q] at e'; cases e'
          | some r =>
            rw [q] at e'
            obtain ⟨⟨d1, d2⟩, e1, e2⟩ := Option.map_eq_some_iff.mp (show (owns b r.2).map (fun q => (r.1 :: q.1, q.2)) = some (ds, G') from e')
            cases e2
            rw [List.length_cons, List.length_cons, ih e1]
      cases q : owns (x :: y :: z :: t) G1 with
      | none => rw [q] at h1'; exact h1'.elim
      | some r =>
        obtain ⟨ds, G2⟩ := r
        rw [q] at h1'
        have hlen := len q
        match ds, hlen with
        | a :: b :: c :: l, _ =>
          have h2 : FinS K mg xf W p En σ F1 ow1 H1 (match setsG [i, j] (a :: b :: c :: l) G2 with
            | some G3 => .ok .nx G3
            | none => .no) := h1'
          have : setsG [i, j] (a :: b :: c :: l) G2 = none := by
            show (if i < G2.length then (if j < (G2.set i (some a)).length then none else none) else none) = none
            split
            · split <;> rfl
            · rfl
          rw [this] at h2
          exact h2.elim
theorem s_setIx {i : Nat} {ti : GEnv → R RV} (h : tOfS K mg xf W p (fun G => (fe G).bind fun x G1 => (match getS G1 i with
      | some _ => (ti G1).bind fun y G2 => (match Dv.take x G2 with
        | some (d, G3) => (match getS G3 i, Dv.deref y G3 with
          | some s, some j => (match setIxD s j d with
            | some s' => .ok .nx (G3.set i (some s'))
            | none => .no)
          | _, _ => .no)
        | none => .no)
      | none => .no)) En σ H) : tAsg (tOf K mg xf W fe) (gSub (tVar i) (tOf K mg xf W ti) rSetL) En σ H := by
  obtain ⟨F, ow, G, A, h⟩ := h
  refine run_ES A h fun F1 ow1 H1 G1 x v A1 h1 => ?_
  cases e0 : getS G1 i with
  | none => rw [e0] at h1; exact h1.elim
  | some d0 =>
    rw [e0] at h1
    obtain ⟨u, hu, _⟩ := A1.env i d0 e0
    have h2 : FinS K mg xf W p En σ F1 ow1 H1 ((ti G1).bind fun y G2 => (match Dv.take x G2 with
        | some (d, G3) => (match getS G3 i, Dv.deref y G3 with
          | some s, some j => (match setIxD s j d with
            | some s' => .ok .nx (G3.set i (some s'))
            | none => .no)
          | _, _ => .no)
        | none => .no)) := h1
    refine ⟨u, hu, F1, ow1, G1, [(x, v)], A1, ?_⟩
    cases e1 : ti G1 with
    | no => rw [e1] at h2; exact h2
    | ex c ds G2 =>
      rw [e1] at h2
      exact fun cls dd F' ow' H' e A y => h2 cls dd σ F' ow' H' e A.pop (.refl p) y
    | ok y G2 =>
      rw [e1] at h2
      intro w F2 ow2 H2 A2 X2
      have A2' : At K mg F2 ow2 G2 σ H2 ([(y, w)] ++ (x, v) :: []) := A2
      have h3 : FinS K mg xf W p En σ F1 ow1 H1 (match Dv.take x G2 with
        | some (d, G3) => (match getS G3 i, Dv.deref y G3 with
          | some s, some j => (match setIxD s j d with
            | some s' => .ok .nx (G3.set i (some s'))
            | none => .no)
          | _, _ => .no)
        | none => .no) := h2
      cases e2 : Dv.take x G2 with
      | none => rw [e2] at h3; exact h3.elim
      | some q =>
        obtain ⟨d, G3⟩ := q
        rw [e2] at h3
        obtain ⟨F3, ow3, A3, X3, r3⟩ := At.take (pre := [(y, w)]) A2' e2
        have h4 : FinS K mg xf W p En σ F1 ow1 H1 (match getS G3 i, Dv.deref y G3 with
          | some s, some j => (match setIxD s j d with
            | some s' => .ok .nx (G3.set i (some s'))
            | none => .no)
          | _, _ => .no) := h3
        cases e3 : getS G3 i with
        | none => rw [e3] at h4; exact h4.elim
        | some s =>
          cases e4 : Dv.deref y G3 with
          | none => rw [e3, e4] at h4; exact h4.elim
          | some j =>
            rw [e3, e4] at h4
            have h5 : FinS K mg xf W p En σ F1 ow1 H1 (match setIxD s j d with
              | some s' => .ok .nx (G3.set i (some s'))
              | none => .no) := h4
            cases e5 : setIxD s j d with
            | none => rw [e5] at h5; exact h5.elim
            | some s' =>
              rw [e5] at h5
              obtain ⟨o1, r4⟩ := At.deref (pre := []) A3 e4
              cases s with
              | mls xs =>
                cases j with
                | int k =>
                  have e5' : (match ixN xs.length k with
                    | some j => some (D.mls (xs.set j d))
                    | none => none) = some s' := e5
                  cases e6 : ixN xs.length k with
                  | none => rw [e6] at e5'; cases e5'
                  | some jj =>
                    rw [e6] at e5'
                    cases e5'
                    obtain ⟨u', hu', a, us, ea, ha, hoa, hr⟩ := A3.env i _ e3
                    rw [hu] at hu'; cases hu'
                    refine ⟨a, us, k, jj, ea, r4, ha, by rw [hr.len]; exact e6, ?_⟩
                    have A4 : At K mg F3 ow3 (G3.set i (some (.mls (xs.set jj d)))) σ (upd H2 a (.lst (us.set jj v))) [] :=
                      (At.pops (pre := [(y, w), (.val d, v)]) A3).updS hoa (getS_lt e3) hu ⟨a, us.set jj v, ea, upd_same, hoa, hr.set jj r3⟩
                    exact h5 σ F3 ow3 _ A4 (.refl p) ((X2.trans X3).trans (upd_ext hoa))
                | _ => cases e5
              | _ => cases e5

/-! ### op= -/
def rAug : BOp → TIp
  | .add => rI0 fun i j => .int (i + j)
  | .sub => rI0 fun i j => .int (i - j)
  | .mul => rI CMul fun i j => .int (i * j)
  | .fdiv => rI CDiv fun i j => .int (i / j)
  | .mod => rI (fun _ j => 0 < j) fun i j => .int (i % j)
  | .pow => fun _ _ _ _ => False
theorem ip_aug {X : Cx} : ∀ o : BOp, PIp X o.op (rAug o)
  | .add => iop_add
  | .sub => iop_sub
  | .mul => iop_mul
  | .fdiv => iop_fdiv
  | .mod => iop_mod
  | .pow => fun _ _ _ _ _ _ _ _ _ _ _ _ h => h.elim
theorem aug_ok {op : BOp} {i j c : Int} (h : augI op i j = some c) (q : Q (.int c) H) : rAug op (.int i) (.int j) H Q := by
  cases op with
  | add => cases h; exact ⟨i, j, rfl, rfl, q⟩
  | sub => cases h; exact ⟨i, j, rfl, rfl, q⟩
  | mul =>
    have h' : (if mulOk i j = true then some (i * j) else none) = some c := h
    by_cases hm : mulOk i j = true
    · rw [if_pos hm] at h'
      cases h'
      refine ⟨i, j, rfl, rfl, ?_, q⟩
      unfold mulOk at hm
      rw [Bool.or_eq_true, decide_eq_true_eq, decide_eq_true_eq] at hm
      unfold CMul
      omega
    · rw [if_neg hm] at h'; cases h'
  | fdiv =>
    have h' : (if (decide (0 < j) && decide (j < 1073741824)) = true then some (i / j) else none) = some c := h
    by_cases hm : (decide (0 < j) && decide (j < 1073741824)) = true
    · rw [if_pos hm] at h'
      cases h'
      rw [Bool.and_eq_true, decide_eq_true_eq, decide_eq_true_eq] at hm
      exact ⟨i, j, rfl, rfl, hm, q⟩
    · rw [if_neg hm] at h'; cases h'
  | mod =>
    have h' : (if decide (0 < j) = true then some (i % j) else none) = some c := h
    by_cases hm : decide (0 < j) = true
    · rw [if_pos hm] at h'
      cases h'
      exact ⟨i, j, rfl, rfl, of_decide_eq_true hm, q⟩
    · rw [if_neg hm] at h'; cases h'
  | pow => cases h
theorem s_aug {i : Nat} {op : BOp} (h : tOfS K mg xf W p (fun G => if p i then .no else match getS G i with
    | some (.int a) => (fe G).bind fun x G1 => (match Dv.deref x G1 with
      | some (.int b) => (match augI op a b with
        | some c => if i < G1.length then .ok .nx (G1.set i (some (.int c))) else .no
        | none => .no)
      | _ => .no)
    | _ => .no) En σ H) : tAug i (tOf K mg xf W fe) (rAug op) En σ H := by
  obtain ⟨F, ow, G, A, h⟩ := h
  dsimp only at h
  by_cases hp : p i = true
  · rw [if_pos hp] at h; exact h.elim
  · rw [if_neg hp] at h
    cases e0 : getS G i with
    | none => rw [e0] at h; exact h.elim
    | some d0 =>
      cases d0 with
      | int a =>
        rw [e0] at h
        obtain ⟨v, hv, r0⟩ := A.env i _ e0
        have hv2 : v = .int a := r0
        subst hv2
        have h' : FinS K mg xf W p En σ F ow H ((fe G).bind fun x G1 => (match Dv.deref x G1 with
          | some (.int b) => (match augI op a b with
            | some c => if i < G1.length then .ok .nx (G1.set i (some (.int c))) else .no
            | none => .no)
          | _ => .no)) := h
        refine ⟨_, hv, run_ES A h' fun F1 ow1 H1 G1 x u A1 h1 => ?_⟩
        cases e1 : Dv.deref x G1 with
        | none => rw [e1] at h1; exact h1.elim
        | some d1 =>
          cases d1 with
          | int b =>
            rw [e1] at h1
            obtain ⟨o1, r1⟩ := At.deref (pre := []) A1 e1
            rw [show u = .int b from r1]
            have h2 : FinS K mg xf W p En σ F1 ow1 H1 (match augI op a b with
              | some c => if i < G1.length then .ok .nx (G1.set i (some (.int c))) else .no
              | none => .no) := h1
            cases e2 : augI op a b with
            | none => rw [e2] at h2; exact h2.elim
            | some c =>
              rw [e2] at h2
              have h3 : FinS K mg xf W p En σ F1 ow1 H1 (if i < G1.length then .ok .nx (G1.set i (some (.int c))) else .no) := h2
              by_cases hi : i < G1.length
              · rw [if_pos hi] at h3
                refine aug_ok e2 ?_
                have A2 := (A1.pop.pushF (x := .int c) (u := .int c) rfl).bind (fun _ hm => by cases hm) hi
                exact h3 _ _ _ _ A2 (PrEq.set (by simpa using hp)) mov_ext
              · rw [if_neg hi] at h3; exact h3.elim
          | _ => rw [e1] at h1; exact h1.elim
      | _ => rw [e0] at h; exact h.elim
theorem get_list {X : Cx} : PGet X (rIxL X.K) := by
  intro pins s σ H x y v u Q I rx ry h
  obtain ⟨p, xs, i, z, rfl, rfl, hq, he, q⟩ := h
  cases rx
  obtain ⟨t, rfl⟩ := ry
  obtain ⟨its, r, pl, hz⟩ := I.list hq
  obtain ⟨j, h1, h2, h3, h4, h5⟩ := atI_get he
  obtain ⟨w, ew, rw'⟩ := r.get h2
  have hl := r.length
  have hn := line63
  have fin : EP X pins σ Q w s := ⟨z, H, I, rw', q⟩
  by_cases h0 : 0 ≤ i
  · have hj : i.toNat = j := by
      rw [seqIndex_of h0 h5] at h1
      exact Option.some.inj h1
    exact wpAny_getItem_list pl.isList h0 (by omega) (by rw [hj]; simpa using ew) fin
  · have hj : (i + (its.toArray.size : Int)).toNat = j := by
      rw [seqIndex_neg (by omega) h4] at h1
      rw [List.size_toArray, ← hl]
      exact Option.some.inj h1
    exact wpAny_getItem_list_neg pl.isList (by omega) (by rw [List.size_toArray] <;> omega) (by omega) (by rw [hj]; simpa using ew) fin
theorem s_augIx {k : Nat} {op : BOp} {ti : GEnv → R RV} (h : tOfS K mg xf W p (fun G => (match getS G k with
      | some _ => (ti G).bind fun y G1 => (match getS G1 k, Dv.deref y G1 with
        | some s, some j => (match ixL s j with
          | some (.int a) => (fe G1).bind fun x G2 => (match Dv.deref x G2 with
            | some (.int b) => (match augI op a b, getS G2 k, Dv.deref y G2 with
              | some c, some s', some j' => (match setIxD s' j' (.int c) with
                | some s2 => .ok .nx (G2.set k (some s2))
                | none => .no)
              | _, _, _ => .no)
            | _ => .no)
          | _ => .no)
        | _, _ => .no)
      | none => .no)) En σ H) : tAugS (tVar k) (tOf K mg xf W ti) (tOf K mg xf W fe) (rIxL K) (rAug op) rSetL En σ H := by
  obtain ⟨F, ow, G, A, h⟩ := h
  dsimp only at h
  cases e0 : getS G k with
  | none => rw [e0] at h; exact h.elim
  | some d0 =>
    rw [e0] at h
    obtain ⟨u, hu, _⟩ := A.env k d0 e0
    refine ⟨u, hu, run_ES A h fun F1 ow1 H1 G1 y w A1 h1 => ?_⟩
    cases e1 : getS G1 k with
    | none => rw [e1] at h1; exact h1.elim
    | some s =>
      cases e2 : Dv.deref y G1 with
      | none => rw [e1, e2] at h1; exact h1.elim
      | some j =>
        rw [e1, e2] at h1
        cases s with
        | mls xs =>
          cases j with
          | int n =>
            obtain ⟨u', hu', a, us, ea, ha, hoa, hr⟩ := A1.env k _ e1
            rw [hu] at hu'; cases hu'
            obtain ⟨o1, r1⟩ := At.deref (pre := []) A1 e2
            have r1' : w = .int n := r1
            subst r1'
            have h2 : FinS K mg xf W p En σ F1 ow1 H1 (match atI xs n with
              | some (.int a) => (fe G1).bind fun x G2 => (match Dv.deref x G2 with
                | some (.int b) => (match augI op a b, getS G2 k, Dv.deref y G2 with
                  | some c, some s', some j' => (match setIxD s' j' (.int c) with
                    | some s2 => .ok .nx (G2.set k (some s2))
                    | none => .no)
                  | _, _, _ => .no)
                | _ => .no)
              | _ => .no) := h1
            cases e3 : atI xs n with
            | none => rw [e3] at h2; exact h2.elim
            | some d1 =>
              cases d1 with
              | int b0 =>
                rw [e3] at h2
                obtain ⟨v1, g1, g2⟩ := hr.atI e3
                have g2' : v1 = .int b0 := g2
                subst g2'
                refine ⟨a, us, n, _, ea, rfl, SqL.of ha, g1, ?_⟩
                have h3 : FinS K mg xf W p En σ F1 ow1 H1 ((fe G1).bind fun x G2 => (match Dv.deref x G2 with
                  | some (.int b) => (match augI op b0 b, getS G2 k, Dv.deref y G2 with
                    | some c, some s', some j' => (match setIxD s' j' (.int c) with
                      | some s2 => .ok .nx (G2.set k (some s2))
                      | none => .no)
                    | _, _, _ => .no)
                  | _ => .no)) := h2
                refine ⟨F1, ow1, G1, [(y, .int n)], A1, ?_⟩
                cases e4 : fe G1 with
                | no => rw [e4] at h3; exact h3
                | ex c ds G2 =>
                  rw [e4] at h3
                  exact fun cls dd F' ow' H' e A y => h3 cls dd σ F' ow' H' e A.pop (.refl p) y
                | ok x G2 =>
                  rw [e4] at h3
                  intro v2 F2 ow2 H2 A2 X2
                  have h4 : FinS K mg xf W p En σ F1 ow1 H1 (match Dv.deref x G2 with
                    | some (.int b) => (match augI op b0 b, getS G2 k, Dv.deref y G2 with
                      | some c, some s', some j' => (match setIxD s' j' (.int c) with
                        | some s2 => .ok .nx (G2.set k (some s2))
                        | none => .no)
                      | _, _, _ => .no)
                    | _ => .no) := h3
                  cases e5 : Dv.deref x G2 with
                  | none => rw [e5] at h4; exact h4.elim
                  | some d2 =>
                    cases d2 with
                    | int b =>
                      rw [e5] at h4
                      obtain ⟨o2, r2⟩ := At.deref (pre := []) A2 e5
                      rw [show v2 = .int b from r2]
                      have h5 : FinS K mg xf W p En σ F1 ow1 H1 (match augI op b0 b, getS G2 k, Dv.deref y G2 with
                        | some c, some s', some j' => (match setIxD s' j' (.int c) with
                          | some s2 => .ok .nx (G2.set k (some s2))
                          | none => .no)
                        | _, _, _ => .no) := h4
                      cases e6 : augI op b0 b with
                      | none => rw [e6] at h5; exact h5.elim
                      | some c =>
                        cases e7 : getS G2 k with
                        | none => rw [e6, e7] at h5; exact h5.elim
                        | some s' =>
                          cases e8 : Dv.deref y G2 with
                          | none => rw [e6, e7, e8] at h5; exact h5.elim
                          | some j' =>
                            rw [e6, e7, e8] at h5
                            have h6 : FinS K mg xf W p En σ F1 ow1 H1 (match setIxD s' j' (.int c) with
                              | some s2 => .ok .nx (G2.set k (some s2))
                              | none => .no) := h5
                            cases e9 : setIxD s' j' (.int c) with
                            | none => rw [e9] at h6; exact h6.elim
                            | some s2 =>
                              rw [e9] at h6
                              refine aug_ok e6 ?_
                              obtain ⟨o3, r3⟩ := At.deref (pre := [(x, v2)]) A2 e8
                              cases s' with
                              | mls ys =>
                                cases j' with
                                | int n' =>
                                  have r3' : V.int n = V.int n' := r3
                                  cases r3'
                                  have e9' : (match ixN ys.length n with
                                    | some j => some (D.mls (ys.set j (.int c)))
                                    | none => none) = some s2 := e9
                                  cases e10 : ixN ys.length n with
                                  | none => rw [e10] at e9'; cases e9'
                                  | some jj =>
                                    rw [e10] at e9'
                                    cases e9'
                                    obtain ⟨u'', hu'', a', us', ea', ha', hoa', hr'⟩ := A2.env k _ e7
                                    rw [hu] at hu''; cases hu''
                                    refine ⟨a', us', n, jj, ea', rfl, ha', by rw [hr'.len]; exact e10, ?_⟩
                                    have A4 : At K mg F2 ow2 (G2.set k (some (.mls (ys.set jj (.int c))))) σ (upd H2 a' (.lst (us'.set jj (.int c)))) [] :=
                                      (At.pops (pre := [(x, v2), (y, .int n)]) A2).updS hoa' (getS_lt e7) hu ⟨a', us'.set jj (.int c), ea', upd_same, hoa', hr'.set jj rfl⟩
                                    exact h6 σ F2 ow2 _ A4 (.refl p) (X2.trans (upd_ext hoa'))
                                | _ => cases e9
                              | _ => cases e9
                    | _ => rw [e5] at h4; exact h4.elim
              | _ => rw [e3] at h2; exact h2.elim
          | _ => exact h1.elim
        | _ => cases j <;> exact h1.elim
end
end Dv
end
section
set_option Elab.async false
set_option linter.all false
set_option maxRecDepth 100000
set_option maxHeartbeats 2000000
/-! Dv14: nodes: a written expression does what the evaluator says. -/
namespace Dv
open PySem L2
/-- a def that may be called -/
structure Cl (X : Cx) (xf : Str → List Str) (C : Ctx) (f : Str) (np : Nat) : Prop where
  ex : ∃ (fa : Addr) (fd : FuncData) (ps : List Str) (k : Nat), FnOk X.prog X.w X.K X.mg X.base (L2.CX X.prog X.w) k fa fd ps (spF X.K X.mg xf np (C.md f) (C.cal f)) ∧ Room k X.A ∧ X.mg f = some (.ref fa) ∧ PySem.W.keepIn X.K (.ref fa) = true ∧ Binds X.K fd ps []
  ok : CalOk (C.cal f) np
/-- the context of a body -/
structure Cok (X : Cx) (xf : Str → List Str) (W : WX) (C : Ctx) (sg : List (Str × Nat)) (fr : List Str) : Prop where
  calm : X.calm = true
  nd : X.N.Nodup
  room : Room 0 X.A
  tk : Takes X W
  cl : ∀ f np, sg.lookup f = some np → Cl X xf C f np
  free : ∀ x, fr.contains x = true → X.mg x = none
section
variable {X : Cx} {xf : Str → List Str} {W : WX} {C : Ctx} {sg : List (Str × Nat)} {fr : List Str}
theorem Cok.blk (O : Cok X xf W C sg fr) {s : Shared} {H : Hp} {sc : Scope} {ce : Env} {fp : List Addr} : Cok (X.blk s H sc ce fp) xf W0 C sg fr where
  calm := O.calm
  nd := O.nd
  room := O.room
  tk := takes0
  cl := fun f np h => ⟨(O.cl f np h).ex, (O.cl f np h).ok⟩
  free := O.free
abbrev NE (X : Cx) (xf : Str → List Str) (W : WX) (C : Ctx) (e : Expr) (x : Exp) : Prop := PE X e (tOf X.K X.mg xf W (evE C x))
abbrev NA (X : Cx) (xf : Str → List Str) (W : WX) (C : Ctx) (es : List Expr) (xs : Exps) : Prop := PA X es (tOfA X.K X.mg xf W (evEs C xs))
abbrev NO (X : Cx) (xf : Str → List Str) (W : WX) (C : Ctx) (e : Option Expr) (x : Opt) : Prop := PO X e (tOfO X.K X.mg xf W (evO C x))
abbrev NT (X : Cx) (xf : Str → List Str) (W : WX) (C : Ctx) (e : Expr) (x : Tst) : Prop := PT X e (tOfT X.K X.mg xf W (evT C x))
abbrev NW (X : Cx) (xf : Str → List Str) (W : WX) (C : Ctx) (e : Expr) (x : Tst) : Prop := PW X e (tOfT X.K X.mg xf W (evT C x))
abbrev NI (X : Cx) (xf : Str → List Str) (W : WX) (C : Ctx) (tg e : Expr) (x : Ite) : Prop := PI X tg e (tOfI X.K X.mg xf W (evI C x))
abbrev NS (X : Cx) (xf : Str → List Str) (W : WX) (C : Ctx) (s : Stmt) (x : Sta) : Prop := PS X s (tOfS X.K X.mg xf W C.pr (evS C x))
abbrev NB (X : Cx) (xf : Str → List Str) (W : WX) (C : Ctx) (s : List Stmt) (x : Stas) : Prop := PSs X s (tOfS X.K X.mg xf W C.pr (evSs C x))
theorem pe_imp {e : Expr} {t t' : TE} (h : PE X e t) (i : ∀ σ H Q, t' σ H Q → t σ H Q) : PE X e t' := ⟨fun pins s σ H Q I hw => h.run pins s σ H Q I (i σ H Q hw)⟩
theorem pa_imp {e : List Expr} {t t' : TA} (h : PA X e t) (i : ∀ σ H Q, t' σ H Q → t σ H Q) : PA X e t' := ⟨fun pos pins s σ H Q I hw => h.run pos pins s σ H Q I (i σ H Q hw)⟩
theorem po_imp {e : Option Expr} {t t' : TO} (h : PO X e t) (i : ∀ σ H Q, t' σ H Q → t σ H Q) : PO X e t' := ⟨fun pins s σ H Q I hw => h.run pins s σ H Q I (i σ H Q hw)⟩
theorem pt_imp {e : Expr} {t t' : TT} (h : PT X e t) (i : ∀ σ H Q, t' σ H Q → t σ H Q) : PT X e t' := ⟨fun pins s σ H Q I hw => h.run pins s σ H Q I (i σ H Q hw)⟩
theorem pw_imp {e : Expr} {t t' : TT} (h : PW X e t) (i : ∀ σ H Q, t' σ H Q → t σ H Q) : PW X e t' := ⟨fun wh pins s σ H Q I hw => h.run wh pins s σ H Q I (i σ H Q hw)⟩
theorem pi_imp {tg e : Expr} {t t' : TI} (h : PI X tg e t) (i : ∀ σ H Q, t' σ H Q → t σ H Q) : PI X tg e t' := ⟨fun pins s σ H Q I hw => h.run pins s σ H Q I (i σ H Q hw)⟩
theorem ps_imp {st : Stmt} {t t' : TS} (h : PS X st t) (i : ∀ En σ H, t' En σ H → t En σ H) : PS X st t' := ⟨fun pins s σ H D I hw => h.run pins s σ H D I (i D σ H hw)⟩
theorem pss_imp {st : List Stmt} {t t' : TS} (h : PSs X st t) (i : ∀ En σ H, t' En σ H → t En σ H) : PSs X st t' := ⟨fun pins s σ H D I hw => h.run pins s σ H D I (i D σ H hw)⟩
variable {e a b c : Expr} {es rest : List Expr} {pos p pos' : Pos} {x y z : Exp} {xs : Exps} {k j : Nat}

/-! ### expressions -/
theorem n_var {i : Nat} {v : Str} (hN : X.N[i]? = some v := by rfl) (hv : Vis X.env.scope v := by first | exact Or.inl rfl | exact Or.inr (Or.inl rfl) | exact Or.inr (Or.inr rfl)) (hd : (v == ("__debug__" : Str)) = false := by decide) (hcd : (v == ("__classdict__" : Str)) = false := by decide) :
    NE X xf W C (.Name v pos) (.var i) := pe_imp (pe_var hN hv hd hcd) fun _ _ _ => r_var
theorem n_non : NE X xf W C (.Constant .none j pos) .non := pe_imp pe_non fun _ _ _ => r_const fun _ => rfl
theorem n_bl {b : Bool} : NE X xf W C (.Constant (.bool b) j pos) (.bl b) := pe_imp pe_bl fun _ _ _ => r_const fun _ => rfl
theorem n_int {i : Int} : NE X xf W C (.Constant (.int i) j pos) (.int i) := pe_imp pe_int fun _ _ _ => r_const fun _ => rfl
theorem n_str {s : Str} : NE X xf W C (.Constant (.str s) j pos) (.str s) := pe_imp pe_str fun _ _ _ => r_const fun _ => rfl
theorem n_fn (O : Cok X xf W C sg fr) {f : Str} {np : Nat} (h : sg.lookup f = some np := by rfl) (hg : Gl X f := by rfl) (hd : (f == ("__debug__" : Str)) = false := by decide) : NE X xf W C (.Name f pos) (.fnr f) := by
  obtain ⟨fa, _, _, _, _, _, hm, _⟩ := (O.cl f np h).ex
  exact pe_imp (pe_glob (v := .ref fa) hg hm rfl hd) fun _ _ _ => r_const fun _ => ⟨fa, hm, rfl⟩
theorem n_bin (o : BOp) (ha : NE X xf W C a x) (hb : NE X xf W C b y) : NE X xf W C (.BinOp a o.op b pos) (.bin o x y) := pe_imp (pe_op (op_bin o) ha hb) fun _ _ _ => r_bin
theorem n_neg (ha : NE X xf W C a x) : NE X xf W C (.UnaryOp .USub a pos) (.neg x) := pe_imp (pe_un un_neg ha) fun _ _ _ => r_neg
theorem n_not (ha : NE X xf W C a x) : NE X xf W C (.UnaryOp .Not a pos) (.not x) := pe_imp (pe_notT ha) fun _ _ _ => r_not
theorem n_one {op} (ha : NE X xf W C a x) : NE X xf W C (.BoolOp op [a] pos) x := pe_one ha
theorem n_and (ha : NE X xf W C a x) (hb : NE X xf W C (.BoolOp .And (b :: rest) pos) y) : NE X xf W C (.BoolOp .And (a :: b :: rest) pos) (.and x y) := pe_imp (pe_andT ha hb) fun _ _ _ => r_and
theorem n_or (ha : NE X xf W C a x) (hb : NE X xf W C (.BoolOp .Or (b :: rest) pos) y) : NE X xf W C (.BoolOp .Or (a :: b :: rest) pos) (.or x y) := pe_imp (pe_orT ha hb) fun _ _ _ => r_or
theorem n_cmp (O : Cok X xf W C sg fr) (o : COp) (ha : NE X xf W C a x) (hb : NE X xf W C b y) (hm : behindInMarks o.op b = false := by first | exact nomark _ | with_unfolding_all rfl) : NE X xf W C (.Compare a [o.op] [b] pos) (.cmp o x y) :=
  pe_imp (pe_cmpR (op_cmp O.room o) ha hb hm) fun _ _ _ => r_cmp
theorem n_cmp2 (O : Cok X xf W C sg fr) (o o' : COp) (ha : NE X xf W C a x) (hb : NE X xf W C b y) (hc : NE X xf W C c z) (hm : lastMarks [o.op, o'.op] [b, c] = false := by with_unfolding_all rfl) : NE X xf W C (.Compare a [o.op, o'.op] [b, c] pos) (.cmp2 o o' x y z) :=
  pe_imp (pe_chain (op_cmp O.room o) (op_cmp O.room o') ha hb hc hm) fun _ _ _ => r_chain
theorem n_ife {t : Tst} (hc : NT X xf W C c t) (ha : NE X xf W C a x) (hb : NE X xf W C b y) : NE X xf W C (.IfExp c a b pos) (.ife t x y) := pe_imp (pe_ifExp hc ha hb) fun _ _ _ => r_ife
theorem n_tup (h : NA X xf W C es xs) : NE X xf W C (.Tuple es k pos) (.tup xs) := pe_imp (pe_tup h) fun _ _ _ => r_tup
theorem n_lst (h : NA X xf W C es xs) : NE X xf W C (.List es pos) (.lst xs) := pe_imp (pe_lst h) fun _ _ _ => r_lst
theorem n_ix (ha : NE X xf W C a x) (hb : NE X xf W C b y) (hs : PlainIx b := by intro _ _; rfl) : NE X xf W C (.Subscript a b pos) (.ix x y) := pe_imp (pe_ix ix_seq ha hb hs) fun _ _ _ => r_ix
theorem n_sl {lo hi : Option Expr} {l h : Opt} (ha : NE X xf W C a x) (hl : NO X xf W C lo l) (hh : NO X xf W C hi h) : NE X xf W C (.Subscript a (.Slice lo hi none p) pos) (.sl x l h) := pe_imp (pe_slice sl_any ha hl hh) fun _ _ _ => r_sl
theorem n_rev {p1 p2 p3 : Pos} (ha : NE X xf W C a x) : NE X xf W C (.Subscript a (.Slice none none (some (.UnaryOp .USub (.Constant (.int 1) k p1) p2)) p3) pos) (.rev x) := pe_imp (pe_revL ha) fun _ _ _ => r_rev
theorem n_no : NO X xf W C none .none := po_imp po_none fun _ _ _ => r_none
theorem n_so (h : NE X xf W C e x) : NO X xf W C (some e) (.some x) := po_imp (po_some h) fun _ _ _ => r_part
theorem n_nil : NA X xf W C [] .nil := pa_imp pa_nil fun _ _ _ => r_nil
theorem n_cons (h : NE X xf W C e x) (hr : NA X xf W C es xs) (hs : starEach (e :: es) X.env = (false, eval e X.env) :: starEach es X.env := by rfl) : NA X xf W C (e :: es) (.cons x xs) := pa_imp (pa_cons h hr hs) fun _ _ _ => r_cons
theorem n_call (O : Cok X xf W C sg fr) {f : Str} {np : Nat} (ha : NA X xf W C (e :: es) xs) (h : sg.lookup f = some np := by rfl) (hg : Gl X f := by rfl) (hdb : (f == ("__debug__" : Str)) = false := by decide)
    (he : starEach (e :: es) X.env = (false, eval e X.env) :: starEach es X.env := by rfl) (hpl : (backTo pos (starEach es X.env)).any (·.1) = false := by rfl) : NE X xf W C (.Call (.Name f p) (e :: es) [] pos) (.call f xs) := by
  obtain ⟨fa, fd, ps, k, F, hr, hm, hk, hb⟩ := (O.cl f np h).ex
  exact pe_imp (pe_callS (E := WE W) F hr hg hm hk hb (passAt O.tk) ha hdb he hpl) fun _ _ _ => r_call (O.cl f np h).ok
theorem n_bi (O : Cok X xf W C sg fr) (q : Bi) (ha : NA X xf W C (e :: es) xs) (hf : fr.contains q.name = true := by rfl) (hg : Gl X q.name := by rfl)
    (he : starEach (e :: es) X.env = (false, eval e X.env) :: starEach es X.env := by rfl) (hpl : (backTo pos (starEach es X.env)).any (·.1) = false := by rfl) : NE X xf W C (.Call (.Name q.name p) (e :: es) [] pos) (.bi q xs) := by
  have hm := O.free _ hf
  cases q with
  | int => exact pe_imp (pe_callTy (x := "int") (T := "int") (cr_bi O.calm .int) hg hm (by rfl) ha (by decide) (by decide) he hpl) fun _ _ _ => r_bi
  | len => exact pe_imp (pe_callB (x := "len") (id := "len") (cr_bi O.calm .len) hg hm (by rfl) ha (by decide) (by decide) he hpl) fun _ _ _ => r_bi
  | sum => exact pe_imp (pe_callB (x := "sum") (id := "sum") (cr_bi O.calm .sum) hg hm (by rfl) ha (by decide) (by decide) he hpl) fun _ _ _ => r_bi
  | all => exact pe_imp (pe_callB (x := "all") (id := "all") (cr_bi O.calm .all) hg hm (by rfl) ha (by decide) (by decide) he hpl) fun _ _ _ => r_bi
  | any => exact pe_imp (pe_callB (x := "any") (id := "any") (cr_bi O.calm .any) hg hm (by rfl) ha (by decide) (by decide) he hpl) fun _ _ _ => r_bi
  | abs => exact pe_imp (pe_callB (x := "abs") (id := "abs") (cr_bi O.calm .abs) hg hm (by rfl) ha (by decide) (by decide) he hpl) fun _ _ _ => r_bi
  | min => exact pe_imp (pe_callB (x := "min") (id := "min") (cr_bi O.calm .min) hg hm (by rfl) ha (by decide) (by decide) he hpl) fun _ _ _ => r_bi
  | max => exact pe_imp (pe_callB (x := "max") (id := "max") (cr_bi O.calm .max) hg hm (by rfl) ha (by decide) (by decide) he hpl) fun _ _ _ => r_bi

/-! ### tests -/
variable {t u : Tst}
theorem n_tnot (h : NT X xf W C a t) : NT X xf W C (.UnaryOp .Not a pos) (.not t) := pt_imp (pt_not h) fun _ _ _ => r_notT
theorem n_wand (ha : NT X xf W C a t) (hb : NW X xf W C (.BoolOp .And (b :: rest) pos) u) : NW X xf W C (.BoolOp .And (a :: b :: rest) pos) (.and t u) := pw_imp (pw_and ha hb) fun _ _ _ => r_andT
theorem n_wor (ha : NT X xf W C a t) (hb : NW X xf W C (.BoolOp .Or (b :: rest) pos) u) : NW X xf W C (.BoolOp .Or (a :: b :: rest) pos) (.or t u) := pw_imp (pw_or ha hb) fun _ _ _ => r_orT
theorem n_wand1 (ha : NT X xf W C a t) : NW X xf W C (.BoolOp .And [a] pos) t := pw_and1 ha
theorem n_wor1 (ha : NT X xf W C a t) : NW X xf W C (.BoolOp .Or [a] pos) t := pw_or1 ha
theorem n_w (h : NW X xf W C e t) : NT X xf W C e t := h.pt
theorem n_tcmp (O : Cok X xf W C sg fr) (o : COp) (ha : NE X xf W C a x) (hb : NE X xf W C b y) (hm : behindInMarks o.op b = false := by first | exact nomark _ | with_unfolding_all rfl) : NT X xf W C (.Compare a [o.op] [b] pos) (.cmp o x y) :=
  pt_imp (pt_cmpR (op_cmp O.room o) ha hb hm) fun _ _ _ => r_cmpT
theorem n_tcmp2 (O : Cok X xf W C sg fr) (o o' : COp) (ha : NE X xf W C a x) (hb : NE X xf W C b y) (hc : NE X xf W C c z) (hm : lastMarks [o.op, o'.op] [b, c] = false := by with_unfolding_all rfl) : NT X xf W C (.Compare a [o.op, o'.op] [b, c] pos) (.cmp2 o o' x y z) :=
  pt_imp (pt_chain (op_cmp O.room o) (op_cmp O.room o') ha hb hc hm) fun _ _ _ => r_chainT
theorem n_tval (ha : NE X xf W C a x) (he : ∀ whole, isTrue a X.env whole = (do let v ← whole; standAt a.pos; holding [v] (truthy v)) := by intro _; rfl) : NT X xf W C a (.val x) := pt_imp (pt_truth ha he) fun _ _ _ => r_truth

/-! ### what is walked -/
theorem evEs_len1 {G : GEnv} {rvs : List RV} {G1 : GEnv} (h : evEs C (.cons x .nil) G = .ok rvs G1) : rvs.length = 1 := by
  have h' : ((evE C x G).bind fun x G1 => (R.ok [] G1 : R (List RV)).bind fun xs G2 => R.ok (x :: xs) G2) = .ok rvs G1 := h
  cases e : evE C x G with
  | ok a G2 => rw [e] at h'; cases h'; rfl
  | ex _ _ _ => rw [e] at h'; cases h'
  | no => rw [e] at h'; cases h'
theorem evEs_len2 {G : GEnv} {rvs : List RV} {G1 : GEnv} (h : evEs C (.cons x (.cons y .nil)) G = .ok rvs G1) : rvs.length = 2 := by
  have h' : ((evE C x G).bind fun x G1 => (evEs C (.cons y .nil) G1).bind fun xs G2 => R.ok (x :: xs) G2) = .ok rvs G1 := h
  cases e : evE C x G with
  | ok a G2 =>
    rw [e] at h'
    have h2 : ((evEs C (.cons y .nil) G2).bind fun xs G2 => R.ok (a :: xs) G2) = .ok rvs G1 := h'
    cases e2 : evEs C (.cons y .nil) G2 with
    | ok bs G3 =>
      rw [e2] at h2
      cases h2
      rw [List.length_cons, evEs_len1 e2]
    | ex _ _ _ => rw [e2] at h2; cases h2
    | no => rw [e2] at h2; cases h2
  | ex _ _ _ => rw [e] at h'; cases h'
  | no => rw [e] at h'; cases h'
variable {tg it : Expr}
theorem n_seq (h : NE X xf W C it x) : NI X xf W C tg it (.seq x) := pi_imp (pi_seq h) fun _ _ _ => i_seq
theorem n_rng1 (O : Cok X xf W C sg fr) (h : NA X xf W C [a] (.cons x .nil)) (hf : fr.contains "range" = true := by rfl) (hg : Gl X "range" := by rfl) (hs : starEach [a] X.env = [(false, eval a X.env)] := by rfl) :
    NI X xf W C tg (.Call (.Name "range" p) [a] [] pos) (.range (.cons x .nil)) := pi_imp (pi_range1 hg (O.free _ hf) h hs) fun _ _ _ q => i_range1 q fun _ _ _ e => evEs_len1 e
theorem n_rng2 (O : Cok X xf W C sg fr) (h : NA X xf W C [a, b] (.cons x (.cons y .nil))) (hf : fr.contains "range" = true := by rfl) (hg : Gl X "range" := by rfl) (hs : starEach [a, b] X.env = [(false, eval a X.env), (false, eval b X.env)] := by rfl) (hs2 : starEach [b] X.env = [(false, eval b X.env)] := by rfl) :
    NI X xf W C tg (.Call (.Name "range" p) [a, b] [] pos) (.range (.cons x (.cons y .nil))) := pi_imp (pi_range2 hg (O.free _ hf) h hs hs2) fun _ _ _ q => i_range2 q fun _ _ _ e => evEs_len2 e
theorem n_zip (O : Cok X xf W C sg fr) {elts : List Expr} {kk : Nat} {tpos : Pos} (h : NA X xf W C [a, b] xs) (hf : fr.contains "zip" = true := by rfl) (hg : Gl X "zip" := by rfl) (hs : starEach [a, b] X.env = (false, eval a X.env) :: starEach [b] X.env := by rfl) (hpl : (backTo pos (starEach [b] X.env)).any (·.1) = false := by rfl) :
    NI X xf W C (.Tuple elts kk tpos) (.Call (.Name "zip" p) [a, b] [] pos) (.zip xs) := pi_imp (RZ.pi_zipA hg (O.free _ hf) h hs hpl) fun _ _ _ => i_zip
theorem n_enum (O : Cok X xf W C sg fr) {elts : List Expr} {kk : Nat} {tpos : Pos} (h : NA X xf W C [a] xs) (hf : fr.contains "enumerate" = true := by rfl) (hg : Gl X "enumerate" := by rfl) (hs : starEach [a] X.env = [(false, eval a X.env)] := by rfl) :
    NI X xf W C (.Tuple elts kk tpos) (.Call (.Name "enumerate" p) [a] [] pos) (.enum xs) := pi_imp (pi_enum hg (O.free _ hf) h hs) fun _ _ _ => i_enum

/-! ### targets -/
abbrev NG (X : Cx) (e : Expr) (g : Tgt) : Prop := PG X e (gOf X.K g)
abbrev NGs (X : Cx) (es : List Expr) (g : Tgts) : Prop := PGs X es (gsOf X.K g)
variable {g : Tgt} {gs : Tgts}
theorem n_gname (O : Cok X xf W C sg fr) {i : Nat} {v : Str} (hi : X.N[i]? = some v := by rfl) (hx : Loc X.env.scope v := by first | exact Or.inl rfl | exact Or.inr rfl) (hf : X.fn v = true ∨ X.env.scope.names.lookup v = some .local := by first | exact Or.inl rfl | exact Or.inr rfl) : NG X (.Name v pos) (.name i) := pg_name O.nd hi hx hf
theorem n_gnil : NGs X [] .nil := pgs_nil
theorem n_gcons (h : NG X e g) (hr : NGs X es gs) (hs : (assignEach (e :: es) X.env).map (·.2) = assign e X.env :: (assignEach es X.env).map (·.2) := by rfl) : NGs X (e :: es) (.cons g gs) := pgs_cons h hr hs
theorem n_gtup (O : Cok X xf W C sg fr) (h : NGs X es gs) (hn : (assignEach es X.env).length = gs.len := by rfl) (hst : (assignEach es X.env).findIdx? (·.1) = none := by rfl) : NG X (.Tuple es k pos) (.tup gs) := pg_tup O.calm h hn hst

/-! ### statements -/
variable {st : Stmt} {ss rs : List Stmt} {f f' : Stas} {w : Sta}
theorem n_end : NB X xf W C [] .nil := pss_imp pss_nil fun _ _ _ => s_nil
theorem n_then (h : NS X xf W C st w) (hr : NB X xf W C ss f) : NB X xf W C (st :: ss) (.cons w f) := pss_imp (pss_cons h hr) fun _ _ _ => s_seq
theorem n_pass : NS X xf W C (.Pass pos) .pass := ps_imp ps_pass fun _ _ _ => s_nil
theorem n_brk : NS X xf W C (.Break pos) .brk := ps_imp ps_break fun _ _ _ => s_brk
theorem n_cont : NS X xf W C (.Continue pos) .cont := ps_imp ps_continue fun _ _ _ => s_cont
theorem n_doc {s : Str} : NS X xf W C (.Expr (.Constant (.str s) j pos) pos') .pass := ps_imp ps_doc fun _ _ _ => s_nil
theorem n_expr (h : NE X xf W C e x) (hs : swapsWith e none pos.line X.env = pure false := by rfl) : NS X xf W C (.Expr e pos) (.expr x) := ps_imp (ps_expr h hs) fun _ _ _ => s_expr
theorem n_ret (h : NE X xf W C e x) : NS X xf W C (.Return (some e) pos) (.ret x) := ps_imp (ps_ret h) fun _ _ _ => s_ret
theorem n_retN : NS X xf W C (.Return none pos) .retN := ps_imp ps_retN fun _ _ _ => s_retN
theorem n_if (hc : NT X xf W C c t) (ha : NB X xf W C ss f) (hb : NB X xf W C rs f') : NS X xf W C (.If c ss rs pos) (.ife t f f') := ps_imp (ps_if hc ha hb) fun _ _ _ => s_if
theorem n_never : NS X xf W C st .never := ps_imp ps_never fun _ _ _ ⟨_, _, _, _, h⟩ => h.elim
theorem n_set (O : Cok X xf W C sg fr) {i : Nat} {v : Str} (h : NE X xf W C e x) (hi : X.N[i]? = some v := by rfl) (hx : Loc X.env.scope v := by first | exact Or.inl rfl | exact Or.inr rfl) (hs : swapsWith e (some (.Name v pos')) pos.line X.env = pure false := by rfl)
    (hf : X.fn v = true ∨ X.env.scope.names.lookup v = some .local := by first | exact Or.inl rfl | exact Or.inr rfl) : NS X xf W C (.Assign [.Name v pos'] e pos) (.set i x) := ps_imp (ps_set O.nd hi hx h hs hf) fun _ _ _ => s_set
theorem n_asg (h : NE X xf W C e x) (hg : NG X tg g) (hs : swapsWithSole [tg] e pos.line X.env = pure false := by rfl) (hw : swappedStores [tg] e X.env = pure none := by rfl) (h1 : (assignEach [tg] X.env).map (·.2) = [assign tg X.env] := by rfl) :
    NS X xf W C (.Assign [tg] e pos) (.asg g x) := ps_imp (ps_asg h hg hs hw h1) fun _ _ _ => s_asg
theorem n_par2 (O : Cok X xf W C sg fr) {i l : Nat} {u v : Str} {px py pt : Pos} {kt k2 pt2} (h : NA X xf W C [a, b] xs) (hi : X.N[i]? = some u := by rfl) (hj : X.N[l]? = some v := by rfl) (hij : i ≠ l := by decide) (hx : X.env.scope.names.lookup u = some .local := by rfl) (hy : X.env.scope.names.lookup v = some .local := by rfl)
    (hw : swappedStores [.Tuple [.Name u px, .Name v py] kt pt] (.Tuple [a, b] k2 pt2) X.env = pure (some [u, v]) := by rfl) (hs : swapsWithSole [.Tuple [.Name u px, .Name v py] kt pt] (.Tuple [a, b] k2 pt2) pos.line X.env = pure false := by rfl) :
    NS X xf W C (.Assign [.Tuple [.Name u px, .Name v py] kt pt] (.Tuple [a, b] k2 pt2) pos) (.par [i, l] xs) := ps_imp (ps_par O.calm O.nd hi hj hij hx hy h hw hs) fun _ _ _ => s_par2 hij
theorem n_setIx {i : Nat} {v : Str} {q : Expr} (h : NE X xf W C e x) (ho : NE X xf W C (.Name v p) (.var i)) (hi : NE X xf W C q y)
    (ha : ∀ u, assign (.Subscript (.Name v p) q pos') X.env u = (do
      let ov ← holding [u] (eval (.Name v p) X.env)
      let iv ← holding [u, ov] (eval q X.env)
      standAt pos'
      holding [u, ov, iv] (setItem ov iv u)
      release [u, ov, iv] []) := by intro _; rfl)
    (hN : X.N[i]? = some v := by rfl) (hv : Vis X.env.scope v := by first | exact Or.inl rfl | exact Or.inr (Or.inl rfl) | exact Or.inr (Or.inr rfl))
    (hd : (v == ("__debug__" : Str)) = false := by decide) (hcd : (v == ("__classdict__" : Str)) = false := by decide)
    (hs : swapsWithSole [.Subscript (.Name v p) q pos'] e pos.line X.env = pure false := by rfl) (hw : swappedStores [.Subscript (.Name v p) q pos'] e X.env = pure none := by rfl) (h1 : (assignEach [.Subscript (.Name v p) q pos'] X.env).map (·.2) = [assign (.Subscript (.Name v p) q pos') X.env] := by rfl) :
    NS X xf W C (.Assign [.Subscript (.Name v p) q pos'] e pos) (.setIx (.var i) y x) := ps_imp (ps_asg h (pg_sub (pe_var hN hv hd hcd) hi set_list ha) hs hw h1) fun _ _ _ => s_setIx
theorem n_aug (O : Cok X xf W C sg fr) {i : Nat} {v : Str} (o : BOp) (h : NE X xf W C e x) (hi : X.N[i]? = some v := by rfl) (hx : Loc X.env.scope v := by first | exact Or.inl rfl | exact Or.inr rfl)
    (hf : X.fn v = true ∨ X.env.scope.names.lookup v = some .local := by first | exact Or.inl rfl | exact Or.inr rfl) : NS X xf W C (.AugAssign (.Name v pos') o.op e pos) (.aug i o x) := ps_imp (ps_aug O.nd hi hx h (ip_aug o) hf) fun _ _ _ => s_aug
theorem n_augIx {i : Nat} {v : Str} {q : Expr} (o : BOp) (hi : NE X xf W C q y) (h : NE X xf W C e x)
    (ha : ∀ ov iv new, augStore q ov iv new = (do holding [new, ov, iv] (setItem ov iv new); release [new, ov, iv] []; pure .next) := by intros; rfl)
    (hN : X.N[i]? = some v := by rfl) (hv : Vis X.env.scope v := by first | exact Or.inl rfl | exact Or.inr (Or.inl rfl) | exact Or.inr (Or.inr rfl))
    (hd : (v == ("__debug__" : Str)) = false := by decide) (hcd : (v == ("__classdict__" : Str)) = false := by decide) :
    NS X xf W C (.AugAssign (.Subscript (.Name v p) q pos') o.op e pos) (.augIx (.var i) y o x) := ps_imp (ps_augS (pe_var hN hv hd hcd) hi get_list h (ip_aug o) set_list ha) fun _ _ _ => s_augIx
theorem n_whl (O : Cok X xf W C sg fr) (pw : PassesOwn (model X.prog X.w) X.A X.env X.xe) (hc : NT X xf W C c t) (hb : NB X xf W C ss f) : NS X xf W C (.While c ss [] pos) (.whl t f) := ps_imp (ps_while pw hc hb) fun _ _ _ => s_whl
theorem n_for (O : Cok X xf W C sg fr) (pw : PassesOwn (model X.prog X.w) X.A X.env X.xe) {i : Ite} (hi : NI X xf W C tg it i) (hg : NG X tg g) (hb : NB X xf W C ss f) (hs : ∀ x, foldedSetIterable it X.env x = pure x := by intro _; rfl) : NS X xf W C (.For tg it ss [] pos) (.for_ g i f) :=
  ps_imp (ps_for pw O.calm hi hg hb hs) fun _ _ _ => s_for
end
end Dv
end
section
set_option Elab.async false
set_option linter.all false
set_option maxRecDepth 100000
set_option maxHeartbeats 2000000
/-! Dv15: more nodes. -/
namespace Dv
open PySem L2
section
variable {K : PySem.W.Frag} {mg : Str → Option Value} {xf : Str → List Str} {W : WX} {p : Nat → Bool} {C : Ctx} {F F' F1 F2 H H' H1 H2 : Hp} {ow ow' ow1 ow2 : Ows} {G G1 : GEnv} {σ σ' σ1 : St} {st pre : List (RV × V)} {o o' : Own} {d : D} {v : V} {rv : RV} {Q : VK}
variable {fa fb fc fe : GEnv → R RV} {fs : GEnv → R (List RV)} {fi : GEnv → R (List D)}

/-! ### isinstance -/
def Ty.nm : Ty → String
  | .int => "int" | .bool => "bool" | .str => "str" | .tuple => "tuple" | .list => "list" | .dict => "dict"
theorem tyx {t : Ty} (w : Wd F ow H) (h : Rp K mg F H ow o d v) (e : tyOf d = some t) : TyX K H v (.type t.nm) := by
  cases d with
  | bl b => cases e; rw [show v = .bl b from h]; exact .base (.bl b)
  | int b => cases e; rw [show v = .int b from h]; exact .base (.int b)
  | str b => cases e; rw [show v = .str b from h]; exact .base (.str b)
  | tup xs =>
    cases e
    obtain ⟨a, vs, rfl, q, _⟩ := h.tup w
    rcases q with (q | ⟨o, q⟩) | ⟨o, its, n, h1, h2, _⟩
    · exact .base (.tup q)
    · exact .fTuple q
    · exact .kTuple h1 h2
  | lst xs => cases e; obtain ⟨a, vs, rfl, q, _⟩ := h.list w rfl; exact .base (.lst q)
  | mls xs => cases e; obtain ⟨a, vs, rfl, q, _⟩ := h.list w rfl; exact .base (.lst q)
  | _ => cases e
theorem kit_ty2 : ∀ a b : Ty, kitB a.nm b.nm = some (isTy a b) := by
  intro a b
  cases a <;> cases b <;> decide +kernel
theorem kit_non : ∀ b : Ty, kitB "NoneType" b.nm = some false := by
  intro b
  cases b <;> decide +kernel
/-- the type's word, and the answer for one type -/
theorem isi_any {k : Bool} {ts : List Ty} (w : Wd F ow H) (h : Rp K mg F H ow o d v) (e : isiD d ts = some k) : ∃ t : String, TyX K H v (.type t) ∧ ∃ q : Ty → Bool, (∀ b, kitB t b.nm = some (q b)) ∧ k = ts.any q := by
  have go : ∀ t, tyOf d = some t → some (ts.any (isTy t)) = some k → ∃ t : String, TyX K H v (.type t) ∧ ∃ q : Ty → Bool, (∀ b, kitB t b.nm = some (q b)) ∧ k = ts.any q := fun t e1 e2 => ⟨t.nm, tyx w h e1, isTy t, kit_ty2 t, (Option.some.inj e2).symm⟩
  cases d with
  | non =>
    cases e
    rw [show v = .non from h]
    exact ⟨"NoneType", .base .non, fun _ => false, kit_non, by simp⟩
  | bl b => exact go .bool rfl e
  | int b => exact go .int rfl e
  | str b => exact go .str rfl e
  | tup xs => exact go .tuple rfl e
  | lst xs => exact go .list rfl e
  | mls xs => exact go .list rfl e
  | _ => cases e
theorem any_one {q : Ty → Bool} {t : Ty} : [t].any q = q t := by rw [List.any_cons, List.any_nil, Bool.or_false]
theorem r_isi1 {t : Ty} (h : tOf K mg xf W (fun G => (fa G).bind fun x G1 => match deref x G1 with
    | some d => lft ((isiD d [t]).map .bl) G1
    | none => .no) σ H Q) : tCB (rIsi K) (tCons (tOf K mg xf W fa) (tCons (tC (.ty t.nm)) tNil)) σ H Q := by
  obtain ⟨F, ow, G, st, A, h⟩ := h
  refine run_E (pre := []) A mono_E h fun F1 ow1 H1 G1 x v A1 h1 => ?_
  cases ex : deref x G1 with
  | none => rw [ex] at h1; exact h1.elim
  | some d =>
    rw [ex] at h1
    obtain ⟨o1, hx⟩ := At.deref (pre := []) A1 ex
    have h2 : Fin K mg xf W σ st (pE K mg σ st Q) F1 ow1 H1 (lft ((isiD d [t]).map .bl) G1) := h1
    cases ei : isiD d [t] with
    | none => rw [ei] at h2; exact h2.elim
    | some k =>
      rw [ei] at h2
      obtain ⟨T, ty, q, hq, rfl⟩ := isi_any A1.wd hx ei
      rw [any_one] at h2
      exact ⟨v, .ty t.nm, .type T, .type t.nm, q t, rfl, .ty _, ty, kit_ty (hq t), fin_old (pre := [(x, v)]) A1 h2 rfl⟩
theorem kitAny2 {T : String} {q : Ty → Bool} (hq : ∀ b, kitB T b.nm = some (q b)) : ∀ ts : List Ty, PySem.W.kitAny K (.type T) (ts.map fun t => Value.type t.nm) = some (ts.any q)
  | [] => rfl
  | t :: ts => by
    rw [List.map_cons, List.any_cons]
    refine kitAny_cons (b := q t) (kit_ty (hq t)) (fun e => ?_) fun e => ?_
    · rw [e, Bool.false_or]; exact kitAny2 hq ts
    · rw [e, Bool.true_or]
theorem r_isi2 {t u : Ty} (h : tOf K mg xf W (fun G => (fa G).bind fun x G1 => match deref x G1 with
    | some d => lft ((isiD d [t, u]).map .bl) G1
    | none => .no) σ H Q) : tCB (rIsiT K) (tCons (tOf K mg xf W fa) (tCons (tTup (tCons (tC (.ty t.nm)) (tCons (tC (.ty u.nm)) tNil))) tNil)) σ H Q := by
  obtain ⟨F, ow, G, st, A, h⟩ := h
  refine run_E (pre := []) A mono_E h fun F1 ow1 H1 G1 x v A1 h1 => ?_
  cases ex : deref x G1 with
  | none => rw [ex] at h1; exact h1.elim
  | some d =>
    rw [ex] at h1
    obtain ⟨o1, hx⟩ := At.deref (pre := []) A1 ex
    have h2 : Fin K mg xf W σ st (pE K mg σ st Q) F1 ow1 H1 (lft ((isiD d [t, u]).map .bl) G1) := h1
    cases ei : isiD d [t, u] with
    | none => rw [ei] at h2; exact h2.elim
    | some k =>
      rw [ei] at h2
      refine ⟨show 2 ≤ sizeLine by decide, fun p hp => ?_⟩
      -- the tuple of types is new, outside of F
      have sub : Sub H1 (upd H1 p (.tup [.ty t.nm, .ty u.nm])) := sub_upd hp
      have g : Grow F1 ow1 H1 F1 ow1 (upd H1 p (.tup [.ty t.nm, .ty u.nm])) := ⟨Sub.refl _, sub, fun _ _ z => z, fun _ z => .inl z, fun _ z => .inr z, fun w => ⟨w.fh.trans sub, fun a o e => ⟨(w.of a o e).1, fun z => by
        obtain ⟨y, hy⟩ : ∃ y, H1 a = some y := by
          cases q : H1 a with
          | none => exact absurd q (w.of a o e).2
          | some y => exact ⟨y, rfl⟩
        rw [sub a y hy] at z; cases z⟩⟩⟩
      obtain ⟨T, ty', q, hq, ek⟩ := isi_any (g.wd A1.wd) (hx.grow g) ei
      subst ek
      have res : Rp K mg F1 (upd H1 p (.tup [.ty t.nm, .ty u.nm])) ow1 (.stk st.length) (.bl ([t, u].any q)) (.bl ([t, u].any q)) := rfl
      exact ⟨v, p, [.ty t.nm, .ty u.nm], .type T, [.type t.nm, .type u.nm], _, rfl, upd_same, .cons (.ty _) (.cons (.ty _) .nil), ty', kitAny2 hq [t, u], fin_new (pre := [(x, v)]) (k := 0) A1 h2 g res⟩
/-! ### tuple(x), list(x), sorted(x) -/
/-- a value that is taken -/
theorem r_take {c : Col} {T : TE} (h : tOf K mg xf W (fun G => (fa G).bind fun x G1 => match Dv.take x G1 with
    | some (d, G2) => lft (colD c d) G2
    | none => .no) σ H Q) {R : List V → Hp → VK → Prop}
    (hR : ∀ {F : Hp} {ow : Ows} {G : GEnv} {H : Hp} {d res : D} {v : V} {st : List (RV × V)}, At K mg F ow G σ H st → Rf K mg F d v → colD c d = some res → (∀ u F' ow' H', Grow F ow H F' ow' H' → Rp K mg F' H' ow' (.stk st.length) res u → Q u H') → R [v] H Q) : tCB R (tCons (tOf K mg xf W fa) tNil) σ H Q := by
  obtain ⟨F, ow, G, st, A, h⟩ := h
  refine run_E (pre := []) A mono_E h fun F1 ow1 H1 G1 x v A1 h1 => ?_
  cases e : Dv.take x G1 with
  | none => rw [e] at h1; exact h1.elim
  | some q =>
    obtain ⟨d, G2⟩ := q
    rw [e] at h1
    obtain ⟨F2, ow2, A2, X2, r2⟩ := At.take (pre := []) A1 e
    have h2 : Fin K mg xf W σ st (pE K mg σ st Q) F1 ow1 H1 (lft (colD c d) G2) := h1
    cases e2 : colD c d with
    | none => rw [e2] at h2; exact h2.elim
    | some res =>
      rw [e2] at h2
      have A3 : At K mg F2 ow2 G2 σ H1 st := A2.pop
      exact hR A3 r2 e2 fun u F' ow' H' g r => h2 u F' ow' H' ((A3.grow g).push (rv := .val res) r) (X2.trans g.ext)
theorem r_tupleOf (h : tOf K mg xf W (fun G => (fa G).bind fun x G1 => match Dv.take x G1 with
    | some (d, G2) => lft (colD .tuple d) G2
    | none => .no) σ H Q) : tCB (fun xs H Q => ∃ p ys, xs = [.ref p] ∧ ((SqL K H p ys ∧ ∀ l, H l = none → Q (.ref l) (upd H l (.tup ys))) ∨ (SqT K H p ys ∧ Q (.ref p) H))) (tCons (tOf K mg xf W fa) tNil) σ H Q := by
  refine r_take (T := fun _ _ _ => True) h fun {F ow G H d res v st} A r e q => ?_
  cases d with
  | lst ys =>
    obtain ⟨a, vs, rfl, g1, g2⟩ := r
    have e' : (if lenOk ys = true then some (D.tup ys) else none) = some res := e
    by_cases hk : lenOk ys = true
    · rw [if_pos hk] at e'
      cases e'
      refine ⟨a, vs, rfl, .inl ⟨SqL.of (A.wd.fh _ _ g1), fun l hl => ?_⟩⟩
      obtain ⟨g, z⟩ := new_tup A.wd g2 hl
      exact q _ _ _ _ g (Rp.of z)
    · rw [if_neg hk] at e'; cases e'
  | tup ys =>
    have r' := r
    obtain ⟨a, vs, rfl, g1, g2⟩ := r
    have e' : (if lenOk ys = true then some (D.tup ys) else none) = some res := e
    by_cases hk : lenOk ys = true
    · rw [if_pos hk] at e'
      cases e'
      exact ⟨a, vs, rfl, .inr ⟨A.wd.fh.sqT g1, q _ _ _ _ .refl (Rp.of r')⟩⟩
    · rw [if_neg hk] at e'; cases e'
  | mls ys => exact r.elim
  | _ => cases e
theorem r_listOf (h : tOf K mg xf W (fun G => (fa G).bind fun x G1 => match Dv.take x G1 with
    | some (d, G2) => lft (colD .list d) G2
    | none => .no) σ H Q) : tCB (fun xs H Q => ∃ p ys, xs = [.ref p] ∧ (SqL K H p ys ∨ SqT K H p ys) ∧ ∀ l, H l = none → Q (.ref l) (upd H l (.lst ys))) (tCons (tOf K mg xf W fa) tNil) σ H Q := by
  refine r_take (T := fun _ _ _ => True) h fun {F ow G H d res v st} A r e q => ?_
  have fin : ∀ {ys : List D} {vs : List V}, (if lenOk ys = true then some (D.mls ys) else none) = some res → Rfs K mg F ys vs → ∀ l, H l = none → Q (.ref l) (upd H l (.lst vs)) := fun {ys vs} e' g2 l hl => by
    by_cases hk : lenOk ys = true
    · rw [if_pos hk] at e'
      cases e'
      obtain ⟨g, z⟩ := new_lst (o := .stk st.length) A.wd g2 hl
      exact q _ _ _ _ g z
    · rw [if_neg hk] at e'; cases e'
  cases d with
  | lst ys =>
    obtain ⟨a, vs, rfl, g1, g2⟩ := r
    exact ⟨a, vs, rfl, .inl (SqL.of (A.wd.fh _ _ g1)), fin e g2⟩
  | tup ys =>
    obtain ⟨a, vs, rfl, g1, g2⟩ := r
    exact ⟨a, vs, rfl, .inr (A.wd.fh.sqT g1), fin e g2⟩
  | mls ys => exact r.elim
  | _ => cases e

/-- sorted(xs), xs a list that reads as data -/
def rSortD (K : PySem.W.Frag) : List V → Hp → VK → Prop := fun vs H Q => ∃ (a : Addr) (ys : List V) (β : Type) (bs : List (β × V)) (enc : β → PyData), vs = [.ref a] ∧ SqL K H a ys ∧ ys = bs.map (·.2) ∧ (∀ b ∈ bs, Dp K H b.2 (enc b.1)) ∧
  PySem.W.AllAlike (bs.map fun b => enc b.1) ∧ PySem.W.Sortable (bs.map fun b => enc b.1) ∧ (∀ b ∈ bs, (enc b.1).depth ≤ 100) ∧ ∀ p, H p = none → Q (.ref p) (upd H p (.lst ((bs.mergeSort (PySem.W.dataLe false fun b => enc b.1)).map (·.2))))
theorem each_vals {β : Type} : ∀ {bs : List (β × V)} {us : List Value}, Vals (bs.map (·.2)) us → PySem.W.EachIs (fun u (b : β × V) => RelV b.2 u) us bs
  | [], _, .nil => .nil
  | b :: bs, _, .cons r t => .cons r (each_vals t)
theorem vals_each {β : Type} : ∀ {bs : List (β × V)} {us : List Value}, PySem.W.EachIs (fun u (b : β × V) => RelV b.2 u) us bs → Vals (bs.map (·.2)) us
  | [], _, .nil => .nil
  | b :: bs, _, .cons r t => .cons r (vals_each t)
theorem each_reads {X : Cx} {pins : List (Addr × Obj)} {s : Shared} (I : Inv X pins σ H s) {β : Type} {enc : β → PyData} : ∀ {bs : List (β × V)} {us : List Value}, (∀ b ∈ bs, Dp X.K H b.2 (enc b.1)) → Vals (bs.map (·.2)) us → PySem.W.EachIs (fun u (b : β × V) => ∃ as, PySem.Reads s.heap u (enc b.1) as) us bs
  | [], _, _, .nil => .nil
  | b :: bs, _, h, .cons r t => .cons (Dp.reads I _ _ _ (h b List.mem_cons_self) r) (each_reads I (fun c hc => h c (List.mem_cons_of_mem _ hc)) t)
theorem cr_sortD {X : Cx} {n : Nat} (hr : Room n X.A) : CallR X (.builtin "sorted") (rSortD X.K) := by
  intro pins s σ H vs us Q I r h
  obtain ⟨a, ys, β, bs, enc, rfl, hs, rfl, hd, hal, hso, hdep, q⟩ := h
  obtain ⟨its, rv, hl, hz⟩ := I.list hs
  rw [Vals.ref1 r]
  have hlen : bs.length ≤ sizeLine := by rw [List.length_map] at hz; exact hz
  refine PySem.W.sorted_data (enc := fun b : β × V => enc b.1) (R := fun u (b : β × V) => RelV b.2 u) hl.isList (each_vals rv) (each_reads I hd rv) hal hso hlen (fun b hb => ?_) fun out h1 h2 => ?_
  · have := hr.un
    have := hdep b hb
    omega
  · obtain ⟨ep, he'⟩ := PyProof.Rows.sortedAll_at s.heap its (List.toArray out)
    have h3 : Vals ((bs.mergeSort (PySem.W.dataLe false fun b => enc b.1)).map (·.2)) out := vals_each h2
    refine ⟨.ref _, _, I.laid (t' := s.toks) (o := .lst ((bs.mergeSort (PySem.W.dataLe false fun b => enc b.1)).map (·.2))) (fun _ _ => PyProof.Rows.sortedAll_old) (Nat.le_succ _) ⟨?_, out, ep, h3, he'⟩, rfl, q _ (I.hok.fresh (Nat.le_succ _))⟩
    rw [List.length_map, List.length_mergeSort]
    exact hlen
theorem sortOk_ok {ps : List PyData} (h : sortOk ps = true) : PySem.W.AllAlike ps ∧ PySem.W.Sortable ps ∧ ∀ d ∈ ps, d.depth ≤ 100 := by
  unfold sortOk at h
  rw [Bool.and_eq_true, Bool.and_eq_true] at h
  obtain ⟨⟨h1, h2⟩, h3⟩ := h
  refine ⟨fun d hd d' hd' => ?_, ?_, fun d hd => of_decide_eq_true (List.all_eq_true.mp h3 d hd)⟩
  · exact List.all_eq_true.mp (List.all_eq_true.mp h1 d hd) d' hd'
  · rcases Bool.or_eq_true_iff.mp h2 with h2 | h2
    · refine .inl fun d hd => ?_
      have q := List.all_eq_true.mp h2 d hd
      cases d with
      | tuple l =>
        cases l with
        | nil => cases q
        | cons x r => exact ⟨x, r, rfl⟩
      | _ => cases q
    · refine .inr fun d hd => ?_
      have q := List.all_eq_true.mp h2 d hd
      cases d with
      | none => cases q
      | tuple l => cases q
      | _ => exact ⟨(fun z => by cases z), fun l z => by cases z⟩
theorem pys_map : ∀ {xs : List D} {ps : List PyData}, D.pys xs = some ps → ps = xs.map encD ∧ ∀ x ∈ xs, x.py = some (encD x)
  | [], ps, h => by cases h; exact ⟨rfl, fun x hx => by cases hx⟩
  | x :: xs, ps, h => by
    have h' : (match D.py x, D.pys xs with
      | some d, some ds => some (d :: ds)
      | _, _ => none) = some ps := h
    cases q1 : D.py x with
    | none => rw [q1] at h'; cases h'
    | some d =>
      cases q2 : D.pys xs with
      | none => rw [q1, q2] at h'; cases h'
      | some ds =>
        rw [q1, q2] at h'
        cases h'
        obtain ⟨e1, e2⟩ := pys_map q2
        have e : encD x = d := by unfold encD; rw [q1] <;> rfl
        refine ⟨by rw [List.map_cons, e, e1], fun y hy => ?_⟩
        rcases List.mem_cons.mp hy with z | z
        · rw [z, e, q1]
        · exact e2 y z
theorem Rfs.zip_snd : ∀ {xs : List D} {vs : List V}, Rfs K mg F xs vs → (xs.zip vs).map (·.2) = vs ∧ (xs.zip vs).map (·.1) = xs ∧ ∀ b ∈ xs.zip vs, Rf K mg F b.1 b.2
  | [], vs, h => by rw [show vs = [] from h]; exact ⟨rfl, rfl, fun b hb => by cases hb⟩
  | x :: xs, _, ⟨v, r, e, h1, h2⟩ => by
    subst e
    obtain ⟨a, b, c⟩ := Rfs.zip_snd h2
    refine ⟨by rw [List.zip_cons_cons, List.map_cons, a], by rw [List.zip_cons_cons, List.map_cons, b], fun z hz => ?_⟩
    rcases List.mem_cons.mp (show z ∈ (x, v) :: xs.zip r from hz) with q | q
    · rw [q]; exact h1
    · exact c z q
theorem Rfs.of_zip : ∀ {l : List (D × V)}, (∀ b ∈ l, Rf K mg F b.1 b.2) → Rfs K mg F (l.map (·.1)) (l.map (·.2))
  | [], _ => rfl
  | b :: l, h => ⟨b.2, l.map (·.2), rfl, h b List.mem_cons_self, Rfs.of_zip fun c hc => h c (List.mem_cons_of_mem _ hc)⟩
theorem r_sortOf (h : tOf K mg xf W (fun G => (fa G).bind fun x G1 => match Dv.take x G1 with
    | some (d, G2) => lft (colD .sorted d) G2
    | none => .no) σ H Q) : tCB (rSortD K) (tCons (tOf K mg xf W fa) tNil) σ H Q := by
  refine r_take (T := fun _ _ _ => True) h fun {F ow G H d res v st} A r e q => ?_
  cases d with
  | lst xs =>
    obtain ⟨a, vs, rfl, g1, g2⟩ := r
    obtain ⟨ys, e1, rfl⟩ := Option.map_eq_some_iff.mp (show (sortD xs).map D.mls = some res from e)
    have e2 : (match D.pys xs with
      | some ps => if (sortOk ps && lenOk xs) = true then some (xs.mergeSort (PySem.W.dataLe false encD)) else none
      | none => none) = some ys := e1
    cases hp : D.pys xs with
    | none => rw [hp] at e2; cases e2
    | some ps =>
      rw [hp] at e2
      have e3 : (if (sortOk ps && lenOk xs) = true then some (xs.mergeSort (PySem.W.dataLe false encD)) else none) = some ys := e2
      by_cases hk : (sortOk ps && lenOk xs) = true
      · rw [if_pos hk] at e3
        cases e3
        rw [Bool.and_eq_true] at hk
        obtain ⟨epm, epy⟩ := pys_map hp
        obtain ⟨z1, z2, z3⟩ := Rfs.zip_snd g2
        have em : (xs.zip vs).map (fun b => encD b.1) = ps := by
          rw [epm, ← z2, List.map_map]
          simp only [z2]
          rfl
        obtain ⟨s1, s2, s3⟩ := sortOk_ok hk.1
        refine ⟨a, vs, D, xs.zip vs, encD, rfl, SqL.of (A.wd.fh _ _ g1), z1.symm, fun b hb => ?_, by rw [em]; exact s1, by rw [em]; exact s2, fun b hb => ?_, fun p hp => ?_⟩
        · have hx : b.1 ∈ xs := by rw [← z2]; exact List.mem_map.mpr ⟨b, hb, rfl⟩
          exact Rf.dp A.wd.fh (z3 b hb) (epy _ hx)
        · exact s3 _ (by rw [← em]; exact List.mem_map.mpr ⟨b, hb, rfl⟩)
        · have key : ((xs.zip vs).mergeSort (PySem.W.dataLe false fun b => encD b.1)).map (·.1) = xs.mergeSort (PySem.W.dataLe false encD) := by
            have := List.map_mergeSort (f := fun b : D × V => b.1) (l := xs.zip vs) (r := PySem.W.dataLe false fun b : D × V => encD b.1) (s := PySem.W.dataLe false encD) (fun a _ b _ => rfl)
            rw [this, z2]
          have rs : Rfs K mg F (xs.mergeSort (PySem.W.dataLe false encD)) (((xs.zip vs).mergeSort (PySem.W.dataLe false fun b => encD b.1)).map (·.2)) := by
            rw [← key]
            exact Rfs.of_zip fun b hb => z3 b (List.mem_mergeSort.mp hb)
          obtain ⟨g, z⟩ := new_lst (o := .stk st.length) A.wd rs hp
          exact q _ _ _ _ g z
      · rw [if_neg hk] at e3; cases e3
  | mls ys => exact r.elim
  | _ => cases e

/-! ### *e in a display -/
theorem At.pushFs : ∀ {ds : List D} {vs : List V} {st : List (RV × V)}, At K mg F ow G σ H st → Rfs K mg F ds vs → At K mg F ow G σ H (stkOf (ds.map .val) vs st)
  | [], vs, st, A, h => by rw [show vs = [] from h]; exact A
  | d :: ds, _, st, A, ⟨v, r, e, h1, h2⟩ => by
    subst e
    exact At.pushFs (st := (.val d, v) :: st) (A.pushF h1) h2
theorem stkOf_append : ∀ {r1 : List RV} {v1 : List V} {r2 : List RV} {v2 : List V} {st : List (RV × V)}, r1.length = v1.length → stkOf (r1 ++ r2) (v1 ++ v2) st = stkOf r2 v2 (stkOf r1 v1 st)
  | [], [], _, _, _, _ => rfl
  | _ :: r1, _ :: v1, r2, v2, st, h => stkOf_append (r1 := r1) (v1 := v1) (by simpa using h)
theorem r_star {QA : List V → Hp → Prop} (h : tOfA K mg xf W (fun G => (fa G).bind fun x G1 => match Dv.take x G1 with
    | some (d, G2) => (match seqOf d with
      | some ds => (fs G2).bind fun xs G3 => .ok (ds.map .val ++ xs) G3
      | none => .no)
    | none => .no) σ H QA) : StX.tStar K (tOf K mg xf W fa) (tOfA K mg xf W fs) σ H QA := by
  obtain ⟨F, ow, G, st, A, h⟩ := h
  refine run_E (pre := []) A mono_A h fun F1 ow1 H1 G1 x v A1 h1 => ?_
  cases e : Dv.take x G1 with
  | none => rw [e] at h1; exact h1.elim
  | some q =>
    obtain ⟨d, G2⟩ := q
    rw [e] at h1
    obtain ⟨F2, ow2, A2, X2, r2⟩ := At.take (pre := []) A1 e
    have A3 : At K mg F2 ow2 G2 σ H1 st := A2.pop
    have go : ∀ {ds : List D} {vs : List V}, seqOf d = some ds → Rfs K mg F2 ds vs → tOfA K mg xf W fs σ H1 fun ys H2 => QA (vs ++ ys) H2 := fun {ds vs} e2 rs => by
      have h2 : Fin K mg xf W σ st (pA K mg σ st QA) F1 ow1 H1 (match seqOf d with
        | some ds => (fs G2).bind fun xs G3 => .ok (ds.map .val ++ xs) G3
        | none => .no) := h1
      rw [e2] at h2
      have h3 : Fin K mg xf W σ st (pA K mg σ st QA) F2 ow2 H1 ((fs G2).bind fun xs G3 => .ok (ds.map .val ++ xs) G3) := Fin.ext mono_A X2 h2
      obtain ⟨pre, hp⟩ := stkOf_pre (ds.map RV.val) vs st
      have A4 := A3.pushFs rs
      rw [hp] at A4
      refine run_A (pre := pre) A4 mono_A h3 fun F5 ow5 H5 G5 rvs ws hl A5 h5 => ?_
      have hlv : (ds.map RV.val).length = vs.length := by rw [List.length_map, rs.len]
      refine h5 (vs ++ ws) F5 ow5 H5 (by rw [List.length_append, List.length_append, hlv, hl]) ?_ .refl
      rw [stkOf_append hlv, hp]
      exact A5
    cases d with
    | lst ys =>
      obtain ⟨a, vs, rfl, g1, g2⟩ := r2
      exact ⟨a, vs, rfl, .inr (SqL.of (A3.wd.fh _ _ g1)), go rfl g2⟩
    | tup ys =>
      obtain ⟨a, vs, rfl, g1, g2⟩ := r2
      exact ⟨a, vs, rfl, .inl (A3.wd.fh.sqT g1), go rfl g2⟩
    | mls ys => exact r2.elim
    | _ => exact h1.elim
end

/-! ### a call of a local name -/
def tCallV (S : Addr → Sp → Prop) (i : Nat) (W : WX) (t : TA) : TE := fun σ H Q => ∃ f sp, σ[i]? = some (some (.ref f)) ∧ S f sp ∧ t σ H fun vs H1 => sp vs H1 Q (WE W σ)
section
variable {X : Cx} {W : WX} {i : Nat} {x : Str} {p pos : Pos} {e : Expr} {es : List Expr} {t : TA} {S : Addr → Sp → Prop}
theorem pe_callV (A : ∀ f sp, S f sp → ∃ (fd : FuncData) (ps : List Str) (k : Nat), FnOk X.prog X.w X.K X.mg X.base (L2.CX X.prog X.w) k f fd ps sp ∧ Room k X.A ∧ PySem.W.keepIn X.K (.ref f) = true ∧ Binds X.K fd ps []) (tk : Takes X W) (hN : X.N[i]? = some x) (hv : Vis X.env.scope x) (ha : PA X (e :: es) t)
    (hdb : (x == ("__debug__" : Str)) = false := by decide) (hcd : (x == ("__classdict__" : Str)) = false := by decide)
    (he : starEach (e :: es) X.env = (false, eval e X.env) :: starEach es X.env := by rfl) (hpl : (backTo pos (starEach es X.env)).any (·.1) = false := by rfl) : PE X (.Call (.Name x p) (e :: es) [] pos) (tCallV S i W t) := by
  refine ⟨fun pins s σ H Q I h => ?_⟩
  obtain ⟨f, sp, hs, hS, ht⟩ := h
  obtain ⟨fd, ps, k, F, hr, hk, hb⟩ := A f sp hS
  refine wpAny_Call_Name_kw (thn ((pe_var (pos := p) hN hv hdb hcd).run pins s σ H (fun v H1 => v = .ref f ∧ H1 = H) I ⟨.ref f, hs, rfl, rfl⟩) fun u s1 ⟨v, H1, I1, r1, q1⟩ => ?_)
  obtain ⟨rfl, rfl⟩ := q1
  cases r1
  refine PySem.W.callWith_K (h₀ := X.base) I.ok.mod.kin hk (thn (ha.run pos pins s1 σ _ _ I1 ht) fun us s2 ⟨vs, H2, I2, r, q⟩ => ⟨I2.kIn, ?_⟩) he hpl
  exact run_fnS F hr hb (passAt tk σ) I2 r q
end
end Dv
end
section
set_option Elab.async false
set_option linter.all false
set_option maxRecDepth 100000
set_option maxHeartbeats 2000000
/-! Dv16: nodes of Dv15; comprehensions. -/
namespace Dv
open PySem L2
section
variable {X : Cx} {xf : Str → List Str} {W : WX} {C : Ctx} {sg : List (Str × Nat)} {fr : List Str}
variable {e a b c : Expr} {es rest : List Expr} {pos p p1 p2 p3 pt pos' : Pos} {x y z : Exp} {xs : Exps} {k j : Nat}
theorem n_star (h : NE X xf W C e x) (hr : NA X xf W C es xs) (hs : starEach (.Starred e p :: es) X.env = (true, eval e X.env) :: starEach es X.env := by rfl) : NA X xf W C (.Starred e p :: es) (.star x xs) := pa_imp (StX.pa_star h hr hs) fun _ _ _ => r_star
/-- a built-in type's name -/
theorem n_ty (O : Cok X xf W C sg fr) (t : Ty) (hf : fr.contains (t.nm : Str) = true) (hg : Gl X (t.nm : Str)) : PE X (.Name (t.nm : Str) p) (tC (.ty t.nm)) := by
  have hm := O.free _ hf
  cases t with
  | int => exact pe_bltn hg hm (u := .type "int") (by rfl) rfl (by decide) (by decide)
  | bool => exact pe_bltn hg hm (u := .type "bool") (by rfl) rfl (by decide) (by decide)
  | str => exact pe_bltn hg hm (u := .type "str") (by rfl) rfl (by decide) (by decide)
  | tuple => exact pe_bltn hg hm (u := .type "tuple") (by rfl) rfl (by decide) (by decide)
  | list => exact pe_bltn hg hm (u := .type "list") (by rfl) rfl (by decide) (by decide)
  | dict => exact pe_bltn hg hm (u := .type "dict") (by rfl) rfl (by decide) (by decide)
theorem n_isi1 (O : Cok X xf W C sg fr) (t : Ty) (h : NE X xf W C e x) (hf0 : fr.contains "isinstance" = true := by rfl) (hg0 : Gl X "isinstance" := by rfl) (hf : fr.contains (t.nm : Str) = true := by rfl) (hg : Gl X (t.nm : Str) := by rfl)
    (he : starEach (e :: [.Name (t.nm : Str) p]) X.env = (false, eval e X.env) :: starEach [.Name (t.nm : Str) p] X.env := by rfl) (hpl : (backTo pos (starEach [.Name (t.nm : Str) p] X.env)).any (·.1) = false := by rfl) :
    NE X xf W C (.Call (.Name "isinstance" p1) [e, .Name (t.nm : Str) p] [] pos) (.isi x [t]) :=
  pe_imp (pe_callB (x := "isinstance") (id := "isinstance") call_isi hg0 (O.free _ hf0) (by rfl) (pa_cons h (pa_cons (n_ty O t hf hg) pa_nil rfl) he) (by decide) (by decide) he hpl) fun _ _ _ => r_isi1
theorem n_isi2 (O : Cok X xf W C sg fr) (t u : Ty) (h : NE X xf W C e x) (hf0 : fr.contains "isinstance" = true := by rfl) (hg0 : Gl X "isinstance" := by rfl) (hf : fr.contains (t.nm : Str) = true := by rfl) (hg : Gl X (t.nm : Str) := by rfl) (hf' : fr.contains (u.nm : Str) = true := by rfl) (hg' : Gl X (u.nm : Str) := by rfl)
    (he : starEach (e :: [.Tuple [.Name (t.nm : Str) p, .Name (u.nm : Str) p2] k pt]) X.env = (false, eval e X.env) :: starEach [.Tuple [.Name (t.nm : Str) p, .Name (u.nm : Str) p2] k pt] X.env := by rfl) (hpl : (backTo pos (starEach [.Tuple [.Name (t.nm : Str) p, .Name (u.nm : Str) p2] k pt] X.env)).any (·.1) = false := by rfl) :
    NE X xf W C (.Call (.Name "isinstance" p1) [e, .Tuple [.Name (t.nm : Str) p, .Name (u.nm : Str) p2] k pt] [] pos) (.isi x [t, u]) :=
  pe_imp (pe_callB (x := "isinstance") (id := "isinstance") call_isiT hg0 (O.free _ hf0) (by rfl) (pa_cons h (pa_cons (pe_tup (pa_cons (n_ty O t hf hg) (pa_cons (n_ty O u hf' hg') pa_nil rfl) rfl)) pa_nil rfl) he) (by decide) (by decide) he hpl) fun _ _ _ => r_isi2
theorem n_tuple (O : Cok X xf W C sg fr) (h : NE X xf W C e x) (hf : fr.contains "tuple" = true := by rfl) (hg : Gl X "tuple" := by rfl) (he : starEach [e] X.env = (false, eval e X.env) :: starEach [] X.env := by rfl) : NE X xf W C (.Call (.Name "tuple" p) [e] [] pos) (.col .tuple x) :=
  pe_imp (pe_callTy (x := "tuple") (T := "tuple") call_tuple_of hg (O.free _ hf) (by rfl) (pa_cons h pa_nil he) (by decide) (by decide) he rfl) fun _ _ _ => r_tupleOf
theorem n_list (O : Cok X xf W C sg fr) (h : NE X xf W C e x) (hf : fr.contains "list" = true := by rfl) (hg : Gl X "list" := by rfl) (he : starEach [e] X.env = (false, eval e X.env) :: starEach [] X.env := by rfl) : NE X xf W C (.Call (.Name "list" p) [e] [] pos) (.col .list x) :=
  pe_imp (pe_callTy (x := "list") (T := "list") call_list_of hg (O.free _ hf) (by rfl) (pa_cons h pa_nil he) (by decide) (by decide) he rfl) fun _ _ _ => r_listOf
theorem n_sorted (O : Cok X xf W C sg fr) (h : NE X xf W C e x) (hf : fr.contains "sorted" = true := by rfl) (hg : Gl X "sorted" := by rfl) (he : starEach [e] X.env = (false, eval e X.env) :: starEach [] X.env := by rfl) : NE X xf W C (.Call (.Name "sorted" p) [e] [] pos) (.col .sorted x) :=
  pe_imp (pe_callB (x := "sorted") (id := "sorted") (cr_sortD O.room) hg (O.free _ hf) (by rfl) (pa_cons h pa_nil he) (by decide) (by decide) he rfl) fun _ _ _ => r_sortOf
/-! ### methods of lists -/
theorem n_append {i : Nat} {v : Str} {apos : Pos} (ho : NE X xf W C (.Name v p) (.var i)) (h : NA X xf W C (e :: es) xs)
    (hN : X.N[i]? = some v := by rfl) (hv : Vis X.env.scope v := by first | exact Or.inl rfl | exact Or.inr (Or.inl rfl) | exact Or.inr (Or.inr rfl)) (hd : (v == ("__debug__" : Str)) = false := by decide) (hcd : (v == ("__classdict__" : Str)) = false := by decide)
    (hbase : attributeBase (.Name v p) "append" X.env (eval (.Name v p) X.env) = eval (.Name v p) X.env := by rfl)
    (hfew : ((backTo pos (starEach (e :: es) X.env)).all (fun x => !x.1) && (backToKw pos (keywordEach [] X.env)).all (fun x => x.1.isSome) && decide ((e :: es).length + ([] : List Keyword).length + (if ([] : List Keyword).isEmpty then 0 else 1) < 30)) = true := by rfl)
    (hline : (apos.endLine == pos.line) = true := by rfl) (hs : starEach (e :: es) X.env = (false, eval e X.env) :: starEach es X.env := by rfl) (hplain : (backTo pos (starEach es X.env)).any (·.1) = false := by rfl) :
    NE X xf W C (.Call (.Attribute (.Name v p) "append" apos) (e :: es) [] pos) (.mt .append (.var i) xs) :=
  pe_imp (pe_bm F.plainAttrs_list F.slot_list_append F.type_list_append mt_append (pe_var hN hv hd hcd) h hbase hfew hline hs hplain) fun _ _ _ => r_mt (m := .append)
theorem n_extend {i : Nat} {v : Str} {apos : Pos} (ho : NE X xf W C (.Name v p) (.var i)) (h : NA X xf W C (e :: es) xs)
    (hN : X.N[i]? = some v := by rfl) (hv : Vis X.env.scope v := by first | exact Or.inl rfl | exact Or.inr (Or.inl rfl) | exact Or.inr (Or.inr rfl)) (hd : (v == ("__debug__" : Str)) = false := by decide) (hcd : (v == ("__classdict__" : Str)) = false := by decide)
    (hbase : attributeBase (.Name v p) "extend" X.env (eval (.Name v p) X.env) = eval (.Name v p) X.env := by rfl)
    (hfew : ((backTo pos (starEach (e :: es) X.env)).all (fun x => !x.1) && (backToKw pos (keywordEach [] X.env)).all (fun x => x.1.isSome) && decide ((e :: es).length + ([] : List Keyword).length + (if ([] : List Keyword).isEmpty then 0 else 1) < 30)) = true := by rfl)
    (hline : (apos.endLine == pos.line) = true := by rfl) (hs : starEach (e :: es) X.env = (false, eval e X.env) :: starEach es X.env := by rfl) (hplain : (backTo pos (starEach es X.env)).any (·.1) = false := by rfl) :
    NE X xf W C (.Call (.Attribute (.Name v p) "extend" apos) (e :: es) [] pos) (.mt .extend (.var i) xs) :=
  pe_imp (pe_bm F.plainAttrs_list F.slot_list_extend F.type_list_extend mt_extend (pe_var hN hv hd hcd) h hbase hfew hline hs hplain) fun _ _ _ => r_mt (m := .extend)
theorem n_popAt {i : Nat} {v : Str} {apos : Pos} (ho : NE X xf W C (.Name v p) (.var i)) (h : NA X xf W C (e :: es) xs)
    (hN : X.N[i]? = some v := by rfl) (hv : Vis X.env.scope v := by first | exact Or.inl rfl | exact Or.inr (Or.inl rfl) | exact Or.inr (Or.inr rfl)) (hd : (v == ("__debug__" : Str)) = false := by decide) (hcd : (v == ("__classdict__" : Str)) = false := by decide)
    (hbase : attributeBase (.Name v p) "pop" X.env (eval (.Name v p) X.env) = eval (.Name v p) X.env := by rfl)
    (hfew : ((backTo pos (starEach (e :: es) X.env)).all (fun x => !x.1) && (backToKw pos (keywordEach [] X.env)).all (fun x => x.1.isSome) && decide ((e :: es).length + ([] : List Keyword).length + (if ([] : List Keyword).isEmpty then 0 else 1) < 30)) = true := by rfl)
    (hline : (apos.endLine == pos.line) = true := by rfl) (hs : starEach (e :: es) X.env = (false, eval e X.env) :: starEach es X.env := by rfl) (hplain : (backTo pos (starEach es X.env)).any (·.1) = false := by rfl) :
    NE X xf W C (.Call (.Attribute (.Name v p) "pop" apos) (e :: es) [] pos) (.mt .pop (.var i) xs) :=
  pe_imp (pe_bm F.plainAttrs_list F.slot_list_pop F.type_list_pop (MtR.or mt_pop mt_popAt) (pe_var hN hv hd hcd) h hbase hfew hline hs hplain) fun _ _ _ => r_mt (m := .pop)
/-! ### a def in a slot -/
theorem r_callv {i : Nat} {fs : List Str} {fa : GEnv → R (List RV)} {K : PySem.W.Frag} {mg : Str → Option Value} {σ : St} {H : Hp} {Q : VK} (hcal : ∀ f, fs.contains f = true → ∃ np, CalOk (C.cal f) np ∧ sg.lookup f = some np)
    (h : tOf K mg xf W (fun G => match getS G i with
    | some (.fn f) => if fs.contains f then (fa G).bind fun rvs G1 => callE C f rvs G1 else .no
    | _ => .no) σ H Q) : tCallV (fun f sp => ∃ n np, fs.contains n = true ∧ sg.lookup n = some np ∧ mg n = some (.ref f) ∧ sp = spF K mg xf np (C.md n) (C.cal n)) i W (tOfA K mg xf W fa) σ H Q := by
  obtain ⟨F, ow, G, st, A, h⟩ := h
  dsimp only at h
  cases e : getS G i with
  | none => rw [e] at h; exact h.elim
  | some d =>
    cases d with
    | fn f =>
      rw [e] at h
      have h' : Fin K mg xf W σ st (pE K mg σ st Q) F ow H (if fs.contains f then (fa G).bind fun rvs G1 => callE C f rvs G1 else .no) := h
      by_cases hf : fs.contains f = true
      · rw [if_pos hf] at h'
        obtain ⟨v, hv, a, hm, rfl⟩ := A.env i _ e
        obtain ⟨np, ok, hl⟩ := hcal f hf
        exact ⟨a, _, hv, ⟨f, np, hf, hl, hm, rfl⟩, r_call ok ⟨F, ow, G, st, A, h'⟩⟩
      · rw [if_neg hf] at h'; exact h'.elim
    | _ => rw [e] at h; exact h.elim
theorem n_callv (O : Cok X xf W C sg fr) {i : Nat} {v : Str} {fs : List Str} (h : NA X xf W C (e :: es) xs) (hfs : fs.all (fun f => (sg.lookup f).isSome) = true := by rfl) (hN : X.N[i]? = some v := by rfl) (hv : Vis X.env.scope v := by first | exact Or.inl rfl | exact Or.inr (Or.inl rfl) | exact Or.inr (Or.inr rfl))
    (hdb : (v == ("__debug__" : Str)) = false := by decide) (hcd : (v == ("__classdict__" : Str)) = false := by decide) (he : starEach (e :: es) X.env = (false, eval e X.env) :: starEach es X.env := by rfl) (hpl : (backTo pos (starEach es X.env)).any (·.1) = false := by rfl) :
    NE X xf W C (.Call (.Name v p) (e :: es) [] pos) (.callv i fs xs) := by
  refine pe_imp (pe_callV (S := fun f sp => ∃ n np, fs.contains n = true ∧ sg.lookup n = some np ∧ X.mg n = some (.ref f) ∧ sp = spF X.K X.mg xf np (C.md n) (C.cal n)) (fun f sp ⟨n, np, h1, h2, h3, h4⟩ => ?_) O.tk hN hv h hdb hcd he hpl) fun _ _ _ q => r_callv (fun f hf => ?_) q
  · obtain ⟨fa, fd, ps, k, F, hr, hm, hk, hb⟩ := (O.cl n np h2).ex
    rw [h3] at hm
    cases hm
    exact ⟨fd, ps, k, by rw [h4]; exact F, hr, hk, hb⟩
  · have q := List.all_eq_true.mp hfs f (by simpa using hf)
    cases e : sg.lookup f with
    | none => rw [e] at q; cases q
    | some np => exact ⟨np, (O.cl f np e).ok, rfl⟩
/-! ### comprehensions -/
variable {tg it : Expr} {g : Tgt} {i : Ite} {scope : Scope} {own : List (Str × Nat)} {t : Tst}
def slOk (g : Tgt) (own : List (Str × Nat)) : Bool := g.slots.all fun j => (own.map (·.2)).contains j
theorem slOk_ok (h : slOk g own = true) : ∀ j ∈ g.slots, j ∈ own.map (·.2) := fun j hj => by simpa using List.all_eq_true.mp h j hj
theorem n_comp0 (O : Cok X xf W C sg fr) (hi : NI X xf W C tg it i) (hg : ∀ (s : Shared) (H : Hp) (D : Addr) (cl : List (Str × Addr)) (fp : List Addr), Cok (X.blk s H scope (compEnvC scope cl D X.env) fp) xf W0 C sg fr → NG (X.blk s H scope (compEnvC scope cl D X.env) fp) tg g)
    (he : ∀ (s : Shared) (H : Hp) (D : Addr) (cl : List (Str × Addr)) (fp : List Addr), Cok (X.blk s H scope (compEnvC scope cl D X.env) fp) xf W0 C sg fr → NE (X.blk s H scope (compEnvC scope cl D X.env) fp) xf W0 C a x)
    (ok : blkC X.N X.env.scope scope own = true := by kernel_rfl) (hsl : slOk g own = true := by rfl) (hs : ∀ x, foldedSetIterable it X.env x = pure x := by intro _; rfl) :
    NE X xf W C (.ListComp a [⟨tg, it, [], 0⟩] scope pos) (.comp (own.map (·.2)) g i .none x) :=
  pe_imp (pe_lc (wi := tOfI X.K X.mg xf W (evI C i)) (g := gOf X.K g) (tt := tYes) (te := tOf X.K X.mg xf W0 (evE C x)) O.calm O.nd hi (blkOk_by ok) (fun s H D cl fp => hg s H D cl fp O.blk) (fun _ _ _ _ _ => pts_nil) (fun s H D cl fp => he s H D cl fp O.blk) hs)
    fun _ _ _ q => r_comp (ft := none) (slOk_ok hsl) q
theorem n_comp1 (O : Cok X xf W C sg fr) (hi : NI X xf W C tg it i) (hg : ∀ (s : Shared) (H : Hp) (D : Addr) (cl : List (Str × Addr)) (fp : List Addr), Cok (X.blk s H scope (compEnvC scope cl D X.env) fp) xf W0 C sg fr → NG (X.blk s H scope (compEnvC scope cl D X.env) fp) tg g)
    (ht : ∀ (s : Shared) (H : Hp) (D : Addr) (cl : List (Str × Addr)) (fp : List Addr), Cok (X.blk s H scope (compEnvC scope cl D X.env) fp) xf W0 C sg fr → NT (X.blk s H scope (compEnvC scope cl D X.env) fp) xf W0 C c t)
    (he : ∀ (s : Shared) (H : Hp) (D : Addr) (cl : List (Str × Addr)) (fp : List Addr), Cok (X.blk s H scope (compEnvC scope cl D X.env) fp) xf W0 C sg fr → NE (X.blk s H scope (compEnvC scope cl D X.env) fp) xf W0 C a x)
    (ok : blkC X.N X.env.scope scope own = true := by kernel_rfl) (hsl : slOk g own = true := by rfl) (hs : ∀ x, foldedSetIterable it X.env x = pure x := by intro _; rfl) :
    NE X xf W C (.ListComp a [⟨tg, it, [c], 0⟩] scope pos) (.comp (own.map (·.2)) g i (.some t) x) :=
  pe_imp (pe_lc (wi := tOfI X.K X.mg xf W (evI C i)) (g := gOf X.K g) (tt := tOfT X.K X.mg xf W0 (evT C t)) (te := tOf X.K X.mg xf W0 (evE C x)) O.calm O.nd hi (blkOk_by ok) (fun s H D cl fp => hg s H D cl fp O.blk) (fun s H D cl fp => pts_one (ht s H D cl fp O.blk)) (fun s H D cl fp => he s H D cl fp O.blk) hs)
    fun _ _ _ q => r_comp (ft := some (evT C t)) (slOk_ok hsl) q
/-- name = [..] on one line -/
theorem n_setc0 (O : Cok X xf W C sg fr) {l : Nat} {v : Str} (hi : NI X xf W C tg it i) (hg : ∀ (s : Shared) (H : Hp) (D : Addr) (cl : List (Str × Addr)) (fp : List Addr), Cok (X.blk s H scope (compEnvC scope cl D X.env) fp) xf W0 C sg fr → NG (X.blk s H scope (compEnvC scope cl D X.env) fp) tg g)
    (he : ∀ (s : Shared) (H : Hp) (D : Addr) (cl : List (Str × Addr)) (fp : List Addr), Cok (X.blk s H scope (compEnvC scope cl D X.env) fp) xf W0 C sg fr → NE (X.blk s H scope (compEnvC scope cl D X.env) fp) xf W0 C a x)
    (hy : X.N[l]? = some v := by rfl) (hyl : X.env.scope.names.lookup v = some .local := by rfl) (hsw : swapsWith (.ListComp a [⟨tg, it, [], 0⟩] scope pos) (some (.Name v p)) pos'.line X.env = pure true := by rfl)
    (ok : blkC X.N X.env.scope scope own = true := by kernel_rfl) (hsl : slOk g own = true := by rfl) (hs : ∀ x, foldedSetIterable it X.env x = pure x := by intro _; rfl) :
    NS X xf W C (.Assign [.Name v p] (.ListComp a [⟨tg, it, [], 0⟩] scope pos) pos') (.set l (.comp (own.map (·.2)) g i .none x)) :=
  ps_imp (ps_setLc (wi := tOfI X.K X.mg xf W (evI C i)) (g := gOf X.K g) (tt := tYes) (te := tOf X.K X.mg xf W0 (evE C x)) O.calm O.nd hy hyl hsw hi (blkOk_by ok) (fun s H D cl fp => hg s H D cl fp O.blk) (fun _ _ _ _ _ => pts_nil) (fun s H D cl fp => he s H D cl fp O.blk) hs)
    fun _ _ _ q => r_comp (ft := none) (slOk_ok hsl) (s_set q)
theorem n_setc1 (O : Cok X xf W C sg fr) {l : Nat} {v : Str} (hi : NI X xf W C tg it i) (hg : ∀ (s : Shared) (H : Hp) (D : Addr) (cl : List (Str × Addr)) (fp : List Addr), Cok (X.blk s H scope (compEnvC scope cl D X.env) fp) xf W0 C sg fr → NG (X.blk s H scope (compEnvC scope cl D X.env) fp) tg g)
    (ht : ∀ (s : Shared) (H : Hp) (D : Addr) (cl : List (Str × Addr)) (fp : List Addr), Cok (X.blk s H scope (compEnvC scope cl D X.env) fp) xf W0 C sg fr → NT (X.blk s H scope (compEnvC scope cl D X.env) fp) xf W0 C c t)
    (he : ∀ (s : Shared) (H : Hp) (D : Addr) (cl : List (Str × Addr)) (fp : List Addr), Cok (X.blk s H scope (compEnvC scope cl D X.env) fp) xf W0 C sg fr → NE (X.blk s H scope (compEnvC scope cl D X.env) fp) xf W0 C a x)
    (hy : X.N[l]? = some v := by rfl) (hyl : X.env.scope.names.lookup v = some .local := by rfl) (hsw : swapsWith (.ListComp a [⟨tg, it, [c], 0⟩] scope pos) (some (.Name v p)) pos'.line X.env = pure true := by rfl)
    (ok : blkC X.N X.env.scope scope own = true := by kernel_rfl) (hsl : slOk g own = true := by rfl) (hs : ∀ x, foldedSetIterable it X.env x = pure x := by intro _; rfl) :
    NS X xf W C (.Assign [.Name v p] (.ListComp a [⟨tg, it, [c], 0⟩] scope pos) pos') (.set l (.comp (own.map (·.2)) g i (.some t) x)) :=
  ps_imp (ps_setLc (wi := tOfI X.K X.mg xf W (evI C i)) (g := gOf X.K g) (tt := tOfT X.K X.mg xf W0 (evT C t)) (te := tOf X.K X.mg xf W0 (evE C x)) O.calm O.nd hy hyl hsw hi (blkOk_by ok) (fun s H D cl fp => hg s H D cl fp O.blk) (fun s H D cl fp => pts_one (ht s H D cl fp O.blk)) (fun s H D cl fp => he s H D cl fp O.blk) hs)
    fun _ _ _ q => r_comp (ft := some (evT C t)) (slOk_ok hsl) (s_set q)
/-- a suite that is never reached -/
theorem n_none {ss : List Stmt} : NB X xf W C ss (.cons .never .nil) := pss_imp pss_never fun _ _ _ ⟨_, _, _, _, h⟩ => h.elim
end
end Dv
end
section
set_option Elab.async false
set_option linter.all false
set_option maxRecDepth 100000
set_option maxHeartbeats 2000000
/-! Dv17: defs, the program. -/
namespace Dv
open PySem L2
section
variable {K : PySem.W.Frag} {mg : Str → Option Value} {xf : Str → List Str} {F F' H H' : Hp} {ow ow' : Ows} {G : GEnv} {σ σ' : St} {PR : Prog}
theorem firsts_len : ∀ {md : List Bool} {n : Nat} {G : GEnv} {as : List D}, firsts md n G = some as → as.length = n
  | md, 0, G, as, h => by
    have h' : some [] = some as := by cases md <;> exact h
    cases h' <;> rfl
  | md, n + 1, G, as, h => by
    have h' : (match getS G 0 with
      | some d => (firsts md.tail n G.tail).map (d :: ·)
      | none => if md.headD false then none else (firsts md.tail n G.tail).map (.non :: ·)) = some as := by cases md <;> exact h
    cases e : getS G 0 with
    | some d =>
      rw [e] at h'
      obtain ⟨bs, h1, h2⟩ := Option.map_eq_some_iff.mp (show (firsts md.tail n G.tail).map (d :: ·) = some as from h')
      rw [← h2, List.length_cons, firsts_len h1]
    | none =>
      rw [e] at h'
      have h2 : (if md.headD false = true then none else (firsts md.tail n G.tail).map (D.non :: ·)) = some as := h'
      by_cases q : md.headD false = true
      · rw [if_pos q] at h2; cases h2
      · rw [if_neg q] at h2
        obtain ⟨bs, h1, h3⟩ := Option.map_eq_some_iff.mp h2
        rw [← h3, List.length_cons, firsts_len h1]
theorem getS_drop {j i : Nat} : getS (G.drop j) i = getS G (j + i) := by
  unfold getS
  rw [List.getElem?_drop]
/-- what the callee has of what was lent -/
theorem back_of (A : At K mg F ow G σ H []) : ∀ {n j : Nat} {md : List Bool} {as : List D} {vs : List V}, firsts md n (G.drop j) = some as → vs.length = n → (∀ i v, md.getD i false = true → vs[i]? = some v → σ[j + i]? = some (some v)) → BackR K mg F H ow j md as vs
  | 0, j, md, as, vs, h, hl, hs => by
    have : vs = [] := List.eq_nil_of_length_eq_zero hl
    subst this
    cases md with
    | nil => trivial
    | cons b ms => cases b <;> (cases as <;> trivial)
  | n + 1, j, md, as, [], h, hl, hs => by cases hl
  | n + 1, j, md, as, v :: vs, h, hl, hs => by
    have hG : (G.drop j).tail = G.drop (j + 1) := by rw [List.tail_drop]
    have h' : (match getS (G.drop j) 0 with
      | some d => (firsts md.tail n (G.drop j).tail).map (d :: ·)
      | none => if md.headD false then none else (firsts md.tail n (G.drop j).tail).map (.non :: ·)) = some as := by cases md <;> exact h
    rw [hG, getS_drop] at h'
    cases md with
    | nil => trivial
    | cons b ms =>
      have rest : ∀ {bs : List D}, firsts ms n (G.drop (j + 1)) = some bs → BackR K mg F H ow (j + 1) ms bs vs := fun {bs} e => back_of A e (by simpa using hl) fun i u hi hu => by
        have := hs (i + 1) u (by simpa using hi) (by simpa using hu)
        rw [show j + 1 + i = j + (i + 1) by omega]
        exact this
      cases e : getS G (j + 0) with
      | some d =>
        rw [e] at h'
        obtain ⟨bs, h1, h2⟩ := Option.map_eq_some_iff.mp (show (firsts ms n (G.drop (j + 1))).map (d :: ·) = some as from h')
        subst h2
        cases b with
        | false => exact rest h1
        | true =>
          refine ⟨?_, rest h1⟩
          obtain ⟨u, hu, r⟩ := A.env (j + 0) d e
          have := hs 0 v rfl rfl
          rw [this] at hu
          cases hu
          exact r
      | none =>
        rw [e] at h'
        cases b with
        | true => cases h'
        | false =>
          obtain ⟨bs, h1, h2⟩ := Option.map_eq_some_iff.mp (show (firsts ms n (G.drop (j + 1))).map (D.non :: ·) = some as from h')
          subst h2
          exact rest h1
theorem ArgR.len : ∀ {ds : List D} {j : Nat} {vs : List V}, ArgR K mg F H ow j ds vs → ds.length = vs.length
  | [], _, vs, h => by rw [show vs = [] from h]; rfl
  | _ :: _, _, _, ⟨v, r, e, _, h2⟩ => by subst e; rw [List.length_cons, List.length_cons, ArgR.len h2]
theorem ArgR.get : ∀ {ds : List D} {j : Nat} {vs : List V} {i : Nat} {d : D}, ArgR K mg F H ow j ds vs → ds[i]? = some d → ∃ v, vs[i]? = some v ∧ Rp K mg F H ow (.env (j + i)) d v
  | [], _, vs, i, d, h, e => by simp at e
  | x :: _, j, _, 0, d, ⟨v, r, e, h1, h2⟩, q => by
    subst e
    have q' : x = d := by simpa using q
    subst q'
    exact ⟨v, rfl, h1⟩
  | x :: _, j, _, i + 1, d, ⟨v, r, e, h1, h2⟩, q => by
    subst e
    obtain ⟨u, g1, g2⟩ := ArgR.get (i := i) h2 (by simpa using q)
    exact ⟨u, by simpa using g1, by rw [show j + (i + 1) = j + 1 + i by omega]; exact g2⟩
/-- the state at the entry -/
theorem at_start {N : List Str} {ds : List D} {vs : List V} (w : Wd F ow H) (h : ArgR K mg F H ow 0 ds vs) (hl : vs.length ≤ N.length) : At K mg F ow (ds.map some ++ List.replicate (N.length - ds.length) none) (start N vs) H [] where
  wd := w
  ln := by
    have := h.len
    unfold L2.start
    simp [this]
  env := fun i d e => by
    have hlen := h.len
    have e' : (ds.map some ++ List.replicate (N.length - ds.length) (none : Option D))[i]? = some (some d) := by
      unfold getS at e
      split at e
      · rename_i y hy
        cases e
        exact hy
      · cases e
    by_cases hi : i < ds.length
    · rw [List.getElem?_append_left (by simpa using hi), List.getElem?_map] at e'
      obtain ⟨d', g1, g2⟩ := Option.map_eq_some_iff.mp e'
      cases g2
      obtain ⟨v, v1, v2⟩ := h.get g1
      refine ⟨v, ?_, by rw [Nat.zero_add] at v2; exact v2⟩
      unfold L2.start
      rw [List.getElem?_append_left (by rw [List.length_map, ← hlen]; exact hi), List.getElem?_map, v1]
      rfl
    · rw [List.getElem?_append_right (by simpa using hi), List.getElem?_replicate] at e'
      split at e' <;> cases e'
  stk := trivial
theorem start_get {N : List Str} {vs : List V} {i : Nat} {v : V} (h : vs[i]? = some v) : (start N vs)[i]? = some (some v) := by
  have hi : i < vs.length := (List.getElem?_eq_some_iff.mp h).1
  unfold L2.start
  rw [List.getElem?_append_left (by rw [List.length_map]; exact hi), List.getElem?_map, h]
  rfl
theorem calOk_no {np : Nat} : CalOk (fun _ => FR.no) np := fun _ => trivial
theorem calOk_run {fd : Fd} {cal : Cal} : CalOk (runB PR cal fd) fd.np := fun ds => by
  have e : runB PR cal fd ds = (if ds.length = fd.np ∧ fd.np ≤ fd.ns then (match evSs ⟨cal, modes PR, fun i => fd.md.getD i false, fd.np⟩ fd.body (ds.map some ++ List.replicate (fd.ns - fd.np) none) with
    | .ok (.rt d) G => retF d (firsts fd.md fd.np G)
    | .ok .nx G => retF .non (firsts fd.md fd.np G)
    | .ex c es G => excF c es (firsts fd.md fd.np G)
    | _ => .no) else .no) := rfl
  rw [e]
  by_cases hc : ds.length = fd.np ∧ fd.np ≤ fd.ns
  · rw [if_pos hc]
    have go : ∀ (r : R Flo), (match (match r with
      | .ok (.rt d) G => retF d (firsts fd.md fd.np G)
      | .ok .nx G => retF .non (firsts fd.md fd.np G)
      | .ex c es G => excF c es (firsts fd.md fd.np G)
      | _ => FR.no) with
      | .ret _ as => ds.length = fd.np ∧ as.length = fd.np
      | .ex _ _ as => ds.length = fd.np ∧ as.length = fd.np
      | .no => True) := by
      intro r
      cases r with
      | no => trivial
      | ok f G =>
        cases f with
        | nx =>
          dsimp only
          cases q : firsts fd.md fd.np G with
          | none => trivial
          | some as => exact ⟨hc.1, firsts_len q⟩
        | rt d =>
          dsimp only
          cases q : firsts fd.md fd.np G with
          | none => trivial
          | some as => exact ⟨hc.1, firsts_len q⟩
        | bk => trivial
        | ct => trivial
      | ex c es G =>
        dsimp only
        cases q : firsts fd.md fd.np G with
        | none => trivial
        | some as => exact ⟨hc.1, firsts_len q⟩
    exact go _
  · rw [if_neg hc]; trivial
end

/-! ### the program's defs -/
section
variable (P : Program) (w : World) (K : PySem.W.Frag) (mg : Str → Option Value) (base : Heap) (xf : Str → List Str) (PR : Prog) (sg : List (Str × Nat)) (fr : List Str)
/-- a def of the row is the evaluator's def -/
def Df (f : Str) (np : Nat) : Prop := ∃ (fa : Addr) (fdat : FuncData) (qual : Str) (params : Arguments) (body : List Stmt) (scope : Scope) (N ps : List Str) (fd : Fd),
  FunD K f qual params body scope [] [] fa fdat ∧ FnScope N ps scope ∧ PR.lookup f = some fd ∧ fd.np = np ∧ ps.length = np ∧ fd.ns = N.length ∧ mg f = some (.ref fa) ∧ Binds K fdat ps [] ∧
  ∀ (n : Nat) (cdv : Value) (A : Around) (outer : List Env) (s : Shared) (H : Hp) (E : XK),
    Cok (cxOf (L2.CX P w) P w K mg base N qual scope fa cdv A outer s H E) xf (fun cls d _ H => E cls d H) ⟨evF PR n, modes PR, fun i => fd.md.getD i false, fd.np⟩ sg fr →
    PassesOwn (model P w) (cxOf (L2.CX P w) P w K mg base N qual scope fa cdv A outer s H E).A (cxOf (L2.CX P w) P w K mg base N qual scope fa cdv A outer s H E).env (cxOf (L2.CX P w) P w K mg base N qual scope fa cdv A outer s H E).xe →
    NB (cxOf (L2.CX P w) P w K mg base N qual scope fa cdv A outer s H E) xf (fun cls d _ H => E cls d H) ⟨evF PR n, modes PR, fun i => fd.md.getD i false, fd.np⟩ body fd.body
/-- all defs keep their promise, n deep -/
def AllOk (n : Nat) : Prop := ∀ f np, sg.lookup f = some np → ∃ (fa : Addr) (fdat : FuncData) (ps : List Str), FnOk P w K mg base (L2.CX P w) n fa fdat ps (spF K mg xf np (modes PR f) (evF PR n f)) ∧ mg f = some (.ref fa) ∧ PySem.W.keepIn K (.ref fa) = true ∧ Binds K fdat ps [] ∧ CalOk (evF PR n f) np
end
section
variable {P : Program} {w : World} {K : PySem.W.Frag} {mg : Str → Option Value} {base : Heap} {xf : Str → List Str} {PR : Prog} {sg : List (Str × Nat)} {fr : List Str}
theorem fin_body {N : List Str} {fd : Fd} {vs : List V} {F H : Hp} {ow : Ows} {ds : List D} {Q : VK} {E : XK} {n : Nat} (hv : vs.length = fd.np) (hns : fd.ns = N.length) (w' : Wd F ow H) (hA : ArgR K mg F H ow 0 ds vs) (hF : FinF K mg xf fd.md vs Q E F ow H (runB PR (evF PR n) fd ds)) :
    tOfS K mg xf (fun cls d _ H => E cls d H) (fun i => fd.md.getD i false) (evSs ⟨evF PR n, modes PR, fun i => fd.md.getD i false, fd.np⟩ fd.body) { nx := fun _ H' => Q .non H', bk := fun _ _ => False, ct := fun _ _ => False, rt := Q } (start N vs) H := by
  have e : runB PR (evF PR n) fd ds = (if ds.length = fd.np ∧ fd.np ≤ fd.ns then (match evSs ⟨evF PR n, modes PR, fun i => fd.md.getD i false, fd.np⟩ fd.body (ds.map some ++ List.replicate (fd.ns - fd.np) none) with
    | .ok (.rt d) G => retF d (firsts fd.md fd.np G)
    | .ok .nx G => retF .non (firsts fd.md fd.np G)
    | .ex c es G => excF c es (firsts fd.md fd.np G)
    | _ => .no) else .no) := rfl
  rw [e] at hF
  by_cases hc : ds.length = fd.np ∧ fd.np ≤ fd.ns
  · rw [if_pos hc] at hF
    have A0 := at_start (N := N) w' hA (by rw [hv, ← hns]; exact hc.2)
    rw [hc.1, ← hns] at A0
    refine ⟨F, ow, _, A0, ?_⟩
    have back : ∀ {G' : GEnv} {σ' : St} {F' : Hp} {ow' : Ows} {H' : Hp} {st : List (RV × V)} {as : List D}, At K mg F' ow' G' σ' H' st → PrEq (fun i => fd.md.getD i false) (start N vs) σ' → firsts fd.md fd.np G' = some as → BackR K mg F' H' ow' 0 fd.md as vs := fun {G' σ' F' ow' H' st as} A' b h => by
      refine back_of (At.pops (pre := st) (st := []) (by rw [List.append_nil]; exact A')) (j := 0) (by rw [List.drop_zero]; exact h) hv fun i v hi hv' => ?_
      rw [Nat.zero_add, b i hi]
      exact start_get hv'
    generalize hr : evSs ⟨evF PR n, modes PR, fun i => fd.md.getD i false, fd.np⟩ fd.body (ds.map some ++ List.replicate (fd.ns - fd.np) none) = r at hF
    cases r with
    | no => exact hF.elim
    | ok f G' =>
      cases f with
      | bk => exact hF.elim
      | ct => exact hF.elim
      | nx =>
        dsimp only at hF
        cases q : firsts fd.md fd.np G' with
        | none => rw [q] at hF; exact hF.elim
        | some as =>
          rw [q] at hF
          exact fun σ' F' ow' H' A' b X => hF.2 .non F' ow' H' A'.wd rfl (back A' b q) X
      | rt d =>
        dsimp only at hF
        cases q : firsts fd.md fd.np G' with
        | none => rw [q] at hF; exact hF.elim
        | some as =>
          rw [q] at hF
          exact fun v σ' F' ow' H' A' b X => hF.2 v F' ow' H' A'.wd A'.stk.1 (back A' b q) X
    | ex c es G' =>
      dsimp only at hF
      cases q : firsts fd.md fd.np G' with
      | none => rw [q] at hF; exact hF.elim
      | some as =>
        rw [q] at hF
        exact fun cls dd σ' F' ow' H' xv A' b X => hF.2 cls dd F' ow' H' xv A'.wd (back A' b q) X
  · rw [if_neg hc] at hF; exact hF.elim
theorem lookup_evF {f : Str} {fd : Fd} {n : Nat} {ds : List D} (h : PR.lookup f = some fd) : evF PR (n + 1) f ds = runB PR (evF PR n) fd ds := by
  show (match PR.lookup f with
    | some fd => runB PR (evF PR n) fd ds
    | none => .no) = _
  rw [h]
/-- one def, its callees n deep -/
theorem def_ok {f : Str} {np n : Nat} {fa : Addr} {fdat : FuncData} {qual : Str} {params : Arguments} {body : List Stmt} {scope : Scope} {N ps : List Str} {fd : Fd} (hfr : ∀ x, fr.contains x = true → mg x = none) (ih : AllOk P w K mg base xf PR sg n)
    (FD : FunD K f qual params body scope [] [] fa fdat) (S : FnScope N ps scope) (hl : PR.lookup f = some fd) (h1 : fd.np = np) (h2 : ps.length = np) (h3 : fd.ns = N.length)
    (B : ∀ (n : Nat) (cdv : Value) (A : Around) (outer : List Env) (s : Shared) (H : Hp) (E : XK),
      Cok (cxOf (L2.CX P w) P w K mg base N qual scope fa cdv A outer s H E) xf (fun cls d _ H => E cls d H) ⟨evF PR n, modes PR, fun i => fd.md.getD i false, fd.np⟩ sg fr →
      PassesOwn (model P w) (cxOf (L2.CX P w) P w K mg base N qual scope fa cdv A outer s H E).A (cxOf (L2.CX P w) P w K mg base N qual scope fa cdv A outer s H E).env (cxOf (L2.CX P w) P w K mg base N qual scope fa cdv A outer s H E).xe →
      NB (cxOf (L2.CX P w) P w K mg base N qual scope fa cdv A outer s H E) xf (fun cls d _ H => E cls d H) ⟨evF PR n, modes PR, fun i => fd.md.getD i false, fd.np⟩ body fd.body) :
    FnOk P w K mg base (L2.CX P w) (n + 1) fa fdat ps (spF K mg xf np (modes PR f) (evF PR (n + 1) f)) := by
  have hmd : modes PR f = fd.md := by unfold modes; rw [hl]
  refine FD.ok S (fun vs H Q E ⟨F, ow, ds, _, q, _, _⟩ => by rw [q, h2]) fun cdv A outer s H vs Q E hr hsp => ⟨_, B n cdv A outer s H E ?_ ?_, ?_⟩
  · refine ⟨rfl, S.nd, hr.mono (Nat.zero_le _), takes_of rfl rfl rfl rfl, fun g m hg => ?_, hfr⟩
    obtain ⟨ga, gd, gps, g1, g2, g3, g4, g5⟩ := ih g m hg
    exact ⟨⟨ga, gd, gps, n, g1, hr, g2, g3, g4⟩, g5⟩
  · exact passes_of (X := cxOf (L2.CX P w) P w K mg base N qual scope fa cdv A outer s H E) rfl
  · obtain ⟨F, ow, ds, w', hv, hA, hF⟩ := hsp
    rw [lookup_evF hl, hmd] at hF
    exact fin_body (by rw [hv, h1]) h3 w' hA hF
theorem all_ok (hfr : ∀ x, fr.contains x = true → mg x = none) (D : ∀ f np, sg.lookup f = some np → Df P w K mg base xf PR sg fr f np) : ∀ n, AllOk P w K mg base xf PR sg n
  | 0 => fun f np h => by
    obtain ⟨fa, fdat, qual, params, body, scope, N, ps, fd, FD, S, hl, h1, h2, h3, hm, hb, _⟩ := D f np h
    exact ⟨fa, fdat, ps, ⟨fun vs H Q E ⟨F, ow, ds, _, _, _, q⟩ => q.elim, fun A outer s H args us vs Q E _ _ _ _ ⟨F, ow, ds, _, _, _, q⟩ => q.elim⟩, hm, FD.kp, hb, calOk_no⟩
  | n + 1 => fun f np h => by
    obtain ⟨fa, fdat, qual, params, body, scope, N, ps, fd, FD, S, hl, h1, h2, h3, hm, hb, B⟩ := D f np h
    refine ⟨fa, fdat, ps, def_ok hfr (all_ok hfr D n) FD S hl h1 h2 h3 B, hm, FD.kp, hb, ?_⟩
    intro ds
    rw [lookup_evF hl, ← h1]
    exact calOk_run ds
/-- the law's def, called with the script -/
theorem sp_law {n : Nat} {f : Str} {a : Addr} {H : Hp} {ns : List Int} {E : XK} (ok : CalOk (evF PR n f) 1) (hS : SqL K H a (ns.map V.int)) (h : ∃ as, evF PR n f [.scr ns] = .ret (.bl true) as) : spF K mg xf 1 (modes PR f) (evF PR n f) [.ref a] H (fun v _ => v = .bl true) E := by
  obtain ⟨as, h⟩ := h
  have hl := ok [.scr ns]
  rw [h] at hl
  refine ⟨H, fun _ => none, [.scr ns], ⟨fun _ _ q => q, fun _ _ q => (by cases q)⟩, rfl, ⟨.ref a, [], rfl, ⟨a, rfl, hS⟩, rfl⟩, ?_⟩
  rw [h]
  exact ⟨hl.2, fun v F' ow' H' _ r _ _ => r⟩
end
end Dv
end
section
set_option Elab.async false
set_option linter.all false
set_option maxRecDepth 100000
set_option maxHeartbeats 4000000
/-! Dv18: list(zip(a, b)). -/
namespace Dv.Zl
open PySem PySem.W PySem.Calls PyProof.Rows
section
variable {prog : Program} {w : World} {A : Around} {E : Value → Shared → Prop} {s : Shared} {z TI TO i1 i2 T : Addr} {fp1 fp2 : List Addr} {n1 n2 i : Nat} {P1 P2 : Nat → Value → Prop} {St1 St2 : Nat → Heap → Prop} {f : Bool} {oT : Obj}
/-- the next pair while the last one is still held -/
theorem next_held {Q : Value → Shared → Prop} (S : ZipSep2 z TI TO i1 i2 fp1 fp2) (D1 : Draws prog w A i1 fp1 n1 P1 St1) (D2 : Draws prog w A i2 fp2 n2 P2 St2)
    (hz : IsZipHeld s.heap z TI TO T f) (hT : s.heap.get? T = some oT) (hTI : IsTupOf2 s.heap TI (.ref i1) (.ref i2)) (st1 : St1 i s.heap) (st2 : St2 i s.heap) (hlt1 : i < n1) (hlt2 : i < n2)
    (hQ : ∀ x1 x2 h' tk, P1 i x1 → P2 i x2 → IsZipHeld h' z TI TO T true → St1 (i + 1) h' → St2 (i + 1) h' → IsTupOf2 h' s.heap.objs.size x1 x2 → h'.objs.size = s.heap.objs.size + 1 →
      (∀ c o, c ≠ z → c ≠ i1 → c ≠ i2 → s.heap.get? c = some o → h'.get? c = some o) → Q (.ref s.heap.objs.size) { s with heap := h', toks := tk }) :
    wpAny (model prog w) A (Builtin.«zip.__next__» ⟨[.ref z], []⟩) (fun fin s' => ∃ v, fin = .done (.ret v) ∧ Q v s') E s := by
  obtain ⟨hp, g, d, tk0, os⟩ := s
  show wpAny _ _ (field (.ref z) 2 >>= _) _ _ _
  refine wpAny_bind (wpAny_field hz rfl (x := .bool false) rfl ?_)
  show wpAny _ _ (field (.ref z) 3 >>= _) _ _ _
  refine wpAny_bind (wpAny_field hz rfl (x := .ref TI) rfl ?_)
  refine wpAny_bind (wpAny_seqItems hTI rfl ?_)
  show wpAny _ _ (Builtin.SmallTypes.ownedTupleIsFree (.ref z) >>= _) _ _ _
  refine wpAny_bind (wpAny_tupleHeld_zip hz hT fun h1 hz1 hs1 => ?_)
  replace hs1 : Heap.SameBut z hp h1 := hs1
  simp only [Bool.false_eq_true, if_false]
  refine wpAny_bind ?_
  rw [← Array.forIn_toList]
  simp only [List.forIn_cons, List.forIn_nil]
  refine wpAny_bind (wpAny_bind (wpAny_holding ?_))
  show wpAny _ _ (Builtin.SmallTypes.nextOf (.ref i1) >>= _) _ _ ⟨h1, g, d, tk0, os⟩
  refine wpAny_bind (D1.item i _ _ _ hlt1 (D1.over st1 hs1 S.zf1) fun x1 p1 tk1 hx1 sn1 hp1 => wpAny_pure ?_)
  replace hp1 : Heap.SameBut i1 h1 p1 := hp1
  refine wpAny_pure ?_
  refine wpAny_bind (wpAny_bind (wpAny_holding ?_))
  show wpAny _ _ (Builtin.SmallTypes.nextOf (.ref i2) >>= _) _ _ ⟨p1, g, d, tk1, os⟩
  refine wpAny_bind (D2.item i _ _ _ hlt2 (D2.over (D2.over st2 hs1 S.zf2) hp1 S.sep1_2) fun x2 p2 tk2 hx2 sn2 hp2 => wpAny_pure ?_)
  replace hp2 : Heap.SameBut i2 p1 p2 := hp2
  refine wpAny_pure (wpAny_pure ?_)
  show wpAny _ _ (newTuple [x1, x2] >>= _) _ _ ⟨p2, g, d, tk2, os⟩
  refine wpAny_bind (wpAny_newTuple ?_)
  have hsz : p2.objs.size = hp.objs.size := by rw [hp2.1, hp1.1, hs1.1]
  have hz3 : IsZipHeld p2 z TI TO T true := hp2.extBut _ _ S.zi2 (hp1.extBut _ _ S.zi1 hz1)
  have hk : ∀ c o, c ≠ z → c ≠ i1 → c ≠ i2 → hp.get? c = some o → p2.get? c = some o := fun c o c1 c2 c3 e => hp2.extBut _ _ c3 (hp1.extBut _ _ c2 (hs1.extBut _ _ c1 e))
  have hj1 : St1 (i + 1) p2 := D1.over sn1 hp2 S.sep2_1
  refine wpAny_pure ⟨_, rfl, ?_⟩
  show Q (.ref p2.objs.size) _
  have hpr : IsTupOf2 (p2.push { cls := .type "tuple", data := .seq #[x1, x2] }) p2.objs.size x1 x2 := Heap.get?_push_size _ rfl
  have hz4 : (p2.push { cls := .type "tuple", data := .seq #[x1, x2] }).objs.size = p2.objs.size + 1 := Heap.size_push ..
  rw [hsz] at hpr hz4 ⊢
  exact hQ x1 x2 _ tk2 hx1 hx2 (Heap.get?_push_of_some _ hz3) (D1.frame _ _ _ hj1 fun b _ o e => Heap.get?_push_of_some _ e) (D2.frame _ _ _ sn2 fun b _ o e => Heap.get?_push_of_some _ e) hpr hz4 fun c o c1 c2 c3 e => Heap.get?_push_of_some _ (hk c o c1 c2 c3 e)
theorem end_held {Q : PySem.Fin → Shared → Prop} (S : ZipSep2 z TI TO i1 i2 fp1 fp2) (D1 : Draws prog w A i1 fp1 n1 P1 St1) (D2 : Draws prog w A i2 fp2 n2 P2 St2)
    (hz : IsZipHeld s.heap z TI TO T f) (hT : s.heap.get? T = some oT) (hTI : IsTupOf2 s.heap TI (.ref i1) (.ref i2)) (st1 : St1 i s.heap) (st2 : St2 i s.heap) (hle1 : i ≤ n1) (hle2 : i ≤ n2) (hend : i = n1 ∨ i = n2)
    (hE : ∀ h' tk e, (∀ c o, c ≠ z → c ≠ i1 → c ≠ i2 → s.heap.get? c = some o → h'.get? c = some o) → (∃ o, h'.get? e = some o ∧ o.cls = .type "StopIteration") → E (.ref e) { s with heap := h', toks := tk }) :
    wpAny (model prog w) A (Builtin.«zip.__next__» ⟨[.ref z], []⟩) Q E s := by
  obtain ⟨hp, g, d, tk0, os⟩ := s
  show wpAny _ _ (field (.ref z) 2 >>= _) _ _ _
  refine wpAny_bind (wpAny_field hz rfl (x := .bool false) rfl ?_)
  show wpAny _ _ (field (.ref z) 3 >>= _) _ _ _
  refine wpAny_bind (wpAny_field hz rfl (x := .ref TI) rfl ?_)
  refine wpAny_bind (wpAny_seqItems hTI rfl ?_)
  show wpAny _ _ (Builtin.SmallTypes.ownedTupleIsFree (.ref z) >>= _) _ _ _
  refine wpAny_bind (wpAny_tupleHeld_zip hz hT fun h1 hz1 hs1 => ?_)
  replace hs1 : Heap.SameBut z hp h1 := hs1
  simp only [Bool.false_eq_true, if_false]
  refine wpAny_bind ?_
  rw [← Array.forIn_toList]
  simp only [List.forIn_cons, List.forIn_nil]
  refine wpAny_bind (wpAny_bind (wpAny_holding ?_))
  show wpAny _ _ (Builtin.SmallTypes.nextOf (.ref i1) >>= _) _ _ ⟨h1, g, d, tk0, os⟩
  by_cases hlt1 : i < n1
  · refine wpAny_bind (D1.item i _ _ _ hlt1 (D1.over st1 hs1 S.zf1) fun x1 p1 tk1 hx1 sn1 hp1 => wpAny_pure ?_)
    replace hp1 : Heap.SameBut i1 h1 p1 := hp1
    refine wpAny_pure ?_
    have hi2 : i = n2 := by omega
    refine wpAny_bind (wpAny_bind (wpAny_holding ?_))
    show wpAny _ _ (Builtin.SmallTypes.nextOf (.ref i2) >>= _) _ _ ⟨p1, g, d, tk1, os⟩
    refine wpAny_bind (D2.done ⟨p1, g, d, tk1, os⟩ _ _ (by rw [← hi2]; exact D2.over (D2.over st2 hs1 S.zf2) hp1 S.sep1_2) fun q e hq he => ?_)
    replace hq : Heap.ExtBut i2 p1 q := hq
    exact hE q tk1 e (fun c o cz c1 c2 x => hq _ _ c2 (hp1.extBut _ _ c1 (hs1.extBut _ _ cz x))) he
  · have hi1 : i = n1 := by omega
    refine wpAny_bind (D1.done ⟨h1, g, d, tk0, os⟩ _ _ (by rw [← hi1]; exact D1.over st1 hs1 S.zf1) fun q e hq he => ?_)
    replace hq : Heap.ExtBut i1 h1 q := hq
    exact hE q tk0 e (fun c o cz c1 c2 x => hq _ _ c1 (hs1.extBut _ _ cz x)) he

/-- the state of such a zip, S the list that is filled -/
def ZSt (z TI TO i1 i2 S : Addr) (St1 St2 : Nat → Heap → Prop) (i : Nat) (h : Heap) : Prop := IsTupOf2 h TI (.ref i1) (.ref i2) ∧ St1 i h ∧ St2 i h ∧
  ((IsZip h z TI TO .none ∧ ∃ a b, IsTupOf2 h TO a b) ∨ ∃ T f oT, IsZipHeld h z TI TO T f ∧ h.get? T = some oT ∧ T ≠ z ∧ T ≠ i1 ∧ T ≠ i2 ∧ T ≠ S)
theorem nxt {S' : Addr} {Q : Option Value → Shared → Prop} (S : ZipSep2 z TI TO i1 i2 fp1 fp2) (D1 : Draws prog w A.in1 i1 fp1 n1 P1 St1) (D2 : Draws prog w A.in1 i2 fp2 n2 P2 St2) (st : ZSt z TI TO i1 i2 S' St1 St2 i s.heap) (hlt1 : i < n1) (hlt2 : i < n2) (hS : S' < s.heap.objs.size)
    (hQ : ∀ x1 x2 h' tk, P1 i x1 → P2 i x2 → ZSt z TI TO i1 i2 S' St1 St2 (i + 1) h' → IsTupOf2 h' s.heap.objs.size x1 x2 → h'.objs.size = s.heap.objs.size + 1 →
      (∀ c o, c ≠ z → c ≠ TO → c ≠ i1 → c ≠ i2 → s.heap.get? c = some o → h'.get? c = some o) → Q (some (.ref s.heap.objs.size)) { s with heap := h', toks := tk }) : wpAny (model prog w) A (pyNext (.ref z)) Q E s := by
  obtain ⟨hTI, st1, st2, hz⟩ := st
  have lt : ∀ {c o}, s.heap.get? c = some o → s.heap.objs.size ≠ c := fun e => Nat.ne_of_gt (Heap.lt_size e)
  have l1 : s.heap.objs.size ≠ i1 := by obtain ⟨_, e⟩ := D1.live _ _ st1; exact lt e
  have l2 : s.heap.objs.size ≠ i2 := by obtain ⟨_, e⟩ := D2.live _ _ st2; exact lt e
  rcases hz with ⟨hz, a, b, hTO⟩ | ⟨T, f, oT, hz, hT, r1, r2, r3, r4⟩
  · refine wpAny_pyNext_zipD2_item S D1 D2 hz hTI hTO st1 st2 hlt1 hlt2 fun x1 x2 h' tk y1 y2 b1 b2 d1 d2 b5 b6 hk => ?_
    exact hQ x1 x2 h' tk y1 y2 ⟨hk _ _ S.TIz S.TITO S.TIi1 S.TIi2 hTI, d1, d2, .inr ⟨_, false, _, b1, b5, lt hz, l1, l2, Nat.ne_of_gt hS⟩⟩ b5 b6 hk
  · have hTy : s.TypeIs (.ref z) "zip" := ⟨_, hz, rfl⟩
    unfold pyNext
    exact wpAny_bind (wpAny_attempt (wpAny_callSpecial?_slot (name := Str.ofString "__next__") hTy F.slot_zip_next
      (wpAny_call_entry F.slot_zip_next hTy F.entry_zip_next
        (next_held S D1 D2 hz hT hTI st1 st2 hlt1 hlt2 fun x1 x2 h' tk y1 y2 b1 d1 d2 b5 b6 hk => wpAny_pure
          (hQ x1 x2 h' tk y1 y2 ⟨hk _ _ S.TIz S.TIi1 S.TIi2 hTI, d1, d2, .inr ⟨T, true, oT, b1, hk _ _ r1 r2 r3 hT, r1, r2, r3, r4⟩⟩ b5 b6 fun c o c1 _ c3 c4 e => hk c o c1 c3 c4 e)) (F.args_zip_next_1 _))))
theorem fin {S' : Addr} {Q : Option Value → Shared → Prop} (S : ZipSep2 z TI TO i1 i2 fp1 fp2) (D1 : Draws prog w A.in1 i1 fp1 n1 P1 St1) (D2 : Draws prog w A.in1 i2 fp2 n2 P2 St2) (st : ZSt z TI TO i1 i2 S' St1 St2 i s.heap) (hle1 : i ≤ n1) (hle2 : i ≤ n2) (hend : i = n1 ∨ i = n2)
    (hQ : ∀ h' tk, (∀ c o, c ≠ z → c ≠ TO → c ≠ i1 → c ≠ i2 → s.heap.get? c = some o → h'.get? c = some o) → Q none { s with heap := h', toks := tk }) : wpAny (model prog w) A (pyNext (.ref z)) Q E s := by
  obtain ⟨hTI, st1, st2, hz⟩ := st
  rcases hz with ⟨hz, a, b, hTO⟩ | ⟨T, f, oT, hz, hT, r1, r2, r3, r4⟩
  · exact wpAny_pyNext_zipD2_end S D1 D2 hz hTI hTO st1 st2 hle1 hle2 hend hQ
  · have hTy : s.TypeIs (.ref z) "zip" := ⟨_, hz, rfl⟩
    unfold pyNext
    refine wpAny_bind (wpAny_attempt (wpAny_callSpecial?_slot (name := Str.ofString "__next__") hTy F.slot_zip_next
      (wpAny_call_entry F.slot_zip_next hTy F.entry_zip_next (end_held S D1 D2 hz hT hTI st1 st2 hle1 hle2 hend fun h' tk e hk he => ?_) (F.args_zip_next_1 _))))
    obtain ⟨o, ho, hc⟩ := he
    refine wpAny_bind (wpAny_isInstance (T := "StopIteration") (b := true) ⟨o, ho, hc⟩ isSubtype_stop ?_)
    exact wpAny_pure (hQ _ _ fun c o c1 _ c3 c4 e => hk c o c1 c3 c4 e)
end
/-- the pairs made so far -/
structure Mk (P1 P2 : Nat → Value → Prop) (lo : Addr) (h : Heap) (as : List Addr) : Prop where
  rise : as.Pairwise (· < ·)
  above : ∀ a ∈ as, lo < a
  pairs : ∀ (j : Nat) (a : Addr), as[j]? = some a → ∃ x y, P1 j x ∧ P2 j y ∧ IsTupOf2 h a x y
theorem Mk.there {P1 P2 : Nat → Value → Prop} {lo : Addr} {h : Heap} {as : List Addr} (g : Mk P1 P2 lo h as) {a : Addr} (ha : a ∈ as) : a < h.objs.size := by
  obtain ⟨j, hj⟩ := List.mem_iff_getElem?.mp ha
  obtain ⟨_, _, _, _, e⟩ := g.pairs j a hj
  exact Heap.lt_size e
section
variable {prog : Program} {w : World} {A : Around} {s : Shared} {R : Result → Shared → Prop} {z TI TO i1 i2 S : Addr} {fp1 fp2 : List Addr} {n1 n2 : Nat} {P1 P2 : Nat → Value → Prop} {St1 St2 : Nat → Heap → Prop}
theorem ZSt.keep {i : Nat} {h h' : Heap} (D1 : Draws prog w A i1 fp1 n1 P1 St1) (D2 : Draws prog w A i2 fp2 n2 P2 St2) (st : ZSt z TI TO i1 i2 S St1 St2 i h) (k : ∀ b o, b ≠ S → h.get? b = some o → h'.get? b = some o) (hz : z ≠ S) (hTI : TI ≠ S) (hTO : TO ≠ S) (h1 : S ∉ fp1) (h2 : S ∉ fp2) : ZSt z TI TO i1 i2 S St1 St2 i h' := by
  obtain ⟨a, b, c, d⟩ := st
  refine ⟨k _ _ hTI a, D1.frame _ _ _ b fun x hx o e => k x o (fun q => h1 (q ▸ hx)) e, D2.frame _ _ _ c fun x hx o e => k x o (fun q => h2 (q ▸ hx)) e, ?_⟩
  rcases d with ⟨d, x, y, e⟩ | ⟨T, f, oT, d, e, r1, r2, r3, r4⟩
  · exact .inl ⟨k _ _ hz d, x, y, k _ _ hTO e⟩
  · exact .inr ⟨T, f, oT, k _ _ hz d, k _ _ r4 e, r1, r2, r3, r4⟩
theorem loop (Z : ZipSep2 z TI TO i1 i2 fp1 fp2) (D1 : Draws prog w A.in1.in1 i1 fp1 n1 P1 St1) (D2 : Draws prog w A.in1.in1 i2 fp2 n2 P2 St2) (hz : z < S) (hTI : TI < S) (hTO : TO < S) (hi1 : i1 < S) (hi2 : i2 < S) (hf1 : S ∉ fp1) (hf2 : S ∉ fp2) (hn : min n1 n2 ≤ sizeLine) (res : Value) {h₁ : Heap}
    (hR : ∀ h' tk acc c as, (∀ b o, b ≠ S → b ≠ z → b ≠ TO → b ≠ i1 → b ≠ i2 → h₁.get? b = some o → h'.get? b = some o) → h'.get? S = some { cls := .type "list", dict := none, data := .seq acc c, slots := #[] } → as.length = min n1 n2 → Mk P1 P2 S h' as →
      acc.toList = as.map Value.ref → R (.ok (.ret res)) { s with heap := h', toks := tk }) :
    ∀ (k i : Nat) (h : Heap) (tk c : Nat) (acc : Array Value) (as : List Addr), min n1 n2 - i = k → i ≤ min n1 n2 → ZSt z TI TO i1 i2 S St1 St2 i h → (∀ b o, b ≠ S → b ≠ z → b ≠ TO → b ≠ i1 → b ≠ i2 → h₁.get? b = some o → h.get? b = some o) →
      h.get? S = some { cls := .type "list", dict := none, data := .seq acc c, slots := #[] } → acc.toList = as.map Value.ref → as.length = i → Mk P1 P2 S h as →
      codeAny (model prog w) A (.builtin "list.extend.loop" ⟨[.ref S, .ref z, res], []⟩) R { s with heap := h, toks := tk } := by
  have big : ∀ {a : Addr}, S < a → a ≠ z ∧ a ≠ TO ∧ a ≠ i1 ∧ a ≠ i2 ∧ a ≠ S := fun {a} ha => ⟨Nat.ne_of_gt (Nat.lt_trans hz ha), Nat.ne_of_gt (Nat.lt_trans hTO ha), Nat.ne_of_gt (Nat.lt_trans hi1 ha), Nat.ne_of_gt (Nat.lt_trans hi2 ha), Nat.ne_of_gt ha⟩
  intro k
  induction k with
  | zero =>
    intro i h tk c acc as hk hi hst hkeep hS hacc hal hG
    refine codeAny_builtin PySem.F.entry_extend_loop ?_
    rw [Around.under_plainId PySem.F.plain_extend_loop _]
    show wpAny _ A.in1 (pyNext (.ref z) >>= _) _ _ _
    refine wpAny_bind (fin (s := { s with heap := h, toks := tk }) (A := A.in1) Z D1 D2 hst (by omega) (by omega) (by omega) fun h' tk' he => ?_)
    replace he : ∀ c o, c ≠ z → c ≠ TO → c ≠ i1 → c ≠ i2 → h.get? c = some o → h'.get? c = some o := he
    refine wpAny_pure (hR h' tk' acc c as (fun b o q0 q1 q2 q3 q4 e => he b o q1 q2 q3 q4 (hkeep b o q0 q1 q2 q3 q4 e)) (he S _ (Nat.ne_of_gt hz) (Nat.ne_of_gt hTO) (Nat.ne_of_gt hi1) (Nat.ne_of_gt hi2) hS) (by omega) ⟨hG.rise, hG.above, fun j a hj => ?_⟩ hacc)
    obtain ⟨x, y, e1, e2, e3⟩ := hG.pairs j a hj
    obtain ⟨b1, b2, b3, b4, _⟩ := big (hG.above a (List.mem_of_getElem? hj))
    exact ⟨x, y, e1, e2, he a _ b1 b2 b3 b4 e3⟩
  | succ k ih =>
    intro i h tk c acc as hk hi hst hkeep hS hacc hal hG
    have hsz : acc.size = i := by rw [← Array.length_toList, hacc, List.length_map, hal]
    have hSl : S < h.objs.size := Heap.lt_size hS
    refine codeAny_builtin PySem.F.entry_extend_loop ?_
    rw [Around.under_plainId PySem.F.plain_extend_loop _]
    show wpAny _ A.in1 (pyNext (.ref z) >>= _) _ _ _
    refine wpAny_bind (nxt (s := { s with heap := h, toks := tk }) (A := A.in1) (S' := S) Z D1 D2 hst (by omega) (by omega) hSl fun x1 x2 h' tk' y1 y2 hst' ht hz' hkp => ?_)
    dsimp only at ht hz' hkp ⊢
    have hS' := hkp S _ (Nat.ne_of_gt hz) (Nat.ne_of_gt hTO) (Nat.ne_of_gt hi1) (Nat.ne_of_gt hi2) hS
    have up : ∀ b o, b ≠ S → h'.get? b = some o → (h'.update S (Obj.mapSeq (·.push (Value.ref h.objs.size)))).get? b = some o := fun b o hb e => (Heap.get?_update_other _ _ (Ne.symm hb)).trans e
    show wpAny _ A.in1 (updateSeq S (·.push (Value.ref h.objs.size)) >>= _) _ _ _
    refine wpAny_bind ?_
    refine wpAny_updateSeq hS' rfl (wpAny_pure ⟨plainId_quiet PySem.F.plain_extend_loop _, ih (i + 1) _ tk' _ (acc.push (Value.ref h.objs.size)) (as ++ [h.objs.size]) (by omega) (by omega) (ZSt.keep D1 D2 hst' up (Nat.ne_of_lt hz) (Nat.ne_of_lt hTI) (Nat.ne_of_lt hTO) hf1 hf2)
      (fun b o q0 q1 q2 q3 q4 e => up b o q0 (hkp b o q1 q2 q3 q4 (hkeep b o q0 q1 q2 q3 q4 e))) (Heap.get?_update_self _ hS' rfl) (by rw [Array.toList_push, hacc, List.map_append]; rfl) (by rw [List.length_append, hal]; rfl) ⟨?_, ?_, ?_⟩⟩) (by rw [hsz]; omega) (by show (acc.push (Value.ref h.objs.size)).size ≤ sizeLine + 1; rw [Array.size_push, hsz]; omega)
    · refine List.pairwise_append.mpr ⟨hG.rise, List.pairwise_singleton _ _, fun a ha b hb => ?_⟩
      rw [List.mem_singleton.mp hb]
      exact hG.there ha
    · intro a ha
      rcases List.mem_append.mp ha with ha | ha
      · exact hG.above a ha
      · rw [List.mem_singleton.mp ha]; exact hSl
    · intro j b hj
      rcases Nat.lt_trichotomy j as.length with q | q | q
      · rw [List.getElem?_append_left q] at hj
        obtain ⟨x, y, e1, e2, e3⟩ := hG.pairs j b hj
        obtain ⟨b1, b2, b3, b4, b5⟩ := big (hG.above b (List.mem_of_getElem? hj))
        exact ⟨x, y, e1, e2, up b _ b5 (hkp b _ b1 b2 b3 b4 e3)⟩
      · subst q
        have hb : h.objs.size = b := by simpa using hj
        subst hb
        exact ⟨x1, x2, by rw [hal]; exact y1, by rw [hal]; exact y2, up _ _ (Nat.ne_of_gt hSl) ht⟩
      · have hnone : (as ++ [h.objs.size])[j]? = none := List.getElem?_eq_none (by rw [List.length_append, List.length_singleton]; omega)
        rw [hnone] at hj; cases hj
end
end Dv.Zl
end
section
set_option Elab.async false
set_option linter.all false
set_option maxRecDepth 100000
set_option maxHeartbeats 4000000
/-! Dv19: list(zip(a, b)): the call, the node. -/
namespace Dv.Zl
open PySem PySem.W PySem.Calls PyProof.Rows
theorem zip_nolen : typeLookup (.type "zip") "__len__" = pure none := am_miss_of_fast (by decide +kernel)
theorem zip_nohint : typeLookup (.type "zip") "__length_hint__" = pure none := am_miss_of_fast (by decide +kernel)
section
variable {prog : Program} {w : World} {A : Around} {E : Value → Shared → Prop} {s : Shared} {z TI TO i1 i2 : Addr} {fp1 fp2 : List Addr} {n1 n2 : Nat} {P1 P2 : Nat → Value → Prop} {St1 St2 : Nat → Heap → Prop}
theorem ext {R : Result → Shared → Prop} {S : Addr} (Z : ZipSep2 z TI TO i1 i2 fp1 fp2) (D1 : Draws prog w A.in1.in1 i1 fp1 n1 P1 St1) (D2 : Draws prog w A.in1.in1 i2 fp2 n2 P2 St2) (hz : z < S) (hTI : TI < S) (hTO : TO < S) (hi1 : i1 < S) (hi2 : i2 < S) (hf1 : S ∉ fp1) (hf2 : S ∉ fp2) (hn : min n1 n2 ≤ sizeLine) (res : Value) (c₀ : Nat)
    (gz : IsZip s.heap z TI TO .none) (gTI : IsTupOf2 s.heap TI (.ref i1) (.ref i2)) (gTO : ∃ a b, IsTupOf2 s.heap TO a b) (st1 : St1 0 s.heap) (st2 : St2 0 s.heap) (hS : s.heap.get? S = some { cls := .type "list", data := .seq #[] c₀ })
    (hR : ∀ h' tk acc c as, (∀ b o, b ≠ S → b ≠ z → b ≠ TO → b ≠ i1 → b ≠ i2 → s.heap.get? b = some o → h'.get? b = some o) → h'.get? S = some { cls := .type "list", dict := none, data := .seq acc c, slots := #[] } → as.length = min n1 n2 → Mk P1 P2 S h' as →
      acc.toList = as.map Value.ref → R (.ok (.ret res)) { s with heap := h', toks := tk }) :
    wpAny (model prog w) A.in1 (Builtin.List.listExtendWith (.ref S) (.ref z) res)
      (fun fin s' => match fin with | .done f => R (.ok f) s' | .again c' => c'.quiet = true ∧ codeAny (model prog w) A c' R s') (fun e s' => R (.error e) s') s := by
  have hT : s.TypeIs (.ref z) "zip" := ⟨_, gz, rfl⟩
  have hSz : S ≠ z := Nat.ne_of_gt hz
  unfold Builtin.List.listExtendWith
  refine wpAny_bind (wpAny_typeOf hT ?_)
  have h1 : Builtin.List.listSameRef (.ref S) (.ref z) = false := by simp [Builtin.List.listSameRef, hSz]
  have h2 : (Value.type "zip" == Value.type "list") = false := by decide
  have h3 : (Value.type "zip" == Value.type "tuple") = false := by decide
  simp only [h1, h2, h3, Bool.or_false, Bool.false_eq_true, if_false]
  refine wpAny_bind (wpAny_pyIter_zip gz ?_)
  refine wpAny_bind (wpAny_holding ?_)
  unfold Builtin.List.listLengthHint
  refine wpAny_bind (wpAny_specialOf hT zip_nolen ?_)
  show wpAny _ A.in1 (specialOf (Value.ref z) (Str.ofString "__length_hint__") >>= _) _ _ _
  refine wpAny_bind (wpAny_specialOf hT zip_nohint ?_)
  refine wpAny_pure ?_
  show wpAny _ A.in1 (rule "list.extend.makes-room" >>= fun _ => Builtin.List.listTouch (.ref S) >>= fun _ =>
    again (.builtin "list.extend.loop" ⟨[.ref S, .ref z, res], []⟩)) _ _ _
  refine wpAny_bind (wpAny_rule ?_)
  refine wpAny_bind ?_
  show wpAny _ A.in1 (updateSeq S (·.push .none) >>= fun _ => updateSeq S (·.pop)) _ _ _
  refine wpAny_bind (wpAny_updateSeq hS rfl ?_)
  have hS₂ := Heap.get?_update_self (Obj.mapSeq (·.push Value.none)) hS rfl
  refine wpAny_updateSeq (hz := by seq_fits) hS₂ rfl ?_
  have hS₃ := Heap.get?_update_self (Obj.mapSeq (·.pop)) hS₂ rfl
  have oth : ∀ b o, b ≠ S → s.heap.get? b = some o → ((s.heap.update S (Obj.mapSeq (·.push Value.none))).update S (Obj.mapSeq (·.pop))).get? b = some o :=
    fun b o hb e => (Heap.get?_update_other _ _ (Ne.symm hb)).trans ((Heap.get?_update_other _ _ (Ne.symm hb)).trans e)
  refine wpAny_pure ⟨plainId_quiet F.plain_extend_loop _, loop (A := A) (h₁ := s.heap) Z D1 D2 hz hTI hTO hi1 hi2 hf1 hf2 hn res (fun h' tk acc c as k1 k2 k3 k4 k5 => hR h' tk acc c as k1 k2 k3 k4 k5)
    (min n1 n2) 0 _ s.toks _ #[] [] (Nat.sub_zero _) (Nat.zero_le _) (ZSt.keep D1 D2 ⟨gTI, st1, st2, .inl ⟨gz, gTO⟩⟩ oth (Nat.ne_of_lt hz) (Nat.ne_of_lt hTI) (Nat.ne_of_lt hTO) hf1 hf2)
    (fun b o q0 _ _ _ _ e => oth b o q0 e) hS₃ rfl rfl ⟨List.Pairwise.nil, (fun _ ha => nomatch ha), (fun j a hj => by simp at hj)⟩⟩
/-- list(z), z a zip just made -/
theorem call {Q : Value → Shared → Prop} (Z : ZipSep2 z TI TO i1 i2 fp1 fp2) (D1 : Draws prog w A.in1.in1.in1 i1 fp1 n1 P1 St1) (D2 : Draws prog w A.in1.in1.in1 i2 fp2 n2 P2 St2) (hn : min n1 n2 ≤ sizeLine) (b1 : ∀ b ∈ fp1, b < s.heap.objs.size) (b2 : ∀ b ∈ fp2, b < s.heap.objs.size)
    (gz : IsZip s.heap z TI TO .none) (gTI : IsTupOf2 s.heap TI (.ref i1) (.ref i2)) (gTO : ∃ a b, IsTupOf2 s.heap TO a b) (st1 : St1 0 s.heap) (st2 : St2 0 s.heap)
    (hQ : ∀ h' tk acc c as, (∀ b o, b ≠ z → b ≠ TO → b ≠ i1 → b ≠ i2 → s.heap.get? b = some o → h'.get? b = some o) → h'.get? s.heap.objs.size = some { cls := .type "list", dict := none, data := .seq acc c, slots := #[] } → as.length = min n1 n2 → Mk P1 P2 s.heap.objs.size h' as →
      acc.toList = as.map Value.ref → Q (.ref s.heap.objs.size) { s with heap := h', toks := tk }) :
    wpAny (model prog w) A (PySem.call (.type "list") [.ref z]) Q E s := by
  have lz := Heap.lt_size gz
  have lTI := Heap.lt_size gTI
  obtain ⟨x, y, gTO⟩ := gTO
  have lTO := Heap.lt_size gTO
  have l1 : i1 < s.heap.objs.size := b1 _ Z.mem1
  have l2 : i2 < s.heap.objs.size := b2 _ Z.mem2
  refine callType_codes (Q₁ := fun obj s₁ => obj = .ref s.heap.objs.size ∧ s₁ = { s with heap := s.heap.push { cls := .type "list", data := .seq #[] } }) F.called_list (F.typeCall_list_1 _) F.entry_list_init
    (code_list_new _ ⟨rfl, rfl⟩) fun obj s₁ h₁ => ?_
  obtain ⟨rfl, rfl⟩ := h₁
  have hS : (s.heap.push { cls := .type "list", data := .seq #[] }).get? s.heap.objs.size = some { cls := .type "list", data := .seq #[] } := Heap.get?_push_size _ rfl
  refine ⟨⟨_, hS, rfl⟩, F.args_list_init_2 _ _, ?_⟩
  show wpAny _ A.in1.in1 (do let old ← Builtin.List.listItems (.ref s.heap.objs.size); Builtin.List.listUpdate (.ref s.heap.objs.size) (fun _ => #[]); letGo old.toList.reverse; Builtin.List.listExtendWith (.ref s.heap.objs.size) (.ref z) .none) _ _ _
  refine wpAny_bind ?_
  unfold Builtin.List.listItems
  refine wpAny_bind (wpAny_seqItems hS rfl (wpAny_pure ?_))
  show wpAny _ A.in1.in1 (updateSeq s.heap.objs.size (fun _ => #[]) >>= fun _ => letGo (#[] : Array Value).toList.reverse >>= fun _ => Builtin.List.listExtendWith (.ref s.heap.objs.size) (.ref z) .none) _ _ _
  refine wpAny_bind (wpAny_updateSeq hS rfl ?_)
  have hS₂ := Heap.get?_update_self (Obj.mapSeq (fun _ => (#[] : Array Value))) hS rfl
  have oth : ∀ b o, b ≠ s.heap.objs.size → s.heap.get? b = some o → ((s.heap.push { cls := .type "list", data := .seq #[] }).update s.heap.objs.size (Obj.mapSeq (fun _ => (#[] : Array Value)))).get? b = some o :=
    fun b o hb e => (Heap.get?_update_other _ _ (Ne.symm hb)).trans (Heap.get?_push_of_some _ e)
  refine wpAny_bind (wpAny_letGo ?_)
  refine ext (A := A.in1) Z D1 D2 lz lTI lTO l1 l2 (fun h => Nat.lt_irrefl _ (b1 _ h)) (fun h => Nat.lt_irrefl _ (b2 _ h)) hn .none _ (oth _ _ (Nat.ne_of_lt lz) gz) (oth _ _ (Nat.ne_of_lt lTI) gTI) ⟨x, y, oth _ _ (Nat.ne_of_lt lTO) gTO⟩
    (D1.frame _ _ _ st1 fun b hb o e => oth b o (Nat.ne_of_lt (b1 b hb)) e) (D2.frame _ _ _ st2 fun b hb o e => oth b o (Nat.ne_of_lt (b2 b hb)) e) hS₂ fun h' tk acc c as k1 k2 k3 k4 k5 => ?_
  exact ⟨rfl, hQ h' tk acc c as (fun b o q1 q2 q3 q4 e => k1 b o (Nat.ne_of_lt (Heap.lt_size e)) q1 q2 q3 q4 (oth b o (Nat.ne_of_lt (Heap.lt_size e)) e)) k2 k3 k4 k5⟩
end
end Dv.Zl
end
section
set_option Elab.async false
set_option linter.all false
set_option maxRecDepth 100000
set_option maxHeartbeats 4000000
/-! Dv20: the node list(zip(a, b)). -/
namespace Dv
open PySem L2
/-- new pairs at L -/
inductive Adds : Hp → List Addr → List (V × V) → Hp → Prop
  | nil {H : Hp} : Adds H [] [] H
  | cons {H H' : Hp} {a : Addr} {x y : V} {L : List Addr} {l : List (V × V)} : H a = none → Adds (upd H a (.tup [x, y])) L l H' → Adds H (a :: L) ((x, y) :: l) H'
def tLz (K : PySem.W.Frag) (ta : TA) : TE := fun σ H Q => ta σ H fun vs H1 => ∃ a b xs ys, vs = [.ref a, .ref b] ∧ ((SqL K H1 a xs ∧ SqL K H1 b ys) ∨ (SqT K H1 a xs ∧ SqT K H1 b ys)) ∧ min xs.length ys.length ≤ sizeLine ∧
  ∀ (L : List Addr) (H2 : Hp) (p : Addr), Adds H1 L (xs.zip ys) H2 → H2 p = none → Q (.ref p) (upd H2 p (.lst (L.map V.ref)))
section
variable {X : Cx} {pins : List (Addr × Obj)} {σ : L2.St} {H : Hp} {s : Shared} {h' : Heap} {tk : Nat}
theorem Adds.keep : ∀ {H H' : Hp} {L : List Addr} {l : List (V × V)}, Adds H L l H' → ∀ {b : Addr}, b ∉ L → H' b = H b
  | _, _, _, _, .nil, _, _ => rfl
  | _, _, _, _, .cons _ r, b, hb => (r.keep (fun z => hb (List.mem_cons_of_mem _ z))).trans (upd_ne fun z => hb (by rw [z]; exact List.mem_cons_self))
/-- the pairs that lie in the heap are tracked -/
theorem adds_ok (I0 : Inv X pins σ H s) : ∀ (L : List Addr) (l : List (V × V)) (H1 : Hp), Inv X pins σ H1 { s with heap := h', toks := tk } → L.Nodup → L.length = l.length →
    (∀ (j : Nat) (a : Addr) (p : V × V), L[j]? = some a → l[j]? = some p → s.heap.objs.size ≤ a ∧ H1 a = none ∧ ∃ u v, RelV p.1 u ∧ RelV p.2 v ∧ h'.get? a = some { cls := .type "tuple", data := .seq #[u, v] }) →
    ∃ H2, Inv X pins σ H2 { s with heap := h', toks := tk } ∧ Adds H1 L l H2
  | [], [], H1, I1, _, _, _ => ⟨H1, I1, .nil⟩
  | [], _ :: _, _, _, _, hl, _ => by cases hl
  | _ :: _, [], _, _, _, hl, _ => by cases hl
  | a :: L, p :: l, H1, I1, nd, hl, h => by
    obtain ⟨h1, h2, u, v, ru, rv, hg⟩ := h 0 a p rfl rfl
    rw [List.nodup_cons] at nd
    have I2 : Inv X pins σ (upd H1 a (.tup [p.1, p.2])) { s with heap := h', toks := tk } := I1.take (h' := h') (t' := tk) (fun b ob _ e => e) (I0.fpOk h1 h2)
      (show ObjOk X.prog X.w _ h' a (.tup [p.1, p.2]) from ⟨by show 2 ≤ sizeLine; decide, [u, v], .cons ru (.cons rv .nil), ⟨_, hg, rfl, _, rfl⟩⟩)
    obtain ⟨H2, I3, g⟩ := adds_ok I0 L l _ I2 nd.2 (by simpa using hl) fun j b q hb hq => by
      obtain ⟨c1, c2, c3⟩ := h (j + 1) b q (by simpa using hb) (by simpa using hq)
      exact ⟨c1, by rw [upd_ne (fun z => nd.1 (by rw [← z]; exact List.mem_of_getElem? hb))]; exact c2, c3⟩
    exact ⟨H2, I3, .cons h2 g⟩
theorem n05 (n : Nat) : n < n + 5 := by omega
theorem n15 (n : Nat) : n + 1 < n + 5 := by omega
theorem vals_refs : ∀ L : List Addr, Vals (L.map V.ref) (L.map Value.ref)
  | [] => .nil
  | _ :: L => .cons rfl (vals_refs L)
theorem pe_lzip {a b : Expr} {ta : TA} {p p2 pos pos2 : Pos} (hg : Gl X "list") (hm : X.mg "list" = none) (hg2 : Gl X "zip") (hm2 : X.mg "zip" = none) (hc : X.calm = true) (ha : PA X [a, b] ta)
    (he : starEach [.Call (.Name "zip" p2) [a, b] [] pos2] X.env = (false, eval (.Call (.Name "zip" p2) [a, b] [] pos2) X.env) :: starEach [] X.env := by rfl)
    (hs : starEach [a, b] X.env = (false, eval a X.env) :: starEach [b] X.env := by rfl) (hpl : (backTo pos2 (starEach [b] X.env)).any (·.1) = false := by rfl) :
    PE X (.Call (.Name "list" p) [.Call (.Name "zip" p2) [a, b] [] pos2] [] pos) (tLz X.K ta) := by
  refine ⟨fun pins s σ H Q I h => ?_⟩
  refine PyProof.Rows.Call_ (ld_blt I hg hm PyProof.Rows.boot_list ?_)
  refine PyProof.Rows.callWith_type1 (PyProof.Rows.args_cons ?_ he) he rfl
  refine PyProof.Rows.Call_ (ld_blt I hg2 hm2 PyProof.Rows.boot_zip (PyProof.Rows.callWith_type1 (thn (ha.run pos2 pins s σ H _ I h) fun us s1 ⟨vs, H1, I1, r1, q1⟩ => ?_) hs hpl))
  obtain ⟨x, y, xs, ys, ex, hk, hz, q1⟩ := q1
  subst ex
  cases r1 with
  | cons r rr =>
    cases rr with
    | cons r' rr =>
      cases rr
      cases r
      cases r'
      have fin : ∀ {its its2 : List Value} {h1 : Heap}, Vals xs its → Vals ys its2 → h1.objs.size = s1.heap.objs.size + 5 → (∀ c o, s1.heap.get? c = some o → h1.get? c = some o) →
          ∀ (h' : Heap) (tk : Nat) (acc : Array Value) (c : Nat) (as : List Addr), (∀ b o, b ≠ s1.heap.objs.size + 4 → b ≠ s1.heap.objs.size + 3 → b ≠ s1.heap.objs.size → b ≠ s1.heap.objs.size + 1 → h1.get? b = some o → h'.get? b = some o) →
          h'.get? h1.objs.size = some { cls := .type "list", dict := none, data := .seq acc c, slots := #[] } → as.length = min its.toArray.size its2.toArray.size → Zl.Mk (fun i v => its.toArray[i]? = some v) (fun i v => its2.toArray[i]? = some v) h1.objs.size h' as → acc.toList = as.map Value.ref →
          EP X pins σ Q (.ref h1.objs.size) { s1 with heap := h', toks := tk } := by
        intro its its2 h1 rv rv2 hsz hkp h' tk acc c as k1 k2 k3 k4 k5
        have kp : ∀ b o, s1.heap.get? b = some o → h'.get? b = some o := fun b o e => by
          have hb := Heap.lt_size e
          exact k1 b o (Nat.ne_of_lt (Nat.lt_of_lt_of_le hb (Nat.le_add_right _ _))) (Nat.ne_of_lt (Nat.lt_of_lt_of_le hb (Nat.le_add_right _ _))) (Nat.ne_of_lt hb) (Nat.ne_of_lt (Nat.lt_of_lt_of_le hb (Nat.le_add_right _ _))) (hkp b o e)
        have I2 : Inv X pins σ H1 { s1 with heap := h', toks := tk } := I1.kept kp
        have nd : as.Nodup := List.Pairwise.imp (fun h => Nat.ne_of_lt h) k4.rise
        have big : ∀ a ∈ as, s1.heap.objs.size ≤ a := fun a ha => Nat.le_of_lt (Nat.lt_of_le_of_lt (by rw [hsz]; exact Nat.le_add_right _ _) (k4.above a ha))
        have hlen : as.length = (xs.zip ys).length := by
          rw [k3, List.length_zip, rv.length, rv2.length]
          simp
        obtain ⟨H2, I3, g⟩ := adds_ok I1 as (xs.zip ys) H1 I2 nd hlen fun j a q ha hq => by
          obtain ⟨u, v, e1, e2, e3⟩ := k4.pairs j a ha
          have hq' := List.getElem?_zip_eq_some.mp hq
          obtain ⟨u', g1, r1⟩ := rv.get hq'.1
          obtain ⟨v', g2, r2⟩ := rv2.get hq'.2
          have e1' : its[j]? = some u := by simpa using e1
          have e2' : its2[j]? = some v := by simpa using e2
          rw [e1'] at g1
          rw [e2'] at g2
          cases g1
          cases g2
          exact ⟨big a (List.mem_of_getElem? ha), I1.hok.fresh (big a (List.mem_of_getElem? ha)), u, v, r1, r2, e3⟩
        have nS : H2 h1.objs.size = none := by
          rw [g.keep (fun z => Nat.lt_irrefl _ (k4.above _ z))]
          exact I1.hok.fresh (by rw [hsz]; exact Nat.le_add_right _ _)
        have I4 : Inv X pins σ (upd H2 h1.objs.size (.lst (as.map V.ref))) { s1 with heap := h', toks := tk } := I3.take (h' := h') (t' := tk) (fun b ob _ e => e) (I1.fpOk (by rw [hsz]; exact Nat.le_add_right _ _) nS)
          (show ObjOk X.prog X.w _ h' h1.objs.size (.lst (as.map V.ref)) from ⟨by rw [List.length_map, hlen, List.length_zip]; exact hz, as.map Value.ref, c, vals_refs as, by rw [← k5]; simpa using k2⟩)
        exact ⟨.ref h1.objs.size, _, I4, rfl, q1 as H2 h1.objs.size g nS⟩
      rcases hk with ⟨hqx, hqy⟩ | ⟨hqx, hqy⟩
      · obtain ⟨its, rv, p1, _⟩ := I1.list hqx
        obtain ⟨its2, rv2, p2, _⟩ := I1.list hqy
        have la := p1.lt
        have lb := p2.lt
        refine PySem.call_zip_2 p1.isList p2.isList fun h1 g1 g2 g3 g4 g5 g6 g7 => PyProof.Rows.args_nil ?_
        refine Zl.call (A := X.A) (s := { s1 with heap := h1 }) (PySem.zip_sep2 (N := s1.heap.objs.size) (fp1 := [x]) (fp2 := [y]) (fun b hb => by rw [List.mem_singleton.mp hb]; exact la) (fun b hb => by rw [List.mem_singleton.mp hb]; exact lb))
          (PySem.Draws.list (A := X.A.in1.in1.in1) (I.ok.hd hc) s1.heap.objs.size x (Nat.ne_of_lt la) its.toArray) (PySem.Draws.list (A := X.A.in1.in1.in1) (I.ok.hd hc) (s1.heap.objs.size + 1) y (Nat.ne_of_lt (Nat.lt_succ_of_lt lb)) its2.toArray) ?_ ?_ ?_ g1 g2 ⟨_, _, g3⟩
          ⟨g4, p1.isList.at fun o e => g7 _ o e⟩ ⟨g5, p2.isList.at fun o e => g7 _ o e⟩ (fin rv rv2 g6 g7)
        · rw [List.size_toArray, List.size_toArray, ← rv.length, ← rv2.length]; exact hz
        · intro b hb
          show b < h1.objs.size
          rw [g6]
          rcases List.mem_cons.mp hb with e | hb
          · rw [e]; exact n05 _
          · rw [List.mem_singleton.mp hb]; exact Nat.lt_trans la (n05 _)
        · intro b hb
          show b < h1.objs.size
          rw [g6]
          rcases List.mem_cons.mp hb with e | hb
          · rw [e]; exact n15 _
          · rw [List.mem_singleton.mp hb]; exact Nat.lt_trans lb (n05 _)
      · obtain ⟨its, rv, p1, _⟩ := I1.tuple hqx
        obtain ⟨its2, rv2, p2, _⟩ := I1.tuple hqy
        obtain ⟨o1, ho1, _⟩ := id p1
        obtain ⟨o2, ho2, _⟩ := id p2
        have la := Heap.lt_size ho1
        have lb := Heap.lt_size ho2
        have p1' : s1.heap.IsTuple x its.toArray := p1
        have p2' : s1.heap.IsTuple y its2.toArray := p2
        have at' : ∀ {h1 : Heap} {c : Addr} {l : Array Value}, (∀ c o, s1.heap.get? c = some o → h1.get? c = some o) → s1.heap.IsTuple c l → h1.IsTuple c l := fun k ⟨o, e, r⟩ => ⟨o, k _ _ e, r⟩
        refine RZ.call_zipT p1' p2' fun h1 g1 g2 g3 g4 g5 g6 g7 => PyProof.Rows.args_nil ?_
        refine Zl.call (A := X.A) (s := { s1 with heap := h1 }) (PySem.zip_sep2 (N := s1.heap.objs.size) (fp1 := [x]) (fp2 := [y]) (fun b hb => by rw [List.mem_singleton.mp hb]; exact la) (fun b hb => by rw [List.mem_singleton.mp hb]; exact lb))
          (PySem.Draws.tuple (A := X.A.in1.in1.in1) (I.ok.hd hc) s1.heap.objs.size x (Nat.ne_of_lt la) its.toArray) (PySem.Draws.tuple (A := X.A.in1.in1.in1) (I.ok.hd hc) (s1.heap.objs.size + 1) y (Nat.ne_of_lt (Nat.lt_succ_of_lt lb)) its2.toArray) ?_ ?_ ?_ g1 g2 ⟨_, _, g3⟩
          ⟨g4, at' g7 p1'⟩ ⟨g5, at' g7 p2'⟩ (fin rv rv2 g6 g7)
        · rw [List.size_toArray, List.size_toArray, ← rv.length, ← rv2.length]; exact hz
        · intro b hb
          show b < h1.objs.size
          rw [g6]
          rcases List.mem_cons.mp hb with e | hb
          · rw [e]; exact n05 _
          · rw [List.mem_singleton.mp hb]; exact Nat.lt_trans la (n05 _)
        · intro b hb
          show b < h1.objs.size
          rw [g6]
          rcases List.mem_cons.mp hb with e | hb
          · rw [e]; exact n15 _
          · rw [List.mem_singleton.mp hb]; exact Nat.lt_trans lb (n05 _)
end
/-! ### the reading -/
section
variable {K : PySem.W.Frag} {mg : Str → Option Value} {xf : Str → List Str} {W : WX} {F F' H H' : Hp} {ow : Ows} {σ : L2.St} {Q : VK} {fs : GEnv → R (List RV)} {k : Nat}
theorem adds_grow : ∀ {xs ys : List D} {vs us : List V} {L : List Addr} {F H H' : Hp}, Wd F ow H → Rfs K mg F xs vs → Rfs K mg F ys us → Adds H L (vs.zip us) H' → ∃ F', Grow F ow H F' ow H' ∧ Rfs K mg F' (zipD xs ys) (L.map V.ref)
  | [], ys, vs, us, L, F, H, H', w, r1, r2, A => by
    rw [show vs = [] from r1] at A
    cases A
    exact ⟨F, .refl, rfl⟩
  | x :: xs, [], _, us, L, F, H, H', w, ⟨v, r, e, _, _⟩, r2, A => by
    subst e
    rw [show us = [] from r2] at A
    cases A
    exact ⟨F, .refl, rfl⟩
  | x :: xs, y :: ys, _, _, L, F, H, H', w, ⟨v, r, e, h1, h2⟩, ⟨u, t, e', h3, h4⟩, A => by
    subst e e'
    cases A with
    | @cons _ _ a _ _ L l ha A =>
      obtain ⟨g, z⟩ := new_tup (ow := ow) w (Rfs.two h1 h3) ha
      obtain ⟨F', g', r'⟩ := adds_grow (g.wd w) (h2.mono g.sub) (h4.mono g.sub) A
      have nf : ∀ b, F' b ≠ none → F b ≠ none ∨ H b = none := fun b hb => by
        rcases g'.newF b hb with q | q
        · exact g.newF b q
        · refine .inr ?_
          cases e : H b with
          | none => rfl
          | some o => rw [g.hh b o e] at q; cases q
      have gg : Grow F ow H F' ow H' := ⟨g.sub.trans g'.sub, g.hh.trans g'.hh, fun _ _ q => q, nf, fun _ q => Or.inr q, fun w => g'.wd (g.wd w)⟩
      exact ⟨F', gg, .ref a, L.map V.ref, rfl, z.mono g'.sub, r'⟩
theorem r_lzip (h : tOf K mg xf W (fun G => (fs G).bind fun rvs G1 => match Dv.takes rvs G1 with
    | some (ds, G2) => lft (on2 lzipX ds) G2
    | none => .no) σ H Q) : tLz K (tOfA K mg xf W fs) σ H Q := by
  obtain ⟨F, ow, G, st, A, h⟩ := h
  refine run_A (pre := []) A mono_E h fun F1 ow1 H1 G1 rvs vs hl A1 h1 => ?_
  cases e : Dv.takes rvs G1 with
  | none => rw [e] at h1; exact h1.elim
  | some q =>
    obtain ⟨ds, G2⟩ := q
    rw [e] at h1
    obtain ⟨F2, ow2, A2, X2, r2⟩ := At.takes hl A1 e
    have h2 : Fin K mg xf W σ st (pE K mg σ st Q) F1 ow1 H1 (lft (on2 lzipX ds) G2) := h1
    cases e2 : on2 lzipX ds with
    | none => rw [e2] at h2; exact h2.elim
    | some res =>
      rw [e2] at h2
      obtain ⟨d, d', rfl, ez⟩ := on2_some e2
      obtain ⟨v, t, rfl, r3, r4⟩ := r2
      obtain ⟨u, t', rfl, r5, r6⟩ := r4
      have et : t' = [] := r6
      subst et
      have A3 : At K mg F2 ow2 G2 σ H1 st := A2.popsOf
      have go : ∀ {xs ys : List D} {vs us : List V} {a b : Addr}, v = .ref a → u = .ref b → zipX d d' = some (.tup (zipD xs ys)) → Rfs K mg F2 xs vs → Rfs K mg F2 ys us → ((SqL K H1 a vs ∧ SqL K H1 b us) ∨ (SqT K H1 a vs ∧ SqT K H1 b us)) →
          ∃ a b xs ys, [v, u] = [.ref a, .ref b] ∧ ((SqL K H1 a xs ∧ SqL K H1 b ys) ∨ (SqT K H1 a xs ∧ SqT K H1 b ys)) ∧ min xs.length ys.length ≤ sizeLine ∧ ∀ (L : List Addr) (H2 : Hp) (p : Addr), Adds H1 L (xs.zip ys) H2 → H2 p = none → Q (.ref p) (upd H2 p (.lst (L.map V.ref))) := by
        intro xs ys vs us a b ea eb hzx rx ry hk
        have ez' : (match zipX d d' with
          | some (.tup xs) => if lenOk xs then some (D.mls xs) else none
          | _ => none) = some res := ez
        rw [hzx] at ez'
        have ez2 : (if lenOk (zipD xs ys) = true then some (D.mls (zipD xs ys)) else none) = some res := ez'
        by_cases hlk : lenOk (zipD xs ys) = true
        · rw [if_pos hlk] at ez2
          cases ez2
          refine ⟨a, b, vs, us, by rw [ea, eb], hk, ?_, fun L H2 p AD hp => ?_⟩
          · have := of_decide_eq_true hlk
            rw [zip_len] at this
            rw [rx.len, ry.len]
            exact this
          · obtain ⟨F3, g, rs⟩ := adds_grow A3.wd rx ry AD
            have A4 := A3.grow g
            obtain ⟨g2, z⟩ := new_lst (o := .stk st.length) A4.wd rs hp
            exact h2 _ _ _ _ ((A4.grow g2).push (rv := .val (.mls (zipD xs ys))) z) ((X2.trans g.ext).trans g2.ext)
        · rw [if_neg hlk] at ez2; cases ez2
      have tupc : (match tupOf d, tupOf d' with
          | some xs, some ys => some (D.tup (zipD xs ys))
          | _, _ => none) = zipX d d' → ∃ a b xs ys, [v, u] = [.ref a, .ref b] ∧ ((SqL K H1 a xs ∧ SqL K H1 b ys) ∨ (SqT K H1 a xs ∧ SqT K H1 b ys)) ∧ min xs.length ys.length ≤ sizeLine ∧ ∀ (L : List Addr) (H2 : Hp) (p : Addr), Adds H1 L (xs.zip ys) H2 → H2 p = none → Q (.ref p) (upd H2 p (.lst (L.map V.ref))) := fun ez3 => by
        have ez' : (match zipX d d' with
          | some (.tup xs) => if lenOk xs then some (D.mls xs) else none
          | _ => none) = some res := ez
        cases q1 : tupOf d with
        | none => rw [q1] at ez3; rw [← ez3] at ez'; cases ez'
        | some xs =>
          cases q2 : tupOf d' with
          | none => rw [q1, q2] at ez3; rw [← ez3] at ez'; cases ez'
          | some ys =>
            rw [q1, q2] at ez3
            obtain ⟨a, vs, ea, g1, g2⟩ := tupOf_frz q1 r3
            obtain ⟨b, us, eb, g3, g4⟩ := tupOf_frz q2 r5
            exact go ea eb ez3.symm g2 g4 (.inr ⟨A3.wd.fh.sqT g1, A3.wd.fh.sqT g3⟩)
      have ex : zipX d d' = (match listOf d, listOf d' with
        | some xs, some ys => some (.tup (zipD xs ys))
        | _, _ => match tupOf d, tupOf d' with
          | some xs, some ys => some (.tup (zipD xs ys))
          | _, _ => none) := rfl
      cases q1 : listOf d with
      | none => rw [q1] at ex; exact tupc ex.symm
      | some xs =>
        cases q2 : listOf d' with
        | none => rw [q1, q2] at ex; exact tupc ex.symm
        | some ys =>
          rw [q1, q2] at ex
          obtain ⟨a, vs, ea, g1, g2⟩ := listOf_frz q1 r3
          obtain ⟨b, us, eb, g3, g4⟩ := listOf_frz q2 r5
          exact go ea eb ex g2 g4 (.inl ⟨SqL.of (A3.wd.fh _ _ g1), SqL.of (A3.wd.fh _ _ g3)⟩)
end
section
variable {X : Cx} {xf : Str → List Str} {W : WX} {C : Dv.Ctx} {sg : List (Str × Nat)} {fr : List Str} {a b : Expr} {xs : Exps} {p p2 pos pos2 : Pos}
theorem n_lzip (O : Cok X xf W C sg fr) (h : NA X xf W C [a, b] xs) (hf : fr.contains "list" = true := by rfl) (hg : Gl X "list" := by rfl) (hf2 : fr.contains "zip" = true := by rfl) (hg2 : Gl X "zip" := by rfl)
    (he : starEach [.Call (.Name "zip" p2) [a, b] [] pos2] X.env = (false, eval (.Call (.Name "zip" p2) [a, b] [] pos2) X.env) :: starEach [] X.env := by rfl)
    (hs : starEach [a, b] X.env = (false, eval a X.env) :: starEach [b] X.env := by rfl) (hpl : (backTo pos2 (starEach [b] X.env)).any (·.1) = false := by rfl) :
    NE X xf W C (.Call (.Name "list" p) [.Call (.Name "zip" p2) [a, b] [] pos2] [] pos) (.lzip xs) := pe_imp (pe_lzip hg (O.free _ hf) hg2 (O.free _ hf2) O.calm h he hs hpl) fun _ _ _ => r_lzip
end
end Dv
end
section
set_option Elab.async false
set_option linter.all false
set_option maxRecDepth 100000
set_option maxHeartbeats 2000000
/-! Dv21: the end. -/
namespace Dv
open PySem L2
theorem lookup_mem {f : Str} {np : Nat} : ∀ {l : List (Str × Nat)}, l.lookup f = some np → (f, np) ∈ l
  | [], h => by cases h
  | (g, m) :: l, h => by
    rw [List.lookup_cons] at h
    by_cases e : (f == g) = true
    · rw [e] at h
      have e2 : f = g := eq_of_beq e
      cases h
      rw [e2]
      exact List.mem_cons_self
    · have e3 : (f == g) = false := by simpa using e
      rw [e3] at h
      exact List.mem_cons_of_mem _ (lookup_mem h)
/-- what a def may let out, at any world -/
def CXw (P : Program) : CXT := fun outer H s E u s' => ∃ w, L2.CX P w outer H s E u s'
theorem cxw_none {P : Program} (H : Hp) (s : Shared) (e : Value) (s' : Shared) (h : CXw P [] H s (fun _ _ _ => False) e s') : False := by
  obtain ⟨w, a, B, H', cls, d, _, _, _, _, _, _, _, z⟩ := h
  exact z
theorem fnOk_cx {P : Program} {w : World} {K : PySem.W.Frag} {mg : Str → Option Value} {base : Heap} {CX CX' : CXT} {k : Nat} {f : Addr} {fd : FuncData} {ps : List Str} {sp : Sp} (F : FnOk P w K mg base CX k f fd ps sp) (h : ∀ outer H s E u s', CX outer H s E u s' → CX' outer H s E u s') : FnOk P w K mg base CX' k f fd ps sp :=
  ⟨F.len, fun A outer s H args us vs Q E hr he hb hv hs => codeAny_mono (F.run A outer s H args us vs Q E hr he hb hv hs) fun r s' q => by
    cases r with
    | error e => exact h _ _ _ _ _ _ q
    | ok fl => cases fl <;> exact q⟩
theorem calOk_ev {PR : Prog} {f : Str} {fd : Fd} {n : Nat} (h : PR.lookup f = some fd) : CalOk (evF PR (n + 1) f) fd.np := fun ds => by
  rw [lookup_evF h]
  exact calOk_run ds
end Dv
end
section
set_option Elab.async false
set_option linter.all false
set_option maxRecDepth 100000
set_option maxHeartbeats 2000000
/-! Dv22: x = zip(a, b); return all([.. for .. in x]). -/
namespace Dv
open PySem L2
/-- an object of ours as it stands -/
def rawO (a : Addr) (ob : Obj) : HO := .ext fun h => h.get? a = some ob
theorem rawO_ok {P : Program} {w : World} {H : Hp} {h : Heap} {a : Addr} {ob : Obj} (e : h.get? a = some ob) : ObjOk P w H h a (rawO a ob) := ⟨e, ⟨_, e⟩, fun h1 h2 q k => k _ q⟩
/-- the records of a new zip over a and b (t: tuples) -/
structure ZD (t : Bool) (a b z TI TO i1 i2 : Addr) (oz oTI oTO o1 o2 : Obj) : Prop where
  ap : ZipApart z TI TO i1 i2 a b
  ez : oz = { cls := .type "zip", dict := none, data := .fields #[.none, .bool false, .bool false, .ref TI, .ref TO], slots := #[] }
  eTI : oTI = { cls := .type "tuple", data := .seq #[.ref i1, .ref i2] }
  eTO : oTO = { cls := .type "tuple", data := .seq #[.none, .none] }
  h1 : ∀ h : Heap, h.get? i1 = some o1 → if t then h.IsTupleIter i1 a 0 else h.IsListIter i1 a 0
  h2 : ∀ h : Heap, h.get? i2 = some o2 → if t then h.IsTupleIter i2 b 0 else h.IsListIter i2 b 0
def SqK (K : PySem.W.Frag) (t : Bool) (H : Hp) (a : Addr) (xs : List V) : Prop := if t then SqT K H a xs else SqL K H a xs
def upd5 (H : Hp) (z TI TO i1 i2 : Addr) (oz oTI oTO o1 o2 : Obj) : Hp := upd (upd (upd (upd (upd H i1 (rawO i1 o1)) i2 (rawO i2 o2)) TI (rawO TI oTI)) TO (rawO TO oTO)) z (rawO z oz)
structure Fr5 (n : Nat) (H : Hp) (z TI TO i1 i2 : Addr) : Prop where
  fz : H z = none
  fTI : H TI = none
  fTO : H TO = none
  f1 : H i1 = none
  f2 : H i2 = none
  nz : n ≤ z
  nTI : n ≤ TI
  nTO : n ≤ TO
  n1 : n ≤ i1
  n2 : n ≤ i2
/-- x = zip(..) -/
def tSetZ (K : PySem.W.Frag) (n i : Nat) (ta : TA) : TS := fun En σ H => ta σ H fun vs H1 => ∃ t a b xs ys, vs = [.ref a, .ref b] ∧ SqK K t H1 a xs ∧ SqK K t H1 b ys ∧
  ∀ z TI TO i1 i2 oz oTI oTO o1 o2, ZD t a b z TI TO i1 i2 oz oTI oTO o1 o2 → Fr5 n H1 z TI TO i1 i2 → En.nx (σ.set i (some (.ref z))) (upd5 H1 z TI TO i1 i2 oz oTI oTO o1 o2)
def itK (K : PySem.W.Frag) (t : Bool) (a b : Addr) : It := if t then RZ.ItzT K a b else Itz K a b
/-- the walk of it -/
def iZn (K : PySem.W.Frag) (n i : Nat) : TI := fun σ H R => ∃ t a b xs ys z TI TO i1 i2 oz oTI oTO o1 o2 H0, σ[i]? = some (some (.ref z)) ∧ H = upd5 H0 z TI TO i1 i2 oz oTI oTO o1 o2 ∧ ZD t a b z TI TO i1 i2 oz oTI oTO o1 o2 ∧ Fr5 n H0 z TI TO i1 i2 ∧ SqK K t H0 a xs ∧ SqK K t H0 b ys ∧ R (itK K t a b) H0
section
variable {X : Cx} {pins : List (Addr × Obj)} {σ : L2.St} {H : Hp} {s : Shared}
theorem drop_one {a : Addr} {ob : Obj} (I : Inv X pins σ (upd H a (rawO a ob)) s) (hn : H a = none) (hs : X.s_0.heap.objs.size ≤ a) : Inv X pins σ H s ∧ FpOk X pins H a ∧ s.heap.get? a = some ob := by
  have e : upd H a (rawO a ob) a = some (.ext fun h => h.get? a = some ob) := upd_same
  have g : s.heap.get? a = some ob := (I.hok a _ e).1
  have I1 := ItX.inv_drop I e
  have f := ItX.inv_fp I e hs
  rw [ItX.dropH_upd hn] at I1 f
  exact ⟨I1, f, g⟩
theorem fp_to {H' : Hp} {a : Addr} (f : FpOk X pins H a) (h : H' a = none) : FpOk X pins H' a := ⟨h, f.2⟩
theorem ps_setZ {i : Nat} {v : Str} {a b : Expr} {ta : TA} {p p2 pos pos' : Pos} (hc : X.calm = true) (hN : X.N.Nodup) (hi : X.N[i]? = some v) (hx : Loc X.env.scope v) (hg : Gl X "zip") (hm : X.mg "zip" = none) (ha : PA X [a, b] ta)
    (hs : starEach [a, b] X.env = (false, eval a X.env) :: starEach [b] X.env) (hpl : (backTo pos (starEach [b] X.env)).any (·.1) = false)
    (hsw : swapsWith (.Call (.Name "zip" p) [a, b] [] pos) (some (.Name v p2)) pos'.line X.env = pure false) (hf : X.fn v = true ∨ X.env.scope.names.lookup v = some .local) :
    PS X (.Assign [.Name v p2] (.Call (.Name "zip" p) [a, b] [] pos) pos') (tSetZ X.K X.s_0.heap.objs.size i ta) := by
  refine ⟨fun pins s σ H D I h => ?_⟩
  refine wpAny_Assign_Name ?_ hsw
  refine PyProof.Rows.Call_ (ld_blt I hg hm PyProof.Rows.boot_zip (PyProof.Rows.callWith_type1 (thn (ha.run pos pins s σ H _ I h) fun us s1 ⟨vs, H1, I1, r1, q1⟩ => ?_) hs hpl))
  obtain ⟨t, x, y, xs, ys, ex, hqx, hqy, q1⟩ := q1
  subst ex
  cases r1 with
  | cons r rr =>
    cases rr with
    | cons r' rr =>
      cases rr
      cases r
      cases r'
      have fin : ∀ (h1 : Heap) (o1 o2 : Obj), IsZip h1 (s1.heap.objs.size + 4) (s1.heap.objs.size + 2) (s1.heap.objs.size + 3) .none → IsPair h1 (s1.heap.objs.size + 2) (.ref s1.heap.objs.size) (.ref (s1.heap.objs.size + 1)) → IsPair h1 (s1.heap.objs.size + 3) .none .none →
          h1.get? s1.heap.objs.size = some o1 → h1.get? (s1.heap.objs.size + 1) = some o2 → x < s1.heap.objs.size → y < s1.heap.objs.size → (∀ c o, s1.heap.get? c = some o → h1.get? c = some o) →
          (∀ h : Heap, h.get? s1.heap.objs.size = some o1 → if t then h.IsTupleIter s1.heap.objs.size x 0 else h.IsListIter s1.heap.objs.size x 0) → (∀ h : Heap, h.get? (s1.heap.objs.size + 1) = some o2 → if t then h.IsTupleIter (s1.heap.objs.size + 1) y 0 else h.IsListIter (s1.heap.objs.size + 1) y 0) →
          wpAny (model X.prog X.w) X.A (storeName X.env v (.ref (s1.heap.objs.size + 4))) (fun _ => SP X pins D .next) X.xe { s1 with heap := h1 } := by
        intro h1 o1 o2 g1 g2 g3 g4 g5 lx ly kp e1 e2
        have I2 : Inv X pins σ H1 { s1 with heap := h1 } := I1.kept (t' := s1.toks) kp
        have big : ∀ k, s1.heap.objs.size ≤ s1.heap.objs.size + k := fun k => Nat.le_add_right _ _
        have fr : ∀ k, H1 (s1.heap.objs.size + k) = none := fun k => I1.hok.fresh (big k)
        have fp : ∀ k (H' : Hp), H' (s1.heap.objs.size + k) = none → FpOk X pins H' (s1.heap.objs.size + k) := fun k H' h => I1.fpOk (big k) h
        have ne : ∀ {j k : Nat}, j ≠ k → s1.heap.objs.size + j ≠ s1.heap.objs.size + k := fun {j k} h => by omega
        have A1 := I2.take (h' := h1) (t' := s1.toks) (it := s1.heap.objs.size + 0) (fun b ob _ e => e) (fp 0 _ (fr 0)) (rawO_ok (ob := o1) g4)
        have A2 := A1.take (h' := h1) (t' := s1.toks) (it := s1.heap.objs.size + 1) (fun b ob _ e => e) (fp 1 _ (by rw [upd_ne (ne (by decide))]; exact fr 1)) (rawO_ok (ob := o2) g5)
        have A3 := A2.take (h' := h1) (t' := s1.toks) (it := s1.heap.objs.size + 2) (fun b ob _ e => e) (fp 2 _ (by rw [upd_ne (ne (by decide)), upd_ne (ne (by decide))]; exact fr 2)) (rawO_ok g2)
        have A4 := A3.take (h' := h1) (t' := s1.toks) (it := s1.heap.objs.size + 3) (fun b ob _ e => e) (fp 3 _ (by rw [upd_ne (ne (by decide)), upd_ne (ne (by decide)), upd_ne (ne (by decide))]; exact fr 3)) (rawO_ok g3)
        have A5 := A4.take (h' := h1) (t' := s1.toks) (it := s1.heap.objs.size + 4) (fun b ob _ e => e) (fp 4 _ (by rw [upd_ne (ne (by decide)), upd_ne (ne (by decide)), upd_ne (ne (by decide)), upd_ne (ne (by decide))]; exact fr 4)) (rawO_ok g1)
        refine store_ok A5 hN hi hx (show RelV (.ref (s1.heap.objs.size + 4)) (.ref (s1.heap.objs.size + 4)) from rfl) (fun s2 I6 => ⟨_, _, I6, ?_⟩) hf
        exact q1 (s1.heap.objs.size + 4) (s1.heap.objs.size + 2) (s1.heap.objs.size + 3) s1.heap.objs.size (s1.heap.objs.size + 1) _ _ _ o1 o2 ⟨PySem.W.ktu_apart s1.heap.objs.size x y lx ly, rfl, rfl, rfl, e1, e2⟩
          ⟨fr 4, fr 2, fr 3, fr 0, fr 1, Nat.le_trans I1.sz (big 4), Nat.le_trans I1.sz (big 2), Nat.le_trans I1.sz (big 3), Nat.le_trans I1.sz (big 0), Nat.le_trans I1.sz (big 1)⟩
      cases t with
      | false =>
        obtain ⟨its, rv, p1, _⟩ := I1.list (show SqL X.K H1 x xs from hqx)
        obtain ⟨its2, rv2, p2, _⟩ := I1.list (show SqL X.K H1 y ys from hqy)
        refine call_zip_2 p1.isList p2.isList fun h1 g1 g2 g3 g4 g5 g6 g7 => ?_
        obtain ⟨o1, a1, a2, a3⟩ := g4
        obtain ⟨o2, b1, b2, b3⟩ := g5
        exact fin h1 o1 o2 g1 g2 g3 a1 b1 p1.lt p2.lt g7 (fun h e => ⟨o1, e, a2, a3⟩) (fun h e => ⟨o2, e, b2, b3⟩)
      | true =>
        obtain ⟨its, rv, p1, _⟩ := I1.tuple (show SqT X.K H1 x xs from hqx)
        obtain ⟨its2, rv2, p2, _⟩ := I1.tuple (show SqT X.K H1 y ys from hqy)
        obtain ⟨q1', hq1, _⟩ := id p1
        obtain ⟨q2', hq2, _⟩ := id p2
        refine RZ.call_zipT (show s1.heap.IsTuple x its.toArray from p1) (show s1.heap.IsTuple y its2.toArray from p2) fun h1 g1 g2 g3 g4 g5 g6 g7 => ?_
        obtain ⟨o1, a1, a2, a3⟩ := g4
        obtain ⟨o2, b1, b2, b3⟩ := g5
        exact fin h1 o1 o2 g1 g2 g3 a1 b1 (Heap.lt_size hq1) (Heap.lt_size hq2) g7 (fun h e => ⟨o1, e, a2, a3⟩) (fun h e => ⟨o2, e, b2, b3⟩)
theorem pi_zn {i : Nat} {v : Str} {p tpos : Pos} {elts : List Expr} {kk : Nat} (hN : X.N[i]? = some v) (hv : Vis X.env.scope v) (hd : (v == ("__debug__" : Str)) = false) (hcd : (v == ("__classdict__" : Str)) = false) : PI X (.Tuple elts kk tpos) (.Name v p) (iZn X.K X.s_0.heap.objs.size i) := by
  refine ⟨fun pins s σ H R I h => ?_⟩
  obtain ⟨t, a, b, xs, ys, z, TI, TO, i1, i2, oz, oTI, oTO, o1, o2, H0, hs, eH0, zd, f5, hqx, hqy, q⟩ := h
  refine thn ((pe_var (pos := p) (i := i) hN hv hd hcd).run pins s σ H (fun v H1 => v = .ref z ∧ H1 = H) I ⟨.ref z, hs, rfl, rfl⟩) fun u s1 ⟨w, H1, I1, r1, ev, eH⟩ => ?_
  subst ev
  rw [eH, eH0] at I1
  cases r1
  have D := zd.ap
  obtain ⟨J1, k1, g1⟩ := drop_one I1 (by rw [upd_ne D.TOz.symm, upd_ne D.TIz.symm, upd_ne D.i2z.symm, upd_ne D.i1z.symm]; exact f5.fz) f5.nz
  obtain ⟨J2, k2, g2⟩ := drop_one J1 (by rw [upd_ne D.TITO.symm, upd_ne D.TOi2, upd_ne D.TOi1]; exact f5.fTO) f5.nTO
  obtain ⟨J3, k3, g3⟩ := drop_one J2 (by rw [upd_ne D.TIi2, upd_ne D.TIi1]; exact f5.fTI) f5.nTI
  obtain ⟨J4, k4, g4⟩ := drop_one J3 (by rw [upd_ne D.i12.symm]; exact f5.f2) f5.n2
  obtain ⟨J5, k5, g5⟩ := drop_one J4 f5.f1 f5.n1
  have hz : IsZip s1.heap z TI TO .none := by rw [zd.ez] at g1; exact g1
  have hTI : IsPair s1.heap TI (.ref i1) (.ref i2) := by rw [zd.eTI] at g3; exact g3
  have hTO : IsPair s1.heap TO .none .none := by rw [zd.eTO] at g2; exact g2
  have hfp : ∀ c ∈ [z, TI, TO, i1, i2], FpOk X pins H0 c := fun c hc => by
    have e' : c = z ∨ c = TI ∨ c = TO ∨ c = i1 ∨ c = i2 := by simpa using hc
    rcases e' with e | e | e | e | e
    · rw [e]; exact fp_to k1 f5.fz
    · rw [e]; exact fp_to k3 f5.fTI
    · rw [e]; exact fp_to k2 f5.fTO
    · rw [e]; exact k5
    · rw [e]; exact fp_to k4 f5.f2
  refine wpAny_pyIter_zip hz ?_
  have c1 := zd.h1 s1.heap g5
  have c2 := zd.h2 s1.heap g4
  cases t with
  | false => exact ⟨z, [z, TI, TO, i1, i2], _, _, H0, rfl, J5, turn_zip D, ⟨hz, hTI, ⟨_, _, hTO⟩, c1, c2⟩, hfp, q⟩
  | true => exact ⟨z, [z, TI, TO, i1, i2], _, _, H0, rfl, J5, RZ.turn_zipT D, ⟨hz, hTI, ⟨_, _, hTO⟩, c1, c2⟩, hfp, q⟩
end
end Dv
end
section
set_option Elab.async false
set_option linter.all false
set_option maxRecDepth 100000
set_option maxHeartbeats 2000000
/-! Dv23: the node of x = zip(a, b); return all([.. for .. in x]). -/
namespace Dv
open PySem L2
section
variable {K : PySem.W.Frag} {mg : Str → Option Value} {xf : Str → List Str} {W : WX} {p : Nat → Bool} {F F' F1 F2 H H' H1 H2 : Hp} {ow ow' ow1 ow2 : Ows} {G G1 : GEnv} {σ σ' σ1 : L2.St} {Q : VK} {En : Ends} {fs : GEnv → R (List RV)} {fe : GEnv → R RV}
theorem s_last {f : GEnv → R Flo} (h : tOfS K mg xf W p (fun G => (f G).bind fun r G1 => match r with
    | .nx => .ok .nx G1
    | r => .ok r G1) En σ H) : tOfS K mg xf W p f En σ H := by
  obtain ⟨F, ow, G, A, h⟩ := h
  refine ⟨F, ow, G, A, ?_⟩
  dsimp only at h
  cases e : f G with
  | no => rw [e] at h; exact h
  | ex c ds G1 => rw [e] at h; exact h
  | ok r G1 =>
    rw [e] at h
    cases r <;> exact h
theorem s_zall {i n : Nat} {own : List Nat} {tg : Tgt} (hsl : ∀ j ∈ tg.slots, j ∈ own) (h : tOfS K mg xf W p (fun G => if p i then .no else (fs G).bind fun rvs G1 => match Dv.takes rvs G1 with
    | some (ds, G2) => (match on2 zipX ds with
      | some (.tup xs) => if i < G2.length then (compL (compB own tg none fe) xs (wipeG own (G2.set i none))).bind fun ys G3 => if lenOk ys then (match allD (.mls ys) with
        | some d => .ok (.rt d) (restG own (G2.set i none) G3)
        | none => .no) else .no else .no
      | _ => .no)
    | none => .no) En σ H) : tSeq (tSetZ K n i (tOfA K mg xf W fs)) (tRet (tCB (rBi K .all) (tCons (tLc (iZn K n i) (gOf K tg) tYes (tOf K mg xf W0 fe) own) tNil))) En σ H := by
  obtain ⟨F, ow, G, A, h⟩ := h
  dsimp only at h
  by_cases hp : p i = true
  · rw [if_pos hp] at h; exact h.elim
  · rw [if_neg hp] at h
    refine run_AS A h fun F1 ow1 H1 G1 rvs vs hl A1 h1 => ?_
    cases e : Dv.takes rvs G1 with
    | none => rw [e] at h1; exact h1.elim
    | some q =>
      obtain ⟨ds, G2⟩ := q
      rw [e] at h1
      obtain ⟨F2, ow2, A2, X2, r2⟩ := At.takes hl A1 e
      have h2 : FinS K mg xf W p En σ F1 ow1 H1 (match on2 zipX ds with
        | some (.tup xs) => if i < G2.length then (compL (compB own tg none fe) xs (wipeG own (G2.set i none))).bind fun ys G3 => if lenOk ys then (match allD (.mls ys) with
          | some d => .ok (.rt d) (restG own (G2.set i none) G3)
          | none => .no) else .no else .no
        | _ => .no) := h1
      cases e2 : on2 zipX ds with
      | none => rw [e2] at h2; exact h2.elim
      | some zz =>
        obtain ⟨d, d', rfl, ez⟩ := on2_some e2
        obtain ⟨v, t, rfl, r3, r4⟩ := r2
        obtain ⟨u, t', rfl, r5, r6⟩ := r4
        have et : t' = [] := r6
        subst et
        have A3 : At K mg F2 ow2 G2 σ H1 [] := A2.popsOf
        -- the second statement, of either kind
        have go : ∀ (t : Bool) {xs ys : List D} {a b : Addr} {vs us : List V}, v = .ref a → u = .ref b → zz = .tup (zipD xs ys) → SqK K t F2 a vs → SqK K t F2 b us → JW K mg (itK K t a b) F2 (zipD xs ys) →
            ∃ t a b xs ys, [v, u] = [.ref a, .ref b] ∧ SqK K t H1 a xs ∧ SqK K t H1 b ys ∧
              ∀ z TI TO i1 i2 oz oTI oTO o1 o2, ZD t a b z TI TO i1 i2 oz oTI oTO o1 o2 → Fr5 n H1 z TI TO i1 i2 →
                tRet (tCB (rBi K .all) (tCons (tLc (iZn K n i) (gOf K tg) tYes (tOf K mg xf W0 fe) own) tNil)) En (σ.set i (some (.ref z))) (upd5 H1 z TI TO i1 i2 oz oTI oTO o1 o2) := by
          intro t xs ys a b vs us ea eb ezz q1 q2 jw
          have up : ∀ {c : Addr} {l : List V}, SqK K t F2 c l → SqK K t H1 c l := fun {c l} q => by
            cases t with
            | false => exact A3.wd.fh.sqL q
            | true => exact A3.wd.fh.sqT q
          refine ⟨t, a, b, vs, us, by rw [ea, eb], up q1, up q2, fun z TI TO i1 i2 oz oTI oTO o1 o2 zd f5 => ?_⟩
          rw [e2, ezz] at h2
          have h3 : FinS K mg xf W p En σ F1 ow1 H1 (if i < G2.length then (compL (compB own tg none fe) (zipD xs ys) (wipeG own (G2.set i none))).bind fun ys G3 => if lenOk ys then (match allD (.mls ys) with
            | some d => .ok (.rt d) (restG own (G2.set i none) G3)
            | none => .no) else .no else .no) := h2
          by_cases hi : i < G2.length
          · rw [if_pos hi] at h3
            have A4 : At K mg F2 ow2 (G2.set i none) (σ.set i (some (.ref z))) H1 [] := A3.forget (fun _ hm => by cases hm)
            have hpr : PrEq p σ (σ.set i (some (.ref z))) := PrEq.set (by simpa using hp)
            refine ⟨t, a, b, vs, us, z, TI, TO, i1, i2, oz, oTI, oTO, o1, o2, H1, ?_, rfl, zd, f5, up q1, up q2, ?_⟩
            · rw [List.getElem?_set_self]
              rw [← A3.ln]
              exact hi
            · refine comp_go (Q := fun w H3 => rBi K .all [w] H3 En.rt) (F1 := F2) (ow1 := ow2) (G1 := G2.set i none) (st := []) (W := W) (xf := xf) (mg := mg) (ft := none) (fe := fe) hsl A4 jw ?_
              cases ec : compL (compB own tg none fe) (zipD xs ys) (wipeG own (G2.set i none)) with
              | no => rw [ec] at h3; exact h3
              | ex c es G3 =>
                rw [ec] at h3
                exact fun cls dd F' ow' H' xv A' X' => h3 cls dd _ F' ow' H' xv A' hpr (X2.trans X')
              | ok ys' G3 =>
                rw [ec] at h3
                have h4 : FinS K mg xf W p En σ F1 ow1 H1 (if lenOk ys' then (match allD (.mls ys') with
                  | some d => .ok (.rt d) (restG own (G2.set i none) G3)
                  | none => .no) else .no) := h3
                show Fin K mg xf W (σ.set i (some (.ref z))) [] (pE K mg (σ.set i (some (.ref z))) [] fun w H3 => rBi K .all [w] H3 En.rt) F2 ow2 H1 (if lenOk ys' then R.ok (RV.val (.mls ys')) (restG own (G2.set i none) G3) else .no)
                by_cases hk : lenOk ys' = true
                · rw [if_pos hk] at h4 ⊢
                  intro w F' ow' H' A5 X5
                  cases ed : allD (.mls ys') with
                  | none => rw [ed] at h4; exact h4.elim
                  | some d =>
                    rw [ed] at h4
                    have hb : biD .all [.mls ys'] = some d := ed
                    refine bi_ok (b := .all) A5.wd (ds := [.mls ys']) (vs := [w]) ⟨w, [], _, rfl, A5.stk.1, rfl⟩ hb fun u ru => ?_
                    exact h4 u _ F' ow' H' (A5.pop.pushF ru) hpr (X2.trans X5)
                · rw [if_neg hk] at h4; exact h4.elim
          · rw [if_neg hi] at h3; exact h3.elim
        have ez' : (match listOf d, listOf d' with
          | some xs, some ys => some (.tup (zipD xs ys))
          | _, _ => match tupOf d, tupOf d' with
            | some xs, some ys => some (.tup (zipD xs ys))
            | _, _ => none) = some zz := ez
        have tupc : (match tupOf d, tupOf d' with
            | some xs, some ys => some (D.tup (zipD xs ys))
            | _, _ => none) = some zz → ∃ t a b xs ys, [v, u] = [.ref a, .ref b] ∧ SqK K t H1 a xs ∧ SqK K t H1 b ys ∧
              ∀ z TI TO i1 i2 oz oTI oTO o1 o2, ZD t a b z TI TO i1 i2 oz oTI oTO o1 o2 → Fr5 n H1 z TI TO i1 i2 →
                tRet (tCB (rBi K .all) (tCons (tLc (iZn K n i) (gOf K tg) tYes (tOf K mg xf W0 fe) own) tNil)) En (σ.set i (some (.ref z))) (upd5 H1 z TI TO i1 i2 oz oTI oTO o1 o2) := fun ez => by
          cases q1 : tupOf d with
          | none => rw [q1] at ez; cases ez
          | some xs =>
            cases q2 : tupOf d' with
            | none => rw [q1, q2] at ez; cases ez
            | some ys =>
              rw [q1, q2] at ez
              obtain ⟨a, vs, ea, g1, g2⟩ := tupOf_frz q1 r3
              obtain ⟨b, us, eb, g3, g4⟩ := tupOf_frz q2 r5
              exact go true ea eb (Option.some.inj ez).symm g1 g3 (jw_zipT g1 g2 g3 g4)
        cases q1 : listOf d with
        | none => rw [q1] at ez'; exact tupc ez'
        | some xs =>
          cases q2 : listOf d' with
          | none => rw [q1, q2] at ez'; exact tupc ez'
          | some ys =>
            rw [q1, q2] at ez'
            obtain ⟨a, vs, ea, g1, g2⟩ := listOf_frz q1 r3
            obtain ⟨b, us, eb, g3, g4⟩ := listOf_frz q2 r5
            exact go false ea eb (Option.some.inj ez').symm (SqL.of g1) (SqL.of g3) (jw_zip g1 g2 g3 g4)
end
section
variable {X : Cx} {xf : Str → List Str} {W : WX} {C : Dv.Ctx} {sg : List (Str × Nat)} {fr : List Str} {a b el : Expr} {elts : List Expr} {kk : Nat} {xs : Exps} {x : Exp} {g : Tgt} {scope : Scope} {own : List (Str × Nat)} {p p2 p3 p4 tpos pos pos2 pos3 pos4 pos' : Pos} {i : Nat} {v : Str}
theorem n_zall (O : Cok X xf W C sg fr) (h : NA X xf W C [a, b] xs) (hg : ∀ (s : Shared) (H : Hp) (D : Addr) (cl : List (Str × Addr)) (fp : List Addr), Cok (X.blk s H scope (compEnvC scope cl D X.env) fp) xf W0 C sg fr → NG (X.blk s H scope (compEnvC scope cl D X.env) fp) (.Tuple elts kk tpos) g)
    (he : ∀ (s : Shared) (H : Hp) (D : Addr) (cl : List (Str × Addr)) (fp : List Addr), Cok (X.blk s H scope (compEnvC scope cl D X.env) fp) xf W0 C sg fr → NE (X.blk s H scope (compEnvC scope cl D X.env) fp) xf W0 C el x)
    (hi : X.N[i]? = some v := by rfl) (hx : Loc X.env.scope v := by first | exact Or.inl rfl | exact Or.inr rfl) (hv : Vis X.env.scope v := by first | exact Or.inl rfl | exact Or.inr (Or.inl rfl) | exact Or.inr (Or.inr rfl)) (hf : X.fn v = true ∨ X.env.scope.names.lookup v = some .local := by first | exact Or.inl rfl | exact Or.inr rfl)
    (hd : (v == ("__debug__" : Str)) = false := by decide) (hcd : (v == ("__classdict__" : Str)) = false := by decide) (hf1 : fr.contains "zip" = true := by rfl) (hg1 : Gl X "zip" := by rfl) (hf2 : fr.contains "all" = true := by rfl) (hg2 : Gl X "all" := by rfl)
    (hs : starEach [a, b] X.env = (false, eval a X.env) :: starEach [b] X.env := by rfl) (hpl : (backTo pos (starEach [b] X.env)).any (·.1) = false := by rfl) (hsw : swapsWith (.Call (.Name "zip" p) [a, b] [] pos) (some (.Name v p2)) pos'.line X.env = pure false := by rfl)
    (hs2 : starEach [.ListComp el [⟨.Tuple elts kk tpos, .Name v p4, [], 0⟩] scope pos2] X.env = (false, eval (.ListComp el [⟨.Tuple elts kk tpos, .Name v p4, [], 0⟩] scope pos2) X.env) :: starEach [] X.env := by rfl)
    (ok : blkC X.N X.env.scope scope own = true := by kernel_rfl) (hsl : slOk g own = true := by rfl) (hfs : ∀ x, foldedSetIterable (.Name v p4) X.env x = pure x := by intro _; rfl) :
    NB X xf W C [.Assign [.Name v p2] (.Call (.Name "zip" p) [a, b] [] pos) pos', .Return (some (.Call (.Name "all" p3) [.ListComp el [⟨.Tuple elts kk tpos, .Name v p4, [], 0⟩] scope pos2] [] pos3)) pos4]
      (.cons (.zall i xs (own.map (·.2)) g x) .nil) :=
  pss_imp (pss_cons (ps_setZ O.calm O.nd hi hx hg1 (O.free _ hf1) h hs hpl hsw hf) (pss_one (ps_ret (pe_callB (x := "all") (id := "all") (cr_bi O.calm .all) hg2 (O.free _ hf2) (by rfl)
    (pa_cons (pe_lc (wi := iZn X.K X.s_0.heap.objs.size i) (g := gOf X.K g) (tt := tYes) (te := tOf X.K X.mg xf W0 (evE C x)) O.calm O.nd (pi_zn hi hv hd hcd) (blkOk_by ok) (fun s H D cl fp => hg s H D cl fp O.blk) (fun _ _ _ _ _ => pts_nil) (fun s H D cl fp => he s H D cl fp O.blk) hfs) pa_nil hs2)
    (by decide) (by decide) hs2 rfl)))) fun _ _ _ q => s_zall (slOk_ok hsl) (s_last q)
end
end Dv
end
section
set_option Elab.async false
set_option linter.all false
set_option maxRecDepth 100000
set_option maxHeartbeats 1000000
/-! Dv26: a dict keyed by tuples compared with an empty one. -/
namespace PySem
open Sem (wp)
theorem same_empty {prog : Program} {w : World} {A : Around} {E : Value → Shared → Prop} {s : Shared} {nm : String} {a b : Addr} {oa ob : Obj} {es es' : Array DictEntry} {ep ep' : Nat} {Q : Bool → Shared → Prop} (ha : (a == sysModules) = false) (hb : (b == sysModules) = false)
    (hoa : s.heap.get? a = some oa) (hda : oa.data = .dict es ep) (hob : s.heap.get? b = some ob) (hdb : ob.data = .dict es' ep') (h0 : es'.size = 0) (h : Q (es.size == 0) s) : wpAny (model prog w) A (Builtin.Dict.samePairs nm a b) Q E s := by
  unfold Builtin.Dict.samePairs Builtin.Dict.showsAll
  rw [if_neg (show ¬ (a == sysModules) = true by rw [ha]; exact Bool.false_ne_true), if_neg (show ¬ (b == sysModules) = true by rw [hb]; exact Bool.false_ne_true)]
  refine wpAny_bind (wpAny_pure (wpAny_bind (wpAny_pure ?_)))
  refine wpAny_bind (wpAny_dictEntries hoa hda ?_)
  dsimp only
  refine wpAny_bind (wpAny_dictEntries hob hdb ?_)
  by_cases hsz : es.size = es'.size
  case neg =>
    rw [if_pos (by simpa using hsz)]
    have hbf : (es.size == 0) = false := by rw [h0] at hsz; simpa using hsz
    rw [hbf] at h
    exact wpAny_bind (wpAny_rule (wpAny_pure h))
  case pos =>
    have h1 : es.size = 0 := by rw [hsz, h0]
    have h' : Q true s := by simpa [h1] using h
    rw [if_neg (by rw [hsz]; simp)]
    refine wpAny_bind (wpAny_dictEpoch hoa hda ?_)
    rw [h1]
    simp
    first | exact wpAny_pure h' | exact wpAny_bind (wpAny_pure h') | exact h'
theorem eq_empty {prog : Program} {w : World} {A : Around} {E : Value → Shared → Prop} {s : Shared} {a b : Addr} {oa ob : Obj} {es es' : Array DictEntry} {ep ep' : Nat} {Q : Value → Shared → Prop} (ha : (a == sysModules) = false) (hb : (b == sysModules) = false)
    (hoa : s.heap.get? a = some oa) (hda : oa.data = .dict es ep) (hob : s.heap.get? b = some ob) (hdb : ob.data = .dict es' ep') (h0 : es'.size = 0) (ta : s.TypeIs (.ref a) "dict") (tb : s.TypeIs (.ref b) "dict") (hu : A.units < cLine)
    (h : Q (.bool (es.size == 0)) s) : wpAny (model prog w) A (compareOp .Eq (.ref a) (.ref b)) Q E s := by
  refine wpAny_richCompare_same_room (op := .Eq) ta tb PySem.F.slot_dict_eq (wpAny_call_entry PySem.F.slot_dict_eq ta PySem.F.entry_dict_eq ?_ (PySem.F.args_dict_eq_2 _ _)) hu
  show wpAny _ _ (Builtin.Dict.dictSlotArgs "__eq__" ⟨[.ref a, .ref b], []⟩ >>= _) _ _ s
  refine wpAny_bind ?_
  unfold Builtin.Dict.dictSlotArgs
  refine wpAny_bind (wpAny_notOrdered_dict ta ?_)
  show wpAny _ _ (pure (Value.ref a, Value.ref b)) _ _ s
  refine wpAny_pure ?_
  refine wpAny_bind (wpAny_isInstance (T := "dict") tb PySem.F.sub_dict_dict ?_)
  simp only [Bool.not_true, Bool.false_eq_true, if_false]
  refine wpAny_bind (wpAny_pure (wpAny_bind (wpAny_pure ?_)))
  refine wpAny_bind (same_empty ha hb hoa hda hob hdb h0 ?_)
  refine wpAny_pure ⟨_, rfl, ?_, ?_⟩
  · exact fun x => nomatch x
  · simpa using h
end PySem
end
section
set_option Elab.async false
set_option linter.all false
set_option maxRecDepth 100000
set_option maxHeartbeats 1000000
/-! Dv27: dicts keyed by tuples of ints: rules over raw entries. -/
namespace Dv
open PySem PySem.Spec PyProof.Rows L2
theorem hash_keyI {P : Program} {w : World} (k : List Int) : (tupleKind (mixKind P w)).hash (keyI k) = hashI k := by
  show reduceHash (Builtin.Tuple.tupleHashOf ((keyI k).map (keyH w))) = _
  unfold keyI hashI
  rw [List.map_map]
  rfl
theorem kV_keyI (k : List Int) : (keyI k).map kV = k.map V.int := by
  unfold keyI
  rw [List.map_map]
  rfl
theorem keyI_inj {a b : List Int} (h : keyI a = keyI b) : a = b := (List.map_inj_right (fun _ _ e => Sum.inl.inj e)).mp h
def liftY (ys : List (List Int × Addr × Value)) : List (List Key × Addr × Value) := ys.map fun y => (keyI y.1, y.2)
abbrev RY : List (List Int × Addr × V) → List (List Int × Addr × Value) → Prop := Paired fun p q => p.1 = q.1 ∧ p.2.1 = q.2.1 ∧ RelV p.2.2 q.2.2
theorem liftY_ent {P : Program} {w : World} (ys : List (List Int × Addr × Value)) : (liftY ys).map (entryOfKey (tupleKind (mixKind P w))) = ys.map entI := by
  unfold liftY
  rw [List.map_map]
  apply List.map_congr_left
  intro y _
  show DictEntry.mk ((tupleKind (mixKind P w)).hash (keyI y.1)) _ _ = DictEntry.mk (hashI y.1) _ _
  rw [hash_keyI]
theorem liftY_keys (ys : List (List Int × Addr × Value)) : (liftY ys).map (·.1) = (ys.map (·.1)).map keyI := by
  unfold liftY
  rw [List.map_map, List.map_map]
  rfl
theorem liftY_nodup {ys : List (List Int × Addr × Value)} : ((liftY ys).map (·.1)).Nodup ↔ (ys.map (·.1)).Nodup := by
  rw [liftY_keys]
  constructor
  · intro h
    exact List.Pairwise.of_map keyI (fun a b ne e => ne (by rw [e])) h
  · intro h
    refine List.Pairwise.map _ (fun a b ne e => ne (keyI_inj e)) h
theorem RY.keys {xs : List (List Int × Addr × V)} {ys : List (List Int × Addr × Value)} (r : RY xs ys) : xs.map (·.1) = ys.map (·.1) := by
  induction r with
  | nil => rfl
  | cons h t ih => rw [List.map_cons, List.map_cons, ih, h.1]
section
variable {X : Cx} {pins : List (Addr × Obj)} {σ : L2.St} {H : Hp} {s : Shared}
/-- a tuple of ints is a key -/
theorem is_key {k : List Int} {b : Addr} (I : Inv X pins σ H s) (h : SqT X.K H b (k.map V.int)) : (tupleKind (mixKind X.prog X.w)).is s.heap (keyI k) b := by
  obtain ⟨its, rv, ⟨o, e1, e2, n, e3⟩, _⟩ := I.tuple h
  refine ⟨o, its.toArray, n, e1, e2, e3, ?_⟩
  have q : ItemsAre (mixKind X.prog X.w) (keyI k) its := items_are (by rw [kV_keyI]; exact rv)
  simpa using q
def KeysIn (K : PySem.W.Frag) (H : Hp) (xs : List (List Int × Addr × V)) : Prop := ∀ x ∈ xs, SqT K H x.2.1 (x.1.map V.int)
theorem RY.isAll {xs : List (List Int × Addr × V)} {ys : List (List Int × Addr × Value)} (I : Inv X pins σ H s) (r : RY xs ys) (hk : KeysIn X.K H xs) : ∀ y ∈ liftY ys, (tupleKind (mixKind X.prog X.w)).is s.heap y.1 y.2.1 := by
  induction r with
  | nil => intro y hy; cases hy
  | @cons p q ps qs h t ih =>
    intro y hy
    rcases List.mem_cons.mp (show y ∈ (keyI q.1, q.2) :: liftY qs from hy) with e | hy
    · subst e
      have := is_key I (hk p List.mem_cons_self)
      rw [h.1, h.2.1] at this
      exact this
    · exact ih (fun x hx => hk x (List.mem_cons_of_mem _ hx)) y hy
theorem raw_at {a : Addr} {xs : List (List Int × Addr × V)} (I : Inv X pins σ H s) (e : H a = some (rawD a xs)) : (a == sysModules) = false ∧ xs.length ≤ sizeLine ∧ (xs.map (·.1)).Nodup ∧
    ∃ ys, RY xs ys ∧ ∃ o es ep, s.heap.get? a = some o ∧ o.ExactDict ∧ o.data = .dict es ep ∧ es.toList = ys.map entI := (show ObjOk X.prog X.w H s.heap a (rawD a xs) from I.hok a _ e).1
theorem raw_H {a : Addr} {xs : List (List Int × Addr × V)} (I : Inv X pins σ H s) (e : H a = some (rawD a xs)) (hk : KeysIn X.K H xs) : (a == sysModules) = false ∧ xs.length ≤ sizeLine ∧ (xs.map (·.1)).Nodup ∧
    ∃ ys, RY xs ys ∧ s.heap.DictOfH (tupleKind (mixKind X.prog X.w)) a (liftY ys) := by
  obtain ⟨h1, h2, h3, ys, r, o, es, ep, g1, g2, g3, g4⟩ := raw_at I e
  exact ⟨h1, h2, h3, ys, r, o, es, ep, g1, g2, g3, by rw [liftY_ent]; exact g4, RY.isAll I r hk, liftY_nodup.mpr (by rw [← RY.keys r]; exact h3)⟩
theorem raw_ok {P : Program} {w : World} {H' : Hp} {h' : Heap} {a : Addr} {xs : List (List Int × Addr × V)} {ys : List (List Int × Addr × Value)} {kd : HeapKind P w (List Key)} (h1 : (a == sysModules) = false) (h2 : xs.length ≤ sizeLine) (r : RY xs ys) (d : h'.DictOfH (tupleKind (mixKind P w)) a (liftY ys)) : ObjOk P w H' h' a (rawD a xs) := by
  obtain ⟨o, es, ep, g1, g2, g3, g4, _, g6⟩ := d
  rw [liftY_ent] at g4
  refine ⟨⟨h1, h2, by rw [RY.keys r]; exact liftY_nodup.mp g6, ys, r, o, es, ep, g1, g2, g3, g4⟩, ⟨o, g1⟩, ?_⟩
  rintro k1 k2 ⟨q1, q2, q3, zs, q4, o', es', ep', q5, q6⟩ hk
  exact ⟨q1, q2, q3, zs, q4, o', es', ep', hk _ q5, q6⟩
end
/-! ### what is put in -/
def putB {α : Type} (acc : List (List Int × Addr × α)) (k : List Int) (b : Addr) (v : α) : List (List Int × Addr × α) :=
  if acc.any fun p => decide (p.1 = k) then acc.map fun p => if p.1 = k then (p.1, p.2.1, v) else p else acc ++ [(k, b, v)]
def mergeB {α : Type} (acc more : List (List Int × Addr × α)) : List (List Int × Addr × α) := more.foldl (fun a p => putB a p.1 p.2.1 p.2.2) acc
theorem Paired.any2 {α β : Type} {R : α → β → Prop} {f : α → Bool} {g : β → Bool} {xs : List α} {ys : List β} (r : Paired R xs ys) (h : ∀ a b, R a b → f a = g b) : xs.any f = ys.any g := by
  induction r with
  | nil => rfl
  | cons h1 _ ih => rw [List.any_cons, List.any_cons, h _ _ h1, ih]
theorem Paired.map2 {α β γ δ : Type} {R : α → β → Prop} {S : γ → δ → Prop} {f : α → γ} {g : β → δ} {xs : List α} {ys : List β} (r : Paired R xs ys) (h : ∀ a b, R a b → S (f a) (g b)) : Paired S (xs.map f) (ys.map g) := by
  induction r with
  | nil => exact .nil
  | cons h1 _ ih => exact .cons (h _ _ h1) ih
theorem Paired.app {α β : Type} {R : α → β → Prop} {xs xs' : List α} {ys ys' : List β} (r : Paired R xs ys) (r' : Paired R xs' ys') : Paired R (xs ++ xs') (ys ++ ys') := by
  induction r with
  | nil => exact r'
  | cons h1 _ ih => exact .cons h1 ih
theorem RY.put {xs : List (List Int × Addr × V)} {ys : List (List Int × Addr × Value)} (r : RY xs ys) (k : List Int) (b : Addr) {v : V} {u : Value} (h : RelV v u) : RY (putB xs k b v) (putB ys k b u) := by
  have e : (xs.any fun p => decide (p.1 = k)) = (ys.any fun p => decide (p.1 = k)) := Paired.any2 r fun a b h => by rw [h.1]
  unfold putB
  rw [e]
  split
  · refine Paired.map2 r fun p q h1 => ?_
    by_cases hk : p.1 = k
    · rw [if_pos hk, if_pos (h1.1.symm.trans hk)]; exact ⟨h1.1, h1.2.1, h⟩
    · rw [if_neg hk, if_neg (fun z => hk (h1.1.trans z))]; exact h1
  · exact Paired.app r (.cons ⟨rfl, rfl, h⟩ .nil)
theorem RY.merge {xs' : List (List Int × Addr × V)} {ys' : List (List Int × Addr × Value)} (r' : RY xs' ys') : ∀ {xs : List (List Int × Addr × V)} {ys : List (List Int × Addr × Value)}, RY xs ys → RY (mergeB xs xs') (mergeB ys ys') := by
  induction r' with
  | nil => intro _ _ r; exact r
  | @cons p q ps qs h t ih =>
    intro xs ys r
    show RY (mergeB (putB xs p.1 p.2.1 p.2.2) ps) (mergeB (putB ys q.1 q.2.1 q.2.2) qs)
    refine ih ?_
    have := RY.put r p.1 p.2.1 h.2.2
    rw [← h.1, ← h.2.1]
    exact this
theorem atKey_lift {ys : List (List Int × Addr × Value)} {k : List Int} : (atKey (liftY ys) (keyI k)).isSome = ys.any fun p => decide (p.1 = k) := by
  induction ys with
  | nil => rfl
  | cons y ys ih =>
    rw [List.any_cons, ← ih]
    unfold atKey
    show (((keyI y.1, y.2) :: liftY ys).find? _ |>.map _).isSome = _
    rw [List.find?_cons]
    by_cases e : y.1 = k
    · rw [show decide ((keyI y.1, y.2).1 = keyI k) = true from decide_eq_true (by rw [e]), decide_eq_true e]; rfl
    · rw [show decide ((keyI y.1, y.2).1 = keyI k) = false from decide_eq_false fun z => e (keyI_inj z), decide_eq_false e]; rfl
theorem put_lift (ys : List (List Int × Addr × Value)) (k : List Int) (b : Addr) (u : Value) : storedH (liftY ys) (keyI k) b u = liftY (putB ys k b u) := by
  unfold storedH putB
  rw [atKey_lift]
  split
  · unfold liftY
    rw [List.map_map, List.map_map]
    apply List.map_congr_left
    intro y _
    show putAt (keyI k) u (keyI y.1, y.2) = (fun z : List Int × Addr × Value => (keyI z.1, z.2)) (if y.1 = k then (y.1, y.2.1, u) else y)
    unfold putAt
    by_cases e : y.1 = k
    · rw [if_pos e, if_pos (by rw [e])]
    · rw [if_neg e, if_neg fun z => e (keyI_inj z)]
  · unfold liftY
    rw [List.map_append]
    rfl
theorem merge_lift : ∀ (ys' ys : List (List Int × Addr × Value)), storedAllH (liftY ys) (liftY ys') = liftY (mergeB ys ys')
  | [], _ => rfl
  | y :: ys', ys => by
    show storedAllH (storedH (liftY ys) (keyI y.1) y.2.1 y.2.2) (liftY ys') = liftY (mergeB (putB ys y.1 y.2.1 y.2.2) ys')
    rw [put_lift, merge_lift ys']
theorem len_putB {α : Type} (acc : List (List Int × Addr × α)) (k : List Int) (b : Addr) (v : α) : (putB acc k b v).length ≤ acc.length + 1 := by
  unfold putB
  split
  · rw [List.length_map]; omega
  · rw [List.length_append]; simp
theorem len_mergeB {α : Type} : ∀ (more acc : List (List Int × Addr × α)), (mergeB acc more).length ≤ acc.length + more.length
  | [], acc => by show acc.length ≤ acc.length + 0; omega
  | p :: r, acc => by
    have h1 := len_mergeB r (putB acc p.1 p.2.1 p.2.2)
    have h2 := len_putB acc p.1 p.2.1 p.2.2
    show (mergeB (putB acc p.1 p.2.1 p.2.2) r).length ≤ _
    rw [List.length_cons]; omega
/-! ### the rules -/
section
variable {X : Cx} {pos : Pos}
def tDNewR : TE := fun _ H Q => ∀ p, H p = none → Q (.ref p) (upd H p (rawD p []))
theorem pe_dnewR : PE X (.Dict [] [] pos) tDNewR := ⟨fun pins s σ H Q I h => by
  have big : (s.heap.objs.size == sysModules) = false := beq_eq_false_iff_ne.mpr (Nat.ne_of_gt I.big)
  refine wpAny_Dict_empty ⟨.ref s.heap.objs.size, upd H s.heap.objs.size (rawD s.heap.objs.size []), I.laid (t' := s.toks) (fun _ _ q => Heap.get?_push_of_some _ q) (Nat.le_refl _) ?_, rfl, h _ (I.hok.fresh (Nat.le_refl _))⟩
  exact raw_ok (kd := tupleKind (mixKind X.prog X.w)) (ys := []) big (Nat.zero_le _) .nil (Heap.DictOfH.new s.heap)⟩
theorem pairs_raw {pins : List (Addr × Obj)} {σ : L2.St} {H : Hp} {s : Shared} (I : Inv X pins σ H s) : ∀ {ps : List Addr} {xs : List (List Int × Addr × V)}, Paired (fun p x => SqT X.K H p [.ref x.2.1, x.2.2]) ps xs → KeysIn X.K H xs →
    ∃ ys : List (List Int × Addr × Value), RY xs ys ∧ ys.length = ps.length ∧ ∀ (j : Nat) (q : List Key × Addr × Value), (liftY ys)[j]? = some q → ∃ b : Addr, ps[j]? = some b ∧ IsTup s.heap b #[.ref q.2.1, q.2.2] ∧ (tupleKind (mixKind X.prog X.w)).is s.heap q.1 q.2.1
  | _, _, .nil, _ => ⟨[], .nil, rfl, fun j q e => by simp [liftY] at e⟩
  | _, _, .cons (a := p) (b := x) h t, hk => by
    obtain ⟨ys, r, hl, hp⟩ := pairs_raw I t (fun z hz => hk z (List.mem_cons_of_mem _ hz))
    obtain ⟨its, rv, ht, _⟩ := I.tuple h
    obtain ⟨u, y, ei, ru, ry⟩ := vals2 rv
    subst ei
    obtain rfl : u = Value.ref x.2.1 := ru
    refine ⟨(x.1, x.2.1, y) :: ys, .cons ⟨rfl, rfl, ry⟩ r, by rw [List.length_cons, List.length_cons, hl], fun j q e => ?_⟩
    cases j with
    | zero =>
      have e' : (keyI x.1, x.2.1, y) = q := Option.some.inj e
      subst e'
      exact ⟨p, rfl, ht, is_key I (hk x List.mem_cons_self)⟩
    | succ j =>
      obtain ⟨b', e1, e2, e3⟩ := hp j q e
      exact ⟨b', by simpa using e1, e2, e3⟩
theorem call_dictI (hcalm : X.calm = true) (hu : X.A.in1.in1.units < cLine) : CallR X (.type "dict") (fun vs H Q => ∃ (a : Addr) (ps : List Addr) (xs : List (List Int × Addr × V)), vs = [.ref a] ∧ SqL X.K H a (ps.map V.ref) ∧ Paired (fun p x => SqT X.K H p [.ref x.2.1, x.2.2]) ps xs ∧ KeysIn X.K H xs ∧
    ∀ p, H p = none → Q (.ref p) (upd H p (rawD p (mergeB [] xs)))) := by
  intro pins s σ H vs us Q I r q
  obtain ⟨a, ps, xs, ex, hq, hp, hks, q⟩ := q
  subst ex
  obtain ⟨u, eu, rx⟩ := vals1 r
  subst eu
  obtain rfl : u = Value.ref a := rx
  obtain ⟨its, rv, pl, hz⟩ := I.list hq
  have ei := refs_at rv
  subst ei
  rw [List.length_map] at hz
  obtain ⟨ys, rel, hl0, hpr⟩ := pairs_raw I hp hks
  have hl : (liftY ys).length = ps.length := by unfold liftY; rw [List.length_map]; exact hl0
  obtain ⟨o, n, ho, hc, hd, hdat⟩ := pl
  refine call_dict_pairsH (knd := tupleKind (mixKind X.prog X.w)) (ps := liftY ys) (PairArg.list a (ps.map Value.ref).toArray (fun j => ps.getD j 0) ((liftY ys).map fun q => (Value.ref q.2.1, q.2.2))) (I.ok.hd hcalm) hu ⟨⟨o, n, ho, hc, hd, hdat⟩, by simp [hl], fun j k v e => ?_⟩ ⟨by simp, fun j k v e => ?_⟩ (fun h' hk x hx => ?_) (by rw [List.length_map, hl]; exact hz) fun h' tk hd' k => ?_
  · rw [List.getElem?_map] at e
    obtain ⟨q', hq', e2⟩ := Option.map_eq_some_iff.mp e
    obtain ⟨b, e1, ht, _⟩ := hpr j q' hq'
    cases e2
    have eg : ps.getD j 0 = b := by rw [List.getD_eq_getElem?_getD, e1]; rfl
    refine ⟨by simp [e1], .inl ?_⟩
    dsimp only
    rw [eg]
    exact ht
  · rw [PairRel, List.getElem?_map] at e
    obtain ⟨q', hq', e2⟩ := Option.map_eq_some_iff.mp e
    cases e2
    exact ⟨q'.1, q'.2.1, hq', rfl⟩
  · obtain ⟨j, hj, e⟩ := List.getElem_of_mem hx
    obtain ⟨b, e1, ht, hk'⟩ := hpr j x (by rw [List.getElem?_eq_getElem hj, e])
    exact tupleKind_stays.stays (fun c oc vs m ec _ => hk c oc (Nat.ne_of_lt (Heap.lt_size ec)) (fun z => nomatch z) ec) hk'
  · have hm : (s.heap.objs.size == sysModules) = false := beq_eq_false_iff_ne.mpr (Nat.ne_of_gt I.big)
    have hlen : (mergeB [] xs).length ≤ sizeLine := by
      have h1 := len_mergeB xs []
      have h2 : xs.length = ys.length := Paired.length rel
      rw [List.length_nil] at h1
      omega
    have hf : H s.heap.objs.size = none := I.hok.fresh (Nat.le_refl _)
    have k' : ∀ b o, s.heap.get? b = some o → h'.get? b = some o := fun b o e => k b o (fun z => nomatch z) e
    have em : storedAllH [] (liftY ys) = liftY (mergeB [] ys) := merge_lift ys []
    rw [em] at hd'
    exact ⟨.ref s.heap.objs.size, _, I.laid (t' := tk) k' (Nat.le_refl _) (raw_ok (kd := tupleKind (mixKind X.prog X.w)) hm hlen (RY.merge rel .nil) hd'), rfl, q _ hf⟩
def rUpdI (K : PySem.W.Frag) : V → List V → Hp → VK → Prop := fun x vs H Q => ∃ (a b : Addr) (xa xb : List (List Int × Addr × V)), x = .ref a ∧ vs = [.ref b] ∧ a ≠ b ∧ H a = some (rawD a xa) ∧ H b = some (rawD b xb) ∧ KeysIn K H xa ∧ KeysIn K H xb ∧
  (xa ≠ [] ∨ (xb.map fun p => hashI p.1).Nodup) ∧ xa.length + xb.length ≤ sizeLine ∧ Q .non (upd H a (rawD a (mergeB xa xb)))
theorem RY.hashes {P : Program} {w : World} {xs : List (List Int × Addr × V)} {ys : List (List Int × Addr × Value)} (r : RY xs ys) : ((liftY ys).map fun x => (tupleKind (mixKind P w)).hash x.1) = xs.map fun p => hashI p.1 := by
  induction r with
  | nil => rfl
  | @cons p q ps qs h t ih =>
    show (tupleKind (mixKind P w)).hash (keyI q.1) :: ((liftY qs).map fun x => (tupleKind (mixKind P w)).hash x.1) = hashI p.1 :: ps.map fun p => hashI p.1
    rw [ih, hash_keyI, h.1]
theorem mt_updI (hu : X.A.units + 1 < cLine) : MtR X "dict.update" (rUpdI X.K) := by
  intro pins s σ H x vs v us Q I rx rxs h
  obtain ⟨a, b, xa, xb, rfl, rfl, hab, ha, hb, ka, kb, hap, hsz, q⟩ := h
  cases rx
  obtain ⟨u1, rfl, r1⟩ := vals1 rxs
  cases r1
  obtain ⟨y1, z1, _, ya, ra, da⟩ := raw_H I ha ka
  obtain ⟨y2, z2, _, yb, rb, db⟩ := raw_H I hb kb
  have la : (liftY ya).length = xa.length := by unfold liftY; rw [List.length_map]; exact (Paired.length ra).symm
  have lb : (liftY yb).length = xb.length := by unfold liftY; rw [List.length_map]; exact (Paired.length rb).symm
  refine call_update_dictH (knd := tupleKind (mixKind X.prog X.w)) (tupleKind_room_in1 hu) hab y2 da db ?_ (by rw [la, lb]; exact hsz) fun h' dd' do' hs => ?_
  · rcases hap with e | e
    · exact .inl fun z => e (by rw [z] at la; exact List.eq_nil_of_length_eq_zero la.symm)
    · exact .inr ⟨keyed_apart tupleKind_stays db, by rw [RY.hashes rb]; exact e⟩
  · rw [merge_lift] at dd'
    have he : ∃ q, h'.get? a = some q := let ⟨q, _, _, hq, _⟩ := dd'; ⟨q, hq⟩
    have I2 : Inv X pins σ (upd H a (rawD a (mergeB xa xb))) { s with heap := h' } :=
      d_write I (by rw [ha]; exact True.intro) hs he (raw_ok (kd := tupleKind (mixKind X.prog X.w)) y1 (Nat.le_trans (len_mergeB xb xa) hsz) (RY.merge rb ra) dd')
    exact ⟨.non, _, I2, rfl, q⟩
theorem call_listI (hc : X.calm = true) : CallR X (.type "list") (fun vs H Q => ∃ d xs, vs = [V.ref d] ∧ H d = some (rawD d xs) ∧ ∀ p, H p = none → Q (.ref p) (upd H p (.lst (xs.map fun x => V.ref x.2.1)))) := by
  intro pins s σ H vs us Q I r h
  obtain ⟨d, xs, rfl, hd, q⟩ := h
  obtain ⟨u, rfl, rx⟩ := r.one
  cases rx
  obtain ⟨hs, z, hn, ys, ry, o, es, ep, ho, hx, hdt, he⟩ := raw_at I hd
  have l1 : es.size = ys.length := by rw [← Array.length_toList, he, List.length_map]
  have l2 : xs.length = ys.length := Paired.length ry
  refine PySem.W.kdl_call (kdl_raw hs hx hdt) (I.ok.hd hc) ho (by omega) fun h' tk acc' c' kp e it => ?_
  have ea : acc'.toList = ys.map fun y => Value.ref y.2.1 := by
    have hl : acc'.toList.length = ys.length := by rw [Array.length_toList, it.1]; exact l1
    apply List.ext_getElem?
    intro j
    rw [List.getElem?_map]
    cases hj : acc'.toList[j]? with
    | none =>
      have h1 := List.getElem?_eq_none_iff.mp hj
      rw [List.getElem?_eq_none (by omega)]
      all_goals rfl
    | some v =>
      obtain ⟨en, hen, hv⟩ := it.2 j v (by rw [← Array.getElem?_toList]; exact hj)
      have qe : es[j]? = (ys[j]?).map entI := by rw [← Array.getElem?_toList, he, List.getElem?_map]
      rw [hen] at qe
      cases hb : ys[j]? with
      | none =>
        rw [hb] at qe
        exact nomatch (show some en = none from qe)
      | some b =>
        rw [hb] at qe
        have e2 : en = entI b := Option.some.inj qe
        rw [hv, e2]
        all_goals rfl
  have eb : (ys.map fun y => Value.ref y.2.1) = (xs.map fun x => x.2.1).map Value.ref := by
    clear ea e it hn z l1 l2 he q hd
    induction ry with
    | nil => rfl
    | cons h t ih => rw [List.map_cons, List.map_cons, List.map_cons, ih, h.2.1]
  have rv : Vals ((xs.map fun x => x.2.1).map V.ref) acc'.toList := by rw [ea, eb]; exact vals_refs _
  have em : (xs.map fun x => V.ref x.2.1) = (xs.map fun x => x.2.1).map V.ref := by rw [List.map_map]; rfl
  refine ⟨.ref s.heap.objs.size, _, I.laid (t' := tk) (o := .lst (xs.map fun x => V.ref x.2.1)) kp (Nat.le_refl _) ?_, rfl, q _ (I.hok.fresh (Nat.le_refl _))⟩
  exact ⟨by rw [List.length_map]; omega, acc'.toList, c', by rw [em]; exact rv, by rw [Array.toArray_toList]; exact e⟩
def rEqI : V → V → Hp → VK → Prop := fun x y H Q => ∃ a b xs, x = .ref a ∧ y = .ref b ∧ H a = some (rawD a xs) ∧ H b = some (rawD b []) ∧ Q (.bl xs.isEmpty) H
theorem op_eqI (hu : X.A.units < cLine) : OpR X (compareOp .Eq) rEqI := by
  intro pins s σ H x y v u Q I rx ry h
  obtain ⟨a, b, xs, rfl, rfl, ea, eb, q⟩ := h
  obtain rfl : v = Value.ref a := rx
  obtain rfl : u = Value.ref b := ry
  obtain ⟨ha, _, _, ya, ra, oa, es, ep, h1, h2, h3, h4⟩ := raw_at I ea
  obtain ⟨hb, _, _, yb, rb, ob, es', ep', g1, g2, g3, g4⟩ := raw_at I eb
  have l1 : es.size = xs.length := by rw [← Array.length_toList, h4, List.length_map]; exact (Paired.length ra).symm
  have l2 : es'.size = 0 := by rw [← Array.length_toList, g4, List.length_map]; exact (Paired.length rb).symm
  refine eq_empty ha hb h1 h3 g1 g3 l2 ⟨oa, h1, h2.1⟩ ⟨ob, g1, g2.1⟩ hu ?_
  exact ⟨.bl xs.isEmpty, H, I, by cases xs <;> simp_all [L2.RelV], q⟩
variable {o e : Expr} {es : List Expr} {to : TE} {t : TA} {name : Str} {apos cpos : Pos} {id : String} {r : V → List V → Hp → VK → Prop}
def tBMI (r : V → List V → Hp → VK → Prop) (to : TE) (t : TA) : TE := fun σ H Q => to σ H fun x H1 => (∃ a xs, x = .ref a ∧ H1 a = some (rawD a xs)) ∧ t σ H1 fun vs H2 => r x vs H2 Q
theorem pe_bmI (pa : PlainAttrs "dict") (slot : Slot "dict" name id) (hty : typeOf (.builtin id) = pure (.type "method_descriptor")) (hm : MtR X id r) (ho : PE X o to) (ha : PA X (e :: es) t)
    (hbase : attributeBase o name X.env (eval o X.env) = eval o X.env := by rfl)
    (hfew : ((backTo cpos (starEach (e :: es) X.env)).all (fun x => !x.1) && (backToKw cpos (keywordEach [] X.env)).all (fun x => x.1.isSome) && decide ((e :: es).length + ([] : List Keyword).length + (if ([] : List Keyword).isEmpty then 0 else 1) < 30)) = true := by rfl)
    (hline : (apos.endLine == cpos.line) = true := by rfl) (hs : starEach (e :: es) X.env = (false, eval e X.env) :: starEach es X.env := by rfl) (hplain : (backTo cpos (starEach es X.env)).any (·.1) = false := by rfl) :
    PE X (.Call (.Attribute o name apos) (e :: es) [] cpos) (tBMI r to t) := by
  refine ⟨fun pins s σ H Q I h => ?_⟩
  refine wpAny_Call_method_late hbase hfew hline rfl (thn (ho.run pins s σ H _ I h) fun v s1 ⟨x, H1, I1, r1, ⟨a, xs, ex, hx⟩, q1⟩ => ?_)
  subst ex
  obtain rfl : v = Value.ref a := r1
  obtain ⟨_, _, _, _, _, od, _, _, e1, e2, _⟩ := raw_at I1 hx
  refine ⟨"dict", id, pa, slot, hty, ⟨od, e1, e2.1⟩, fun z ez => ?_, ?_⟩
  · cases ez
    exact ⟨od, e1, e2.2.1⟩
  have hA := ha.run cpos pins s1 σ H1 _ I1 q1
  rw [hs] at hA ⊢
  refine Calls.callWith_builtin (by show (false || (backTo cpos (starEach es X.env)).any (·.1)) = false; rw [hplain] <;> rfl) (Calls.evalArgs_plain ?_)
  exact thn hA fun us s2 ⟨vs, H2, I2, r2, q2⟩ => hm pins s2 σ H2 (.ref a) vs (.ref a) us Q I2 rfl r2 q2
end
end Dv
end
section
set_option Elab.async false
set_option linter.all false
set_option maxRecDepth 100000
set_option maxHeartbeats 1000000
/-! Dv28: nodes of dicts keyed by tuples of ints. -/
namespace Dv
open PySem L2
/-! ### the code of a dict -/
theorem intsOf_some : ∀ {l : List D} {ns : List Int}, intsOf l = some ns → l = ns.map D.int
  | [], ns, h => by cases h; rfl
  | .int i :: r, ns, h => by
    obtain ⟨t, e, rfl⟩ := Option.map_eq_some_iff.mp (show (intsOf r).map (i :: ·) = some ns from h)
    rw [List.map_cons, intsOf_some e]
  | .non :: _, _, h => by cases h
  | .bl _ :: _, _, h => by cases h
  | .str _ :: _, _, h => by cases h
  | .fn _ :: _, _, h => by cases h
  | .scr _ :: _, _, h => by cases h
  | .tup _ :: _, _, h => by cases h
  | .lst _ :: _, _, h => by cases h
  | .mls _ :: _, _, h => by cases h
  | .dct _ _ _ :: _, _, h => by cases h
  | .mdc _ _ _ :: _, _, h => by cases h
theorem intsOf_ints : ∀ ns : List Int, intsOf (ns.map D.int) = some ns
  | [] => rfl
  | i :: r => by
    show (intsOf (r.map D.int)).map (i :: ·) = _
    rw [intsOf_ints r]
    rfl
theorem decV_enc : ∀ kvs : List (List Int × D), decV (encV kvs) = some kvs
  | [] => rfl
  | p :: r => by
    show (intsOf (p.1.map D.int)).bind (fun ks => (decV (encV r)).map ((ks, p.2) :: ·)) = _
    rw [intsOf_ints, decV_enc r]
    rfl
theorem decV_some : ∀ {xs : List D} {kvs : List (List Int × D)}, decV xs = some kvs → xs = encV kvs
  | [], kvs, h => by cases h; rfl
  | .tup k :: v :: r, kvs, h => by
    obtain ⟨ns, e1, h1⟩ := Option.bind_eq_some_iff.mp (show (intsOf k).bind (fun ks => (decV r).map ((ks, v) :: ·)) = some kvs from h)
    obtain ⟨t, e2, rfl⟩ := Option.map_eq_some_iff.mp h1
    show _ = .tup (ns.map .int) :: v :: encV t
    rw [intsOf_some e1, decV_some e2]
  | [.tup _], _, h => by cases h
  | .int _ :: _, _, h => by cases h
  | .non :: _, _, h => by cases h
  | .bl _ :: _, _, h => by cases h
  | .str _ :: _, _, h => by cases h
  | .fn _ :: _, _, h => by cases h
  | .scr _ :: _, _, h => by cases h
  | .lst _ :: _, _, h => by cases h
  | .mls _ :: _, _, h => by cases h
  | .dct _ _ _ :: _, _, h => by cases h
  | .mdc _ _ _ :: _, _, h => by cases h
theorem decM_enc (kvs : List (List Int × D)) : decM (mdT kvs) = some kvs := by
  show (decV (encV kvs)).bind (fun q => if encK kvs = encK q then some q else none) = _
  rw [decV_enc]
  exact if_pos rfl
theorem decC_enc (kvs : List (List Int × D)) : decC (dcT kvs) = some kvs := by
  show (decV (encV kvs)).bind (fun q => if encK kvs = encK q then some q else none) = _
  rw [decV_enc]
  exact if_pos rfl
theorem decM_some {d : D} {kvs : List (List Int × D)} (h : decM d = some kvs) : d = mdT kvs := by
  cases d with
  | mdc t ks xs =>
    cases t with
    | false => cases h
    | true =>
      obtain ⟨q, e1, h1⟩ := Option.bind_eq_some_iff.mp (show (decV xs).bind (fun q => if ks = encK q then some q else none) = some kvs from h)
      split at h1
      · cases h1
        rw [‹ks = _›, decV_some e1]
        rfl
      · cases h1
  | _ => cases h
theorem decC_some {d : D} {kvs : List (List Int × D)} (h : decC d = some kvs) : d = dcT kvs := by
  cases d with
  | dct t ks xs =>
    cases t with
    | false => cases h
    | true =>
      obtain ⟨q, e1, h1⟩ := Option.bind_eq_some_iff.mp (show (decV xs).bind (fun q => if ks = encK q then some q else none) = some kvs from h)
      split at h1
      · cases h1
        rw [‹ks = _›, decV_some e1]
        rfl
      · cases h1
  | _ => cases h
theorem pairsOf_some : ∀ {l : List D} {ps : List (List Int × D)}, pairsOf l = some ps → l = ps.map fun p => .tup [.tup (p.1.map .int), p.2]
  | [], ps, h => by cases h; rfl
  | .tup [.tup k, v] :: r, ps, h => by
    obtain ⟨ns, e1, h1⟩ := Option.bind_eq_some_iff.mp (show (intsOf k).bind (fun ks => (pairsOf r).map ((ks, v) :: ·)) = some ps from h)
    obtain ⟨t, e2, rfl⟩ := Option.map_eq_some_iff.mp h1
    rw [List.map_cons, intsOf_some e1, pairsOf_some e2]
  | .tup [] :: _, _, h => by cases h
  | .tup [.tup _] :: _, _, h => by cases h
  | .tup (.tup _ :: _ :: _ :: _) :: _, _, h => by cases h
  | .tup (.int _ :: _) :: _, _, h => by cases h
  | .tup (.non :: _) :: _, _, h => by cases h
  | .tup (.bl _ :: _) :: _, _, h => by cases h
  | .tup (.str _ :: _) :: _, _, h => by cases h
  | .tup (.fn _ :: _) :: _, _, h => by cases h
  | .tup (.scr _ :: _) :: _, _, h => by cases h
  | .tup (.lst _ :: _) :: _, _, h => by cases h
  | .tup (.mls _ :: _) :: _, _, h => by cases h
  | .tup (.dct _ _ _ :: _) :: _, _, h => by cases h
  | .tup (.mdc _ _ _ :: _) :: _, _, h => by cases h
  | .int _ :: _, _, h => by cases h
  | .non :: _, _, h => by cases h
  | .bl _ :: _, _, h => by cases h
  | .str _ :: _, _, h => by cases h
  | .fn _ :: _, _, h => by cases h
  | .scr _ :: _, _, h => by cases h
  | .lst _ :: _, _, h => by cases h
  | .mls _ :: _, _, h => by cases h
  | .dct _ _ _ :: _, _, h => by cases h
  | .mdc _ _ _ :: _, _, h => by cases h
theorem kInt_keyI : ∀ k : List Int, kInt (keyI k) = k
  | [] => rfl
  | i :: r => by
    show i :: kInt (keyI r) = _
    rw [kInt_keyI r]
theorem encK_len (kvs : List (List Int × D)) : (encK kvs).length = (encV kvs).length := by
  induction kvs with
  | nil => rfl
  | cons p r ih =>
    show (_ :: _ :: encK r).length = (_ :: _ :: encV r).length
    simp only [List.length_cons, ih]
theorem encK_ok (kvs : List (List Int × D)) : (encK kvs).all (kxOk true) = true := by
  induction kvs with
  | nil => rfl
  | cons p r ih =>
    show (true && (true && (encK r).all (kxOk true))) = true
    rw [ih]
    rfl
section
variable {K : PySem.W.Frag} {mg : Str → Option Value} {xf : Str → List Str} {W : WX} {F H H' : Hp} {ow : Ows} {G : GEnv} {σ : L2.St} {st : List (RV × V)} {o : Own} {v : V} {Q : VK} {QT : Bool → Hp → Prop} {fa : GEnv → R RV}
abbrev RX (K : PySem.W.Frag) (mg : Str → Option Value) (F : Hp) : List (List Int × D) → List (List Int × Addr × V) → Prop := Paired fun p x => p.1 = x.1 ∧ SqT K F x.2.1 (x.1.map V.int) ∧ Rf K mg F p.2 x.2.2
theorem rfs_ints : ∀ {ns : List Int} {vs : List V}, Rfs K mg F (ns.map D.int) vs → vs = ns.map V.int
  | [], _, h => h
  | n :: r, _, ⟨v, t, e, h1, h2⟩ => by
    rw [e, show v = V.int n from h1, rfs_ints h2]
    rfl
theorem rfs_of_ints : ∀ ns : List Int, Rfs K mg F (ns.map D.int) (ns.map V.int)
  | [] => rfl
  | n :: r => ⟨.int n, r.map V.int, rfl, rfl, rfs_of_ints r⟩
theorem rf_key {k : List Int} (h : Rf K mg F (.tup (k.map .int)) v) : ∃ b, v = .ref b ∧ SqT K F b (k.map V.int) := by
  obtain ⟨b, vs, e, h1, h2⟩ := h
  exact ⟨b, e, by rw [← rfs_ints h2]; exact h1⟩
theorem key_rf {k : List Int} {b : Addr} (h : SqT K F b (k.map V.int)) : Rf K mg F (.tup (k.map .int)) (.ref b) := ⟨b, _, rfl, h, rfs_of_ints k⟩
theorem rows_of : ∀ {kvs : List (List Int × D)} {vs : List V}, Rfs K mg F (encV kvs) vs → RX K mg F kvs (rowsT (encK kvs) vs)
  | [], vs, h => by rw [show vs = [] from h]; exact .nil
  | p :: r, vs, h => by
    obtain ⟨v1, t1, rfl, h1, v2, t2, rfl, h2, h3⟩ := (show Rfs K mg F (.tup (p.1.map .int) :: p.2 :: encV r) vs from h)
    obtain ⟨b, rfl, hb⟩ := rf_key h1
    show RX K mg F (p :: r) ((kInt (keyI p.1), b, v2) :: rowsT (encK r) t2)
    rw [kInt_keyI]
    exact .cons ⟨rfl, hb, h2⟩ (rows_of h3)
theorem rows_to {kvs : List (List Int × D)} {xs : List (List Int × Addr × V)} (r : RX K mg F kvs xs) : ∃ vs, Rfs K mg F (encV kvs) vs ∧ rowsT (encK kvs) vs = xs := by
  induction r with
  | nil => exact ⟨[], rfl, rfl⟩
  | @cons p x ps xs h t ih =>
    obtain ⟨vs, e1, e2⟩ := ih
    refine ⟨.ref x.2.1 :: x.2.2 :: vs, ⟨_, _, rfl, key_rf (by rw [h.1]; exact h.2.1), _, _, rfl, h.2.2, e1⟩, ?_⟩
    show (kInt (keyI p.1), x.2.1, x.2.2) :: rowsT (encK ps) vs = _
    rw [kInt_keyI, e2, h.1]
theorem rf_dcT {kvs : List (List Int × D)} (h : Rf K mg F (dcT kvs) v) : ∃ a xs, v = .ref a ∧ F a = some (rawD a xs) ∧ RX K mg F kvs xs := by
  obtain ⟨a, vs, e, h1, _, _, h2⟩ := (show ∃ a vs, v = .ref a ∧ F a = some (dHO a true (encK kvs) vs) ∧ (encK kvs).all (kxOk true) = true ∧ (encK kvs).length = (encV kvs).length ∧ Rfs K mg F (encV kvs) vs from h)
  exact ⟨a, _, e, h1, rows_of h2⟩
theorem rp_mdT {kvs : List (List Int × D)} (h : Rp K mg F H ow o (mdT kvs) v) : ∃ a xs, v = .ref a ∧ H a = some (rawD a xs) ∧ ow a = some o ∧ RX K mg F kvs xs := by
  obtain ⟨a, vs, e, h1, h3, _, _, h2⟩ := (show ∃ a vs, v = .ref a ∧ H a = some (dHO a true (encK kvs) vs) ∧ ow a = some o ∧ (encK kvs).all (kxOk true) = true ∧ (encK kvs).length = (encV kvs).length ∧ Rfs K mg F (encV kvs) vs from h)
  exact ⟨a, _, e, h1, h3, rows_of h2⟩
theorem mdT_rp {kvs : List (List Int × D)} {a : Addr} {xs : List (List Int × Addr × V)} (h1 : H a = some (rawD a xs)) (h2 : ow a = some o) (r : RX K mg F kvs xs) : Rp K mg F H ow o (mdT kvs) (.ref a) := by
  obtain ⟨vs, e1, e2⟩ := rows_to r
  refine (show ∃ a' vs, V.ref a = .ref a' ∧ H a' = some (dHO a' true (encK kvs) vs) ∧ ow a' = some o ∧ (encK kvs).all (kxOk true) = true ∧ (encK kvs).length = (encV kvs).length ∧ Rfs K mg F (encV kvs) vs from ⟨a, vs, rfl, ?_, h2, encK_ok kvs, encK_len kvs, e1⟩)
  rw [h1]
  show some (rawD a xs) = some (rawD a (rowsT (encK kvs) vs))
  rw [e2]
theorem RX.keysIn {kvs : List (List Int × D)} {xs : List (List Int × Addr × V)} (s : Sub F H) (r : RX K mg F kvs xs) : KeysIn K H xs := by
  induction r with
  | nil => intro x hx; cases hx
  | cons h t ih =>
    intro x hx
    rcases List.mem_cons.mp hx with e | hx
    · subst e; exact s.sqT h.2.1
    · exact ih x hx
theorem RX.put {kvs : List (List Int × D)} {xs : List (List Int × Addr × V)} (r : RX K mg F kvs xs) (k : List Int) {b : Addr} {d : D} {v : V} (hb : SqT K F b (k.map V.int)) (h : Rf K mg F d v) : RX K mg F (putP kvs k d) (putB xs k b v) := by
  have e : (kvs.any fun p => decide (p.1 = k)) = (xs.any fun p => decide (p.1 = k)) := Paired.any2 r fun a b h => by rw [h.1]
  unfold putP putB
  rw [e]
  split
  · refine Paired.map2 r fun p q h1 => ?_
    by_cases hk : p.1 = k
    · rw [if_pos hk, if_pos (h1.1.symm.trans hk)]; exact ⟨h1.1, h1.2.1, h⟩
    · rw [if_neg hk, if_neg (fun z => hk (h1.1.trans z))]; exact h1
  · exact Paired.app r (.cons ⟨rfl, hb, h⟩ .nil)
theorem RX.merge {kvs' : List (List Int × D)} {xs' : List (List Int × Addr × V)} (r' : RX K mg F kvs' xs') : ∀ {kvs : List (List Int × D)} {xs : List (List Int × Addr × V)}, RX K mg F kvs xs → RX K mg F (mergeP kvs kvs') (mergeB xs xs') := by
  induction r' with
  | nil => intro _ _ r; exact r
  | @cons p q ps qs h t ih =>
    intro kvs xs r
    show RX K mg F (mergeP (putP kvs p.1 p.2) ps) (mergeB (putB xs q.1 q.2.1 q.2.2) qs)
    refine ih ?_
    rw [h.1]
    exact RX.put r q.1 h.2.1 h.2.2
theorem RX.hashes {kvs : List (List Int × D)} {xs : List (List Int × Addr × V)} (r : RX K mg F kvs xs) : (kvs.map fun p => hashI p.1) = xs.map fun p => hashI p.1 := by
  induction r with
  | nil => rfl
  | cons h t ih => rw [List.map_cons, List.map_cons, ih, h.1]
theorem RX.pairs : ∀ {ps : List (List Int × D)} {vs : List V}, Rfs K mg F (ps.map fun p => .tup [.tup (p.1.map .int), p.2]) vs → ∃ (as : List Addr) (xs : List (List Int × Addr × V)), vs = as.map V.ref ∧ Paired (fun a x => SqT K F a [.ref x.2.1, x.2.2]) as xs ∧ RX K mg F ps xs
  | [], vs, h => ⟨[], [], by rw [show vs = [] from h]; rfl, .nil, .nil⟩
  | p :: r, vs, h => by
    obtain ⟨v1, t1, rfl, ⟨a, us, rfl, h1, u1, t2, rfl, h2, u2, t3, rfl, h3, h4⟩, h5⟩ := (show Rfs K mg F (.tup [.tup (p.1.map .int), p.2] :: r.map fun p => .tup [.tup (p.1.map .int), p.2]) vs from h)
    obtain rfl : t3 = [] := h4
    obtain ⟨b, rfl, hb⟩ := rf_key h2
    obtain ⟨as, xs, rfl, q1, q2⟩ := RX.pairs h5
    exact ⟨a :: as, (p.1, b, u2) :: xs, rfl, .cons h1 q1, .cons ⟨rfl, hb, h3⟩ q2⟩
/-! ### readings -/
theorem r_dnewT (h : tOf K mg xf W (fun G => .ok (.val (.mdc true [] [])) G) σ H Q) : tDNewR σ H Q := by
  obtain ⟨F, ow, G, st, A, h⟩ := h
  intro p hp
  have g : Grow F ow H F (updO ow p (.stk st.length)) (upd H p (rawD p [])) := Grow.own A.wd hp _
  exact h (.ref p) _ _ _ ((A.grow g).push (rv := .val (mdT [])) (mdT_rp (kvs := []) upd_same updO_same .nil)) g.ext
theorem r_dctp (h : tOf K mg xf W (fun G => (fa G).bind fun x G1 => match Dv.take x G1 with
    | some (d, G2) => lft (dctpD d) G2
    | none => .no) σ H Q) : tCB (fun vs H Q => ∃ (a : Addr) (ps : List Addr) (xs : List (List Int × Addr × V)), vs = [.ref a] ∧ SqL K H a (ps.map V.ref) ∧ Paired (fun p x => SqT K H p [.ref x.2.1, x.2.2]) ps xs ∧ KeysIn K H xs ∧
    ∀ p, H p = none → Q (.ref p) (upd H p (rawD p (mergeB [] xs)))) (tCons (tOf K mg xf W fa) tNil) σ H Q := by
  obtain ⟨F, ow, G, st, A, h⟩ := h
  refine run_E (pre := []) A mono_E h fun F1 ow1 H1 G1 x v A1 h1 => ?_
  cases e : Dv.take x G1 with
  | none => rw [e] at h1; exact h1.elim
  | some q =>
    obtain ⟨d, G2⟩ := q
    rw [e] at h1
    obtain ⟨F2, ow2, A2, X2, r2⟩ := At.take (pre := []) A1 e
    have h2 : Fin K mg xf W σ st (pE K mg σ st Q) F1 ow1 H1 (lft (dctpD d) G2) := h1
    cases e2 : dctpD d with
    | none => rw [e2] at h2; exact h2.elim
    | some res =>
      rw [e2] at h2
      have A3 : At K mg F2 ow2 G2 σ H1 st := A2.pop
      cases d with
      | lst ys =>
        obtain ⟨ps, e3, e4⟩ := Option.bind_eq_some_iff.mp (show (pairsOf ys).bind (fun ps => if lenOk ys then some (mdT (mergeP [] ps)) else none) = some res from e2)
        split at e4
        · cases e4
          obtain ⟨a, vs, rfl, g1, g2⟩ := r2
          rw [pairsOf_some e3] at g2
          obtain ⟨as, xs, rfl, q1, q2⟩ := RX.pairs g2
          refine ⟨a, as, xs, rfl, SqL.of (A3.wd.fh _ _ g1), Paired.mapP q1 fun _ _ z => A3.wd.fh.sqT z, RX.keysIn A3.wd.fh q2, fun p hp => ?_⟩
          have g : Grow F2 ow2 H1 F2 (updO ow2 p (.stk st.length)) (upd H1 p (rawD p (mergeB [] xs))) := Grow.own A3.wd hp _
          exact h2 (.ref p) _ _ _ ((A3.grow g).push (rv := .val (mdT (mergeP [] ps))) (mdT_rp upd_same updO_same (RX.merge q2 .nil))) (X2.trans g.ext)
        · cases e4
      | _ => cases e2
theorem r_keys (h : tOf K mg xf W (fun G => (fa G).bind fun x G1 => match Dv.take x G1 with
    | some (d, G2) => lft (keysD d) G2
    | none => .no) σ H Q) : tCB (fun vs H Q => ∃ d xs, vs = [V.ref d] ∧ H d = some (rawD d xs) ∧ ∀ p, H p = none → Q (.ref p) (upd H p (.lst (xs.map fun x => V.ref x.2.1)))) (tCons (tOf K mg xf W fa) tNil) σ H Q := by
  obtain ⟨F, ow, G, st, A, h⟩ := h
  refine run_E (pre := []) A mono_E h fun F1 ow1 H1 G1 x v A1 h1 => ?_
  cases e : Dv.take x G1 with
  | none => rw [e] at h1; exact h1.elim
  | some q =>
    obtain ⟨d, G2⟩ := q
    rw [e] at h1
    obtain ⟨F2, ow2, A2, X2, r2⟩ := At.take (pre := []) A1 e
    have h2 : Fin K mg xf W σ st (pE K mg σ st Q) F1 ow1 H1 (lft (keysD d) G2) := h1
    cases e2 : decC d with
    | none =>
      have e3 : keysD d = none := by unfold keysD; rw [e2]; rfl
      rw [e3] at h2; exact h2.elim
    | some kvs =>
      have e3 : keysD d = some (.mls (kvs.map fun p => .tup (p.1.map .int))) := by unfold keysD; rw [e2]; rfl
      rw [e3] at h2
      have A3 : At K mg F2 ow2 G2 σ H1 st := A2.pop
      rw [decC_some e2] at r2
      obtain ⟨a, xs, rfl, g1, g2⟩ := rf_dcT r2
      refine ⟨a, xs, rfl, A3.wd.fh _ _ g1, fun p hp => ?_⟩
      have rs : Rfs K mg F2 (kvs.map fun p => .tup (p.1.map .int)) (xs.map fun x => V.ref x.2.1) := by
        clear h2 e2 e3 r2 g1
        induction g2 with
        | nil => exact rfl
        | cons h t ih => exact ⟨_, _, rfl, key_rf (by rw [h.1]; exact h.2.1), ih⟩
      obtain ⟨g, z⟩ := new_lst (o := .stk st.length) A3.wd rs hp
      exact h2 _ _ _ _ ((A3.grow g).push (rv := .val (.mls (kvs.map fun p : List Int × D => D.tup (p.1.map D.int)))) z) (X2.trans g.ext)
theorem updD_some {m d m' : D} (h : updD m d = some m') : ∃ a b, m = mdT a ∧ d = dcT b ∧ (a ≠ [] ∨ (b.map fun p => hashI p.1).Nodup) ∧ a.length + b.length ≤ sizeLine ∧ m' = mdT (mergeP a b) := by
  obtain ⟨a, e1, h1⟩ := Option.bind_eq_some_iff.mp (show (decM m).bind _ = some m' from h)
  obtain ⟨b, e2, h2⟩ := Option.bind_eq_some_iff.mp h1
  split at h2
  · rename_i hc
    cases h2
    exact ⟨a, b, decM_some e1, decC_some e2, hc.1, hc.2, rfl⟩
  · cases h2
theorem r_upd {i : Nat} (h : tOf K mg xf W (fun G => match getS G i with
    | some (.mdc true _ _) => (fa G).bind fun x G1 => (match Dv.take x G1 with
      | some (d, G2) => (match getS G2 i with
        | some m => (match updD m d with
          | some m' => .ok (.val .non) (G2.set i (some m'))
          | none => .no)
        | none => .no)
      | none => .no)
    | _ => .no) σ H Q) : tBMI (rUpdI K) (tVar i) (tCons (tOf K mg xf W fa) tNil) σ H Q := by
  obtain ⟨F, ow, G, st, A, h⟩ := h
  dsimp only at h
  cases e0 : getS G i with
  | none => rw [e0] at h; exact h.elim
  | some d0 =>
    cases d0 with
    | mdc t0 ks0 xs0 =>
      cases t0 with
      | false => rw [e0] at h; exact h.elim
      | true =>
        rw [e0] at h
        obtain ⟨v, hv, a0, vs0, e1, hH0, ho0, _⟩ := A.env i _ e0
        subst e1
        refine ⟨.ref a0, hv, ⟨a0, _, rfl, hH0⟩, ?_⟩
        have h' : Fin K mg xf W σ st (pE K mg σ st Q) F ow H ((fa G).bind fun x G1 => (match Dv.take x G1 with
          | some (d, G2) => (match getS G2 i with
            | some m => (match updD m d with
              | some m' => .ok (.val .non) (G2.set i (some m'))
              | none => .no)
            | none => .no)
          | none => .no)) := h
        refine run_E (pre := []) A mono_E h' fun F1 ow1 H1 G1 x v1 A1 h1 => ?_
        cases e2 : Dv.take x G1 with
        | none => rw [e2] at h1; exact h1.elim
        | some p =>
          obtain ⟨d, G2⟩ := p
          rw [e2] at h1
          obtain ⟨F2, ow2, A2, X2, r2⟩ := At.take (pre := []) A1 e2
          have A3 : At K mg F2 ow2 G2 σ H1 st := A2.pop
          have h2 : Fin K mg xf W σ st (pE K mg σ st Q) F1 ow1 H1 (match getS G2 i with
            | some m => (match updD m d with
              | some m' => .ok (.val .non) (G2.set i (some m'))
              | none => .no)
            | none => .no) := h1
          cases e3 : getS G2 i with
          | none => rw [e3] at h2; exact h2.elim
          | some m =>
            rw [e3] at h2
            have h3 : Fin K mg xf W σ st (pE K mg σ st Q) F1 ow1 H1 (match updD m d with
              | some m' => .ok (.val .non) (G2.set i (some m'))
              | none => .no) := h2
            cases e4 : updD m d with
            | none => rw [e4] at h3; exact h3.elim
            | some m' =>
              rw [e4] at h3
              obtain ⟨ka, kb, rfl, rfl, hap, hsz, rfl⟩ := updD_some e4
              obtain ⟨v2, hv2, rp⟩ := A3.env i _ e3
              rw [hv] at hv2; cases hv2
              obtain ⟨a, xa, ea, ha, hoa, ra⟩ := rp_mdT rp
              cases ea
              obtain ⟨b, xb, rfl, hb, rb⟩ := rf_dcT r2
              have hab : a0 ≠ b := fun z => by
                have := (A3.wd.of a0 _ hoa).1
                rw [z, hb] at this
                cases this
              have la := Paired.length ra
              have lb := Paired.length rb
              refine ⟨a0, b, xa, xb, rfl, rfl, hab, ha, A3.wd.fh _ _ hb, RX.keysIn A3.wd.fh ra, RX.keysIn A3.wd.fh rb, ?_, by omega, ?_⟩
              · rcases hap with z | z
                · exact .inl fun y => z (by subst y; exact List.eq_nil_of_length_eq_zero la)
                · exact .inr (by rw [← RX.hashes rb]; exact z)
              · have A4 := A3.updS (x := rawD a0 (mergeB xa xb)) (d' := mdT (mergeP ka kb)) hoa (getS_lt e3) hv (mdT_rp upd_same hoa (RX.merge rb ra))
                exact h3 .non F2 ow2 _ (A4.push (rv := .val .non) rfl) (X2.trans (upd_ext hoa))
    | _ => rw [e0] at h; exact h.elim
theorem r_emp (h : tOfT K mg xf W (fun G => (fa G).bind fun x G1 => match (deref x G1).bind empD with
    | some k => .ok k G1
    | none => .no) σ H QT) : tTest (tOp rEqI (tOf K mg xf W fa) tDNewR) σ H QT := by
  obtain ⟨F, ow, G, st, A, h⟩ := h
  refine run_E (pre := []) A mono_T h fun F1 ow1 H1 G1 x v A1 h1 => ?_
  cases ex : deref x G1 with
  | none => rw [ex] at h1; exact h1.elim
  | some d =>
    rw [ex] at h1
    have h2 : Fin K mg xf W σ st (pT K mg σ st QT) F1 ow1 H1 (match empD d with
      | some k => .ok k G1
      | none => .no) := h1
    obtain ⟨o1, hx⟩ := At.deref (pre := []) A1 ex
    have go : ∀ {kvs : List (List Int × D)} {a : Addr} {xs : List (List Int × Addr × V)}, v = .ref a → H1 a = some (rawD a xs) → kvs.length = xs.length → empD d = some kvs.isEmpty → tDNewR σ H1 fun y H2 => rEqI v y H2 fun z H3 => ∃ k, z = .bl k ∧ QT k H3 := by
      intro kvs a xs ea ha hl e p hp
      rw [e] at h2
      have ee : xs.isEmpty = kvs.isEmpty := by
        cases xs <;> cases kvs <;> simp_all
      have hne : a ≠ p := fun z => by rw [z, hp] at ha; cases ha
      refine ⟨a, p, xs, ea, rfl, by rw [upd_ne hne]; exact ha, upd_same, kvs.isEmpty, by rw [ee], ?_⟩
      have g : Grow F1 ow1 H1 F1 (updO ow1 p (.stk st.length)) (upd H1 p (rawD p [])) := Grow.own A1.wd hp _
      exact h2 _ _ _ (A1.pop.grow g) g.ext
    cases eM : decM d with
    | some kvs =>
      rw [decM_some eM] at hx
      obtain ⟨a, xs, ea, ha, _, r⟩ := rp_mdT hx
      exact go ea ha (Paired.length r) (by unfold empD; rw [eM])
    | none =>
      cases eC : decC d with
      | some kvs =>
        rw [decC_some eC] at hx
        obtain ⟨a, xs, ea, ha, r⟩ := rf_dcT (hx.still rfl)
        exact go (kvs := kvs) ea (A1.wd.fh _ _ ha) (Paired.length r) (by unfold empD; rw [eM, eC]; rfl)
      | none =>
        have e : empD d = none := by unfold empD; rw [eM, eC]; rfl
        rw [e] at h2
        exact h2.elim
end
/-! ### nodes -/
section
variable {X : Cx} {xf : Str → List Str} {W : WX} {C : Dv.Ctx} {sg : List (Str × Nat)} {fr : List Str}
variable {e : Expr} {pos p p2 p3 : Pos} {x : Exp}
theorem n_dnewT : NE X xf W C (.Dict [] [] pos) (.dnew true) := pe_imp pe_dnewR fun _ _ _ => r_dnewT
theorem n_dctp (O : Cok X xf W C sg fr) (h : NE X xf W C e x) (hf : fr.contains "dict" = true := by rfl) (hg : Gl X "dict" := by rfl) (he : starEach [e] X.env = (false, eval e X.env) :: starEach [] X.env := by rfl) : NE X xf W C (.Call (.Name "dict" p) [e] [] pos) (.dctp x) :=
  pe_imp (pe_callTy (x := "dict") (T := "dict") (call_dictI O.calm (by have := O.room.un; show X.A.units + 1 + 1 < cLine; omega)) hg (O.free _ hf) (by rfl) (pa_cons h pa_nil he) (by decide) (by decide) he rfl) fun _ _ _ => r_dctp
theorem n_keys (O : Cok X xf W C sg fr) (h : NE X xf W C e x) (hf : fr.contains "list" = true := by rfl) (hg : Gl X "list" := by rfl) (he : starEach [e] X.env = (false, eval e X.env) :: starEach [] X.env := by rfl) : NE X xf W C (.Call (.Name "list" p) [e] [] pos) (.keys x) :=
  pe_imp (pe_callTy (x := "list") (T := "list") (call_listI O.calm) hg (O.free _ hf) (by rfl) (pa_cons h pa_nil he) (by decide) (by decide) he rfl) fun _ _ _ => r_keys
theorem n_upd (O : Cok X xf W C sg fr) {i : Nat} {v : Str} {apos : Pos} (h : NE X xf W C e x)
    (hN : X.N[i]? = some v := by rfl) (hv : Vis X.env.scope v := by first | exact Or.inl rfl | exact Or.inr (Or.inl rfl) | exact Or.inr (Or.inr rfl)) (hd : (v == ("__debug__" : Str)) = false := by decide) (hcd : (v == ("__classdict__" : Str)) = false := by decide)
    (hbase : attributeBase (.Name v p) "update" X.env (eval (.Name v p) X.env) = eval (.Name v p) X.env := by rfl)
    (hfew : ((backTo pos (starEach [e] X.env)).all (fun x => !x.1) && (backToKw pos (keywordEach [] X.env)).all (fun x => x.1.isSome) && decide ([e].length + ([] : List Keyword).length + (if ([] : List Keyword).isEmpty then 0 else 1) < 30)) = true := by rfl)
    (hline : (apos.endLine == pos.line) = true := by rfl) (hs : starEach [e] X.env = (false, eval e X.env) :: starEach [] X.env := by rfl) (hplain : (backTo pos (starEach [] X.env)).any (·.1) = false := by rfl) :
    NE X xf W C (.Call (.Attribute (.Name v p) "update" apos) [e] [] pos) (.upd i x) :=
  pe_imp (pe_bmI F.plainAttrs_dict F.slot_dict_update F.type_dict_update (mt_updI (by have := O.room.un; omega)) (pe_var hN hv hd hcd) (pa_cons h pa_nil hs) hbase hfew hline hs hplain) fun _ _ _ => r_upd
theorem n_emp (O : Cok X xf W C sg fr) (h : NE X xf W C e x) (hm : behindInMarks .Eq (.Dict [] [] p) = false := by first | exact nomark _ | with_unfolding_all rfl) : NT X xf W C (.Compare e [.Eq] [.Dict [] [] p] pos) (.emp x) :=
  pt_imp (pt_cmpR (op_eqI (by have := O.room.un; omega)) h pe_dnewR hm) fun _ _ _ => r_emp
end
end Dv
end
section
set_option Elab.async false
set_option linter.all false
set_option maxRecDepth 100000
set_option maxHeartbeats 2000000
/-! P1: what all laws share: drawing. -/
namespace Dv
open PySem L2
def fd_take : Fd := ⟨2, 7, [true, false], (.cons (.ife (.cmp .eq (.ix (.var 0) (.int 0)) (.int 0)) (.cons (.set 2 (.ix (.bin .add (.sl (.ix (.var 0) (.int 3)) (.some (.ix (.var 0) (.int 2))) .none) (.lst (.cons (.int 0) .nil))) (.int 0))) (.cons (.augIx (.var 0) (.int 2) .add (.int 1)) (.cons (.ife (.cmp .ge (.var 2) (.bin .pow (.int 10) (.int 18))) (.cons (.setIx (.var 0) (.int 0) (.var 2)) .nil) .nil) (.cons (.set 3 (.bin .add (.bin .add (.bin .mul (.ix (.var 0) (.int 1)) (.int 48271)) (.bin .mod (.bi .int (.cons (.var 2) .nil)) (.int 2147483647))) (.bin .mul (.int 7919) (.ix (.var 0) (.int 2))))) (.cons (.setIx (.var 0) (.int 1) (.bin .mod (.bi .int (.cons (.var 3) .nil)) (.int 2147483647))) .nil))))) .nil) (.cons (.ife (.cmp .gt (.ix (.var 0) (.int 0)) (.int 0)) (.cons (.set 4 (.bin .mod (.bi .int (.cons (.ix (.var 0) (.int 0)) .nil)) (.var 1))) (.cons (.setIx (.var 0) (.int 0) (.bin .fdiv (.bi .int (.cons (.ix (.var 0) (.int 0)) .nil)) (.var 1))) (.cons (.ret (.var 4)) .nil))) .nil) (.cons (.set 5 (.bin .mod (.bi .int (.cons (.bin .mul (.bin .add (.ix (.var 0) (.int 1)) (.int 1)) (.int 39373)) .nil)) (.int 1000000007))) (.cons (.set 6 (.bin .mod (.bi .int (.cons (.bin .mul (.bin .mod (.bi .int (.cons (.bin .mul (.var 5) (.var 5)) .nil)) (.int 998244353)) (.int 30011)) .nil)) (.int 998244353))) (.cons (.ret (.bin .mod (.bi .int (.cons (.bin .fdiv (.var 6) (.int 7)) .nil)) (.var 1))) .nil)))))⟩
/-- a bag of draws -/
abbrev bagD (b0 b1 b2 : Int) (cs : List Int) : D := .mls [.int b0, .int b1, .int b2, .lst (cs.map .int)]
section
variable {i j k : Int} {d e : D} {G : GEnv} {n : Nat} {C : Ctx} {α β : Type} {xs ys : List D}
theorem bind_ok {a : α} {f : α → GEnv → R β} : R.bind (.ok a G) f = f a G := rfl
theorem bind_ex {c : Str} {ds : List D} {f : α → GEnv → R β} : R.bind (.ex c ds G) f = .ex c ds G := rfl
theorem eqD_int (i j : Int) : eqD (.int i) (.int j) = some (decide (i = j)) := by
  have e : eqD (.int i) (.int j) = some (PyData.eqv (.int i) (.int j)) := rfl
  rw [e]
  rfl
theorem cmpD_eq : cmpD .eq d e = eqD d e := rfl
theorem cmpD_ne : cmpD .ne d e = (eqD d e).map not := rfl
theorem cmpD_lt : cmpD .lt (.int i) (.int j) = some (decide (i < j)) := rfl
theorem cmpD_le : cmpD .le (.int i) (.int j) = some (decide (i ≤ j)) := rfl
theorem cmpD_gt : cmpD .gt (.int i) (.int j) = some (decide (j < i)) := rfl
theorem cmpD_ge : cmpD .ge (.int i) (.int j) = some (decide (j ≤ i)) := rfl
theorem binD_add : binD .add (.int i) (.int j) = some (.int (i + j)) := rfl
theorem binD_sub : binD .sub (.int i) (.int j) = some (.int (i - j)) := rfl
theorem binD_mul (h : i.natAbs < 2 ^ 64 ∨ j.natAbs < 2 ^ 64) : binD .mul (.int i) (.int j) = some (.int (i * j)) := by
  show (if mulOk i j = true then some (D.int (i * j)) else none) = _
  rw [if_pos]
  unfold mulOk
  rw [Bool.or_eq_true, decide_eq_true_eq, decide_eq_true_eq]
  exact h
theorem binD_fdiv (h : 0 < j) (h2 : j < 1073741824) : binD .fdiv (.int i) (.int j) = some (.int (i / j)) := by
  show (if divOk j = true then some (D.int (i.fdiv j)) else none) = _
  rw [if_pos, Int.fdiv_eq_ediv_of_nonneg _ (by omega)]
  unfold divOk
  rw [Bool.and_eq_true, decide_eq_true_eq, decide_eq_true_eq]
  exact ⟨by omega, by omega⟩
theorem binD_mod (h : 0 < j) : binD .mod (.int i) (.int j) = some (.int (i % j)) := by
  show (if decide (j ≠ 0) = true then some (D.int (i.fmod j)) else none) = _
  rw [if_pos (by rw [decide_eq_true_eq]; omega), Int.fmod_eq_emod_of_nonneg _ (by omega)]
theorem binD_pow {b m : Nat} (hb : b < 2 ^ 64) (hm : m ≤ 1000000) : binD .pow (.int (b : Nat)) (.int (m : Nat)) = some (.int ((b : Int) ^ m)) := by
  show (if (decide ((0 : Int) ≤ (m : Int)) && decide ((m : Int) ≤ 1000000) && decide ((b : Int).natAbs < 2 ^ 64)) = true then some (D.int ((b : Int) ^ (m : Int).toNat)) else none) = _
  rw [if_pos]
  · rfl
  · rw [Bool.and_eq_true, Bool.and_eq_true, decide_eq_true_eq, decide_eq_true_eq, decide_eq_true_eq]
    exact ⟨⟨by omega, by omega⟩, by omega⟩
theorem lft_some : lft (some d) G = .ok (.val d) G := rfl
theorem deref_val : deref (.val d) G = some d := rfl
theorem deref_slot : deref (.slot n) G = getS G n := rfl
theorem getS_0 : getS (some d :: G) 0 = some d := rfl
theorem getS_s {x : Option D} : getS (x :: G) (n + 1) = getS G n := rfl
theorem own_val : own (.val d) G = some (d, G) := rfl
end
/-- the second half: a draw out of the number kept -/
theorem take_big {C : Ctx} {b0 b1 b2 many : Int} {cs : List Int} {x3 x4 : Option D} (hp2 : C.pr 2 = false) (hp4 : C.pr 4 = false) (hnp : C.np = 2) (h0 : 0 < b0) (hm : 0 < many) (hm2 : many < 1073741824) (x2 : Option D) (x5 x6 : Option D) (r : Stas) :
    ∃ v q, evSs C (.cons (.ife (.cmp .gt (.ix (.var 0) (.int 0)) (.int 0)) (.cons (.set 4 (.bin .mod (.bi .int (.cons (.ix (.var 0) (.int 0)) .nil)) (.var 1))) (.cons (.setIx (.var 0) (.int 0) (.bin .fdiv (.bi .int (.cons (.ix (.var 0) (.int 0)) .nil)) (.var 1))) (.cons (.ret (.var 4)) .nil))) .nil) r)
      [some (bagD b0 b1 b2 cs), some (.int many), x2, x3, x4, x5, x6] = .ok (.rt (.int v)) [some (bagD q b1 b2 cs), some (.int many), x2, x3, none, x5, x6] ∧ 0 ≤ v ∧ v < many ∧ 0 ≤ q := by
  refine ⟨b0 % many, b0 / many, ?_, Int.emod_nonneg _ (by omega), Int.emod_lt_of_pos _ hm, Int.ediv_nonneg (by omega) (by omega)⟩
  have ix0 : ∀ q : Int, ixD (bagD q b1 b2 cs) (.int 0) = some (.int q) := fun _ => rfl
  have set0 : ∀ q q' : Int, setIxD (bagD q b1 b2 cs) (.int 0) (.int q') = some (bagD q' b1 b2 cs) := fun _ _ => rfl
  have bi1 : ∀ q : Int, biD .int [.int q] = some (.int q) := fun _ => rfl
  simp [evSs, evS, evE, evEs, evT, bind_ok, cmpD_gt, binD_mod hm, binD_fdiv hm hm2, lft_some, deref_val, deref_slot, getS_0, getS_s, own_val, ix0, set0, bi1, derefs, hp4, hnp, h0, retV, take, D.fz]
theorem seq_nx {C : Ctx} {s : Sta} {r : Stas} {G G1 : GEnv} (h : evS C s G = .ok .nx G1) : evSs C (.cons s r) G = evSs C r G1 := by
  show (evS C s G).bind _ = _
  rw [h]
  rfl
theorem ife_t {C : Ctx} {c : Tst} {a b : Stas} {G G1 : GEnv} (h : evT C c G = .ok true G1) : evS C (.ife c a b) G = evSs C a G1 := by simp [evS, h, bind_ok]
theorem ife_f {C : Ctx} {c : Tst} {a b : Stas} {G G1 : GEnv} (h : evT C c G = .ok false G1) : evS C (.ife c a b) G = evSs C b G1 := by simp [evS, h, bind_ok]
/-- the last part: a draw out of the stirred number -/
theorem take_low {C : Ctx} {b0 b1 b2 many : Int} {cs : List Int} {x2 x3 x4 x5 x6 : Option D} (hp5 : C.pr 5 = false) (hp6 : C.pr 6 = false) (h0 : ¬ 0 < b0) (hm : 0 < many) :
    ∃ v G, evSs C (.cons (.ife (.cmp .gt (.ix (.var 0) (.int 0)) (.int 0)) (.cons (.set 4 (.bin .mod (.bi .int (.cons (.ix (.var 0) (.int 0)) .nil)) (.var 1))) (.cons (.setIx (.var 0) (.int 0) (.bin .fdiv (.bi .int (.cons (.ix (.var 0) (.int 0)) .nil)) (.var 1))) (.cons (.ret (.var 4)) .nil))) .nil) (.cons (.set 5 (.bin .mod (.bi .int (.cons (.bin .mul (.bin .add (.ix (.var 0) (.int 1)) (.int 1)) (.int 39373)) .nil)) (.int 1000000007))) (.cons (.set 6 (.bin .mod (.bi .int (.cons (.bin .mul (.bin .mod (.bi .int (.cons (.bin .mul (.var 5) (.var 5)) .nil)) (.int 998244353)) (.int 30011)) .nil)) (.int 998244353))) (.cons (.ret (.bin .mod (.bi .int (.cons (.bin .fdiv (.var 6) (.int 7)) .nil)) (.var 1))) .nil))))
      [some (bagD b0 b1 b2 cs), some (.int many), x2, x3, x4, x5, x6] = .ok (.rt (.int v)) G ∧ getS G 0 = some (bagD b0 b1 b2 cs) ∧ getS G 1 = some (.int many) ∧ G.length = 7 ∧ 0 ≤ v ∧ v < many := by
  have ix0 : ∀ q : Int, ixD (bagD q b1 b2 cs) (.int 0) = some (.int q) := fun _ => rfl
  have ix1 : ∀ q : Int, ixD (bagD q b1 b2 cs) (.int 1) = some (.int b1) := fun _ => rfl
  have bi1 : ∀ q : Int, biD .int [.int q] = some (.int q) := fun _ => rfl
  have e1 : evS C (.ife (.cmp .gt (.ix (.var 0) (.int 0)) (.int 0)) (.cons (.set 4 (.bin .mod (.bi .int (.cons (.ix (.var 0) (.int 0)) .nil)) (.var 1))) (.cons (.setIx (.var 0) (.int 0) (.bin .fdiv (.bi .int (.cons (.ix (.var 0) (.int 0)) .nil)) (.var 1))) (.cons (.ret (.var 4)) .nil))) .nil) [some (bagD b0 b1 b2 cs), some (.int many), x2, x3, x4, x5, x6] = .ok .nx [some (bagD b0 b1 b2 cs), some (.int many), x2, x3, x4, x5, x6] := by
    simp [evSs, evS, evE, evT, bind_ok, cmpD_gt, lft_some, deref_val, deref_slot, getS_0, ix0, h0]
  rw [seq_nx e1]
  obtain ⟨b, hb, hb0, hb1⟩ : ∃ b : Int, b = (b1 + 1) * 39373 % 1000000007 ∧ 0 ≤ b ∧ b < 1000000007 := ⟨_, rfl, Int.emod_nonneg _ (by decide), Int.emod_lt_of_pos _ (by decide)⟩
  have e2 : evS C (.set 5 (.bin .mod (.bi .int (.cons (.bin .mul (.bin .add (.ix (.var 0) (.int 1)) (.int 1)) (.int 39373)) .nil)) (.int 1000000007))) [some (bagD b0 b1 b2 cs), some (.int many), x2, x3, x4, x5, x6] = .ok .nx [some (bagD b0 b1 b2 cs), some (.int many), x2, x3, x4, some (.int b), x6] := by
    have m1 : binD .mul (.int (b1 + 1)) (.int 39373) = some (.int ((b1 + 1) * 39373)) := binD_mul (.inr (by decide))
    have m2 : binD .mod (.int ((b1 + 1) * 39373)) (.int 1000000007) = some (.int b) := by rw [binD_mod (by decide), hb]
    simp [evS, evE, evEs, bind_ok, lft_some, deref_val, deref_slot, getS_0, ix1, bi1, derefs, own_val, binD_add, m1, m2, hp5]
  rw [seq_nx e2]
  obtain ⟨q, hq, hq0, hq1⟩ : ∃ q : Int, q = b * b % 998244353 ∧ 0 ≤ q ∧ q < 998244353 := ⟨_, rfl, Int.emod_nonneg _ (by decide), Int.emod_lt_of_pos _ (by decide)⟩
  have e3 : evS C (.set 6 (.bin .mod (.bi .int (.cons (.bin .mul (.bin .mod (.bi .int (.cons (.bin .mul (.var 5) (.var 5)) .nil)) (.int 998244353)) (.int 30011)) .nil)) (.int 998244353))) [some (bagD b0 b1 b2 cs), some (.int many), x2, x3, x4, some (.int b), x6] =
      .ok .nx [some (bagD b0 b1 b2 cs), some (.int many), x2, x3, x4, some (.int b), some (.int (q * 30011 % 998244353))] := by
    have m1 : binD .mul (.int b) (.int b) = some (.int (b * b)) := binD_mul (.inl (by omega))
    have m2 : binD .mod (.int (b * b)) (.int 998244353) = some (.int q) := by rw [binD_mod (by decide), hq]
    have m3 : binD .mul (.int q) (.int 30011) = some (.int (q * 30011)) := binD_mul (.inl (by omega))
    have m4 : binD .mod (.int (q * 30011)) (.int 998244353) = some (.int (q * 30011 % 998244353)) := binD_mod (by decide)
    simp [evS, evE, evEs, bind_ok, lft_some, deref_val, deref_slot, getS_0, getS_s, bi1, derefs, own_val, m1, m2, m3, m4, hp6]
  rw [seq_nx e3]
  refine ⟨q * 30011 % 998244353 / 7 % many, [some (bagD b0 b1 b2 cs), some (.int many), x2, x3, x4, some (.int b), some (.int (q * 30011 % 998244353))], ?_, rfl, rfl, rfl, Int.emod_nonneg _ (by omega), Int.emod_lt_of_pos _ hm⟩
  have m1 : binD .fdiv (.int (q * 30011 % 998244353)) (.int 7) = some (.int (q * 30011 % 998244353 / 7)) := binD_fdiv (by decide) (by decide)
  simp [evSs, evS, evE, evEs, bind_ok, lft_some, deref_val, deref_slot, getS_0, getS_s, bi1, derefs, m1, binD_mod hm, retV]
theorem cut_ints {cs : List Int} {lo hi : Option Int} : ∃ l : List Int, cutD (cs.map D.int) lo hi = l.map D.int ∧ l.length ≤ cs.length ∧ ∀ x ∈ l, x ∈ cs := by
  refine ⟨(cs.drop (HT.sIx cs.length 0 lo)).take (HT.sIx cs.length cs.length hi - HT.sIx cs.length 0 lo), ?_, ?_, fun x hx => List.mem_of_mem_drop (List.mem_of_mem_take hx)⟩
  · unfold cutD
    rw [List.length_map, ← List.map_drop, ← List.map_take]
  · rw [List.length_take, List.length_drop]
    omega
/-- the first part: a cell is read -/
theorem take_cell {C : Ctx} {b1 b2 many : Int} {cs : List Int} {x2 x3 x4 x5 x6 : Option D} (hp2 : C.pr 2 = false) (hp3 : C.pr 3 = false) (hb2 : 0 ≤ b2) (hc : ∀ x ∈ cs, 0 ≤ x) (hl : cs.length ≤ 63) :
    ∃ (q b : Int) (y2 y3 : Option D), evS C (.ife (.cmp .eq (.ix (.var 0) (.int 0)) (.int 0)) (.cons (.set 2 (.ix (.bin .add (.sl (.ix (.var 0) (.int 3)) (.some (.ix (.var 0) (.int 2))) .none) (.lst (.cons (.int 0) .nil))) (.int 0))) (.cons (.augIx (.var 0) (.int 2) .add (.int 1)) (.cons (.ife (.cmp .ge (.var 2) (.bin .pow (.int 10) (.int 18))) (.cons (.setIx (.var 0) (.int 0) (.var 2)) .nil) .nil) (.cons (.set 3 (.bin .add (.bin .add (.bin .mul (.ix (.var 0) (.int 1)) (.int 48271)) (.bin .mod (.bi .int (.cons (.var 2) .nil)) (.int 2147483647))) (.bin .mul (.int 7919) (.ix (.var 0) (.int 2))))) (.cons (.setIx (.var 0) (.int 1) (.bin .mod (.bi .int (.cons (.var 3) .nil)) (.int 2147483647))) .nil))))) .nil)
      [some (bagD 0 b1 b2 cs), some (.int many), x2, x3, x4, x5, x6] = .ok .nx [some (bagD q b (b2 + 1) cs), some (.int many), y2, y3, x4, x5, x6] ∧ 0 ≤ q := by
  obtain ⟨l, hl1, hl2, hl3⟩ := cut_ints (cs := cs) (lo := some b2) (hi := none)
  obtain ⟨c, hc1, hc0⟩ : ∃ c : Int, L2.atI (l.map D.int ++ [D.int 0]) 0 = some (.int c) ∧ 0 ≤ c := by
    cases l with
    | nil => exact ⟨0, rfl, Int.le_refl _⟩
    | cons x t =>
      refine ⟨x, ?_, hc x (hl3 x List.mem_cons_self)⟩
      unfold L2.atI L2.ixN
      rw [if_pos (by decide), if_pos (by simp; omega)]
      rfl
  have ix0 : ∀ q b u : Int, ixD (bagD q b u cs) (.int 0) = some (.int q) := fun _ _ _ => rfl
  have ix1 : ∀ q b u : Int, ixD (bagD q b u cs) (.int 1) = some (.int b) := fun _ _ _ => rfl
  have ix2 : ∀ q b u : Int, ixD (bagD q b u cs) (.int 2) = some (.int u) := fun _ _ _ => rfl
  have ix3 : ∀ q b u : Int, ixD (bagD q b u cs) (.int 3) = some (.lst (cs.map .int)) := fun _ _ _ => rfl
  have il2 : ∀ q b u : Int, ixL (bagD q b u cs) (.int 2) = some (.int u) := fun _ _ _ => rfl
  have set0 : ∀ q q' b u : Int, setIxD (bagD q b u cs) (.int 0) (.int q') = some (bagD q' b u cs) := fun _ _ _ _ => rfl
  have set1 : ∀ q b b' u : Int, setIxD (bagD q b u cs) (.int 1) (.int b') = some (bagD q b' u cs) := fun _ _ _ _ => rfl
  have set2 : ∀ q b u u' : Int, setIxD (bagD q b u cs) (.int 2) (.int u') = some (bagD q b u' cs) := fun _ _ _ _ => rfl
  have bi1 : ∀ q : Int, biD .int [.int q] = some (.int q) := fun _ => rfl
  have pw : binD .pow (.int 10) (.int 18) = some (.int (10 ^ 18)) := binD_pow (b := 10) (m := 18) (by decide) (by decide)
  have cat : binD .add (.mls (l.map D.int)) (.mls [.int 0]) = some (.mls (l.map D.int ++ [.int 0])) := by
    show (if (l.map D.int).length + [D.int 0].length ≤ sizeLine then some (D.mls (l.map D.int ++ [.int 0])) else none) = _
    rw [if_pos]
    rw [List.length_map]
    show l.length + 1 ≤ 16777216
    omega
  have ixc : ixD (.mls (l.map D.int ++ [.int 0])) (.int 0) = some (.int c) := hc1
  have sl : slD (.lst (cs.map .int)) (some b2) none = some (.mls (l.map .int)) := by
    show some (D.mls (cutD (cs.map D.int) (some b2) none)) = _
    rw [hl1]
  -- the statements
  have e1 : evS C (.set 2 (.ix (.bin .add (.sl (.ix (.var 0) (.int 3)) (.some (.ix (.var 0) (.int 2))) .none) (.lst (.cons (.int 0) .nil))) (.int 0))) [some (bagD 0 b1 b2 cs), some (.int many), x2, x3, x4, x5, x6] = .ok .nx [some (bagD 0 b1 b2 cs), some (.int many), some (.int c), x3, x4, x5, x6] := by
    simp [evS, evE, evEs, evO, bind_ok, lft_some, deref_val, deref_slot, getS_0, ix2, ix3, sl, cat, ixc, takes, take, D.fz, own_val, hp2, lenOk, sizeLine]
  have e2 : evS C (.augIx (.var 0) (.int 2) .add (.int 1)) [some (bagD 0 b1 b2 cs), some (.int many), some (.int c), x3, x4, x5, x6] = .ok .nx [some (bagD 0 b1 (b2 + 1) cs), some (.int many), some (.int c), x3, x4, x5, x6] := by
    simp [evS, evE, bind_ok, deref_val, deref_slot, getS_0, il2, set2, augI]
  obtain ⟨q, hq0, e3⟩ : ∃ q : Int, 0 ≤ q ∧ evS C (.ife (.cmp .ge (.var 2) (.bin .pow (.int 10) (.int 18))) (.cons (.setIx (.var 0) (.int 0) (.var 2)) .nil) .nil) [some (bagD 0 b1 (b2 + 1) cs), some (.int many), some (.int c), x3, x4, x5, x6] = .ok .nx [some (bagD q b1 (b2 + 1) cs), some (.int many), some (.int c), x3, x4, x5, x6] := by
    have e10 : (10 : Int) ^ 18 = 1000000000000000000 := by decide
    rw [e10] at pw
    by_cases hg : (1000000000000000000 : Int) ≤ c
    · refine ⟨c, hc0, ?_⟩
      simp [evSs, evS, evE, evT, bind_ok, deref_val, deref_slot, getS_0, getS_s, lft_some, pw, cmpD_ge, take, D.fz, set0, hg]
    · refine ⟨0, Int.le_refl _, ?_⟩
      simp [evSs, evS, evE, evT, bind_ok, deref_val, deref_slot, getS_0, getS_s, lft_some, pw, cmpD_ge, take, D.fz, set0, hg]
  have m1 : binD .mul (.int b1) (.int 48271) = some (.int (b1 * 48271)) := binD_mul (.inr (by decide))
  have m2 : binD .mod (.int c) (.int 2147483647) = some (.int (c % 2147483647)) := binD_mod (by decide)
  have m3 : binD .mul (.int 7919) (.int (b2 + 1)) = some (.int (7919 * (b2 + 1))) := binD_mul (.inl (by decide))
  have e4 : evS C (.set 3 (.bin .add (.bin .add (.bin .mul (.ix (.var 0) (.int 1)) (.int 48271)) (.bin .mod (.bi .int (.cons (.var 2) .nil)) (.int 2147483647))) (.bin .mul (.int 7919) (.ix (.var 0) (.int 2))))) [some (bagD q b1 (b2 + 1) cs), some (.int many), some (.int c), x3, x4, x5, x6] =
      .ok .nx [some (bagD q b1 (b2 + 1) cs), some (.int many), some (.int c), some (.int (b1 * 48271 + c % 2147483647 + 7919 * (b2 + 1))), x4, x5, x6] := by
    simp [evS, evE, evEs, bind_ok, lft_some, deref_val, deref_slot, getS_0, getS_s, ix1, ix2, bi1, derefs, own_val, binD_add, m1, m2, m3, hp3]
  have m4 : binD .mod (.int (b1 * 48271 + c % 2147483647 + 7919 * (b2 + 1))) (.int 2147483647) = some (.int ((b1 * 48271 + c % 2147483647 + 7919 * (b2 + 1)) % 2147483647)) := binD_mod (by decide)
  have e5 : evS C (.setIx (.var 0) (.int 1) (.bin .mod (.bi .int (.cons (.var 3) .nil)) (.int 2147483647))) [some (bagD q b1 (b2 + 1) cs), some (.int many), some (.int c), some (.int (b1 * 48271 + c % 2147483647 + 7919 * (b2 + 1))), x4, x5, x6] =
      .ok .nx [some (bagD q ((b1 * 48271 + c % 2147483647 + 7919 * (b2 + 1)) % 2147483647) (b2 + 1) cs), some (.int many), some (.int c), some (.int (b1 * 48271 + c % 2147483647 + 7919 * (b2 + 1))), x4, x5, x6] := by
    simp [evS, evE, evEs, bind_ok, lft_some, deref_val, deref_slot, getS_0, getS_s, bi1, derefs, m4, take, D.fz, set1]
  refine ⟨q, (b1 * 48271 + c % 2147483647 + 7919 * (b2 + 1)) % 2147483647, some (.int c), some (.int (b1 * 48271 + c % 2147483647 + 7919 * (b2 + 1))), ?_, hq0⟩
  have ec : evT C (.cmp .eq (.ix (.var 0) (.int 0)) (.int 0)) [some (bagD 0 b1 b2 cs), some (.int many), x2, x3, x4, x5, x6] = .ok true [some (bagD 0 b1 b2 cs), some (.int many), x2, x3, x4, x5, x6] := by
    simp [evT, evE, bind_ok, lft_some, deref_val, deref_slot, getS_0, ix0, cmpD_eq, eqD_int]
  rw [ife_t ec, seq_nx e1, seq_nx e2, seq_nx e3, seq_nx e4, seq_nx e5]
  simp [evSs]
/-- a bag that is well -/
def BagOk (d : D) : Prop := ∃ (b0 b1 b2 : Int) (cs : List Int), d = bagD b0 b1 b2 cs ∧ 0 ≤ b0 ∧ 0 ≤ b2 ∧ (∀ x ∈ cs, 0 ≤ x) ∧ cs.length ≤ 63
theorem take_spec {PR : Prog} {n : Nat} {bag : D} {many : Int} (hl : PR.lookup ("_law_take" : Str) = some fd_take) (hb : BagOk bag) (hm : 0 < many) (hm2 : many < 1073741824) :
    ∃ v bag', evF PR (n + 1) "_law_take" [bag, .int many] = .ret (.int v) [bag', .int many] ∧ BagOk bag' ∧ 0 ≤ v ∧ v < many := by
  obtain ⟨b0, b1, b2, cs, rfl, h0, h2, hc, hcl⟩ := hb
  rw [lookup_evF hl]
  let C : Ctx := ⟨evF PR n, modes PR, fun i => fd_take.md.getD i false, fd_take.np⟩
  have e : runB PR (evF PR n) fd_take [bagD b0 b1 b2 cs, .int many] = (match evSs C fd_take.body [some (bagD b0 b1 b2 cs), some (.int many), none, none, none, none, none] with
    | .ok (.rt d) G => retF d (firsts fd_take.md fd_take.np G)
    | .ok .nx G => retF .non (firsts fd_take.md fd_take.np G)
    | .ex c es G => excF c es (firsts fd_take.md fd_take.np G)
    | _ => .no) := rfl
  rw [e]
  have fin : ∀ {q b u v : Int} {G : GEnv}, getS G 0 = some (bagD q b u cs) → getS G 1 = some (.int many) → retF (.int v) (firsts fd_take.md fd_take.np G) = .ret (.int v) [bagD q b u cs, .int many] := fun {q b u v G} g0 g1 => by
    have g1' : getS G.tail 0 = some (.int many) := by
      cases G with
      | nil => cases g0
      | cons x r => exact g1
    simp [fd_take, firsts, g0, g1', retF]
  -- behind the first statement
  have go : ∀ {q b u : Int} {y2 y3 : Option D}, 0 ≤ q → 0 ≤ u → evS C (.ife (.cmp .eq (.ix (.var 0) (.int 0)) (.int 0)) (.cons (.set 2 (.ix (.bin .add (.sl (.ix (.var 0) (.int 3)) (.some (.ix (.var 0) (.int 2))) .none) (.lst (.cons (.int 0) .nil))) (.int 0))) (.cons (.augIx (.var 0) (.int 2) .add (.int 1)) (.cons (.ife (.cmp .ge (.var 2) (.bin .pow (.int 10) (.int 18))) (.cons (.setIx (.var 0) (.int 0) (.var 2)) .nil) .nil) (.cons (.set 3 (.bin .add (.bin .add (.bin .mul (.ix (.var 0) (.int 1)) (.int 48271)) (.bin .mod (.bi .int (.cons (.var 2) .nil)) (.int 2147483647))) (.bin .mul (.int 7919) (.ix (.var 0) (.int 2))))) (.cons (.setIx (.var 0) (.int 1) (.bin .mod (.bi .int (.cons (.var 3) .nil)) (.int 2147483647))) .nil))))) .nil)
      [some (bagD b0 b1 b2 cs), some (.int many), none, none, none, none, none] = .ok .nx [some (bagD q b u cs), some (.int many), y2, y3, none, none, none] →
      ∃ v bag', (match evSs C fd_take.body [some (bagD b0 b1 b2 cs), some (.int many), none, none, none, none, none] with
        | .ok (.rt d) G => retF d (firsts fd_take.md fd_take.np G)
        | .ok .nx G => retF .non (firsts fd_take.md fd_take.np G)
        | .ex c es G => excF c es (firsts fd_take.md fd_take.np G)
        | _ => .no) = .ret (.int v) [bag', .int many] ∧ BagOk bag' ∧ 0 ≤ v ∧ v < many := by
    intro q b u y2 y3 hq hu h
    have hbody := seq_nx (r := (.cons (.ife (.cmp .gt (.ix (.var 0) (.int 0)) (.int 0)) (.cons (.set 4 (.bin .mod (.bi .int (.cons (.ix (.var 0) (.int 0)) .nil)) (.var 1))) (.cons (.setIx (.var 0) (.int 0) (.bin .fdiv (.bi .int (.cons (.ix (.var 0) (.int 0)) .nil)) (.var 1))) (.cons (.ret (.var 4)) .nil))) .nil) (.cons (.set 5 (.bin .mod (.bi .int (.cons (.bin .mul (.bin .add (.ix (.var 0) (.int 1)) (.int 1)) (.int 39373)) .nil)) (.int 1000000007))) (.cons (.set 6 (.bin .mod (.bi .int (.cons (.bin .mul (.bin .mod (.bi .int (.cons (.bin .mul (.var 5) (.var 5)) .nil)) (.int 998244353)) (.int 30011)) .nil)) (.int 998244353))) (.cons (.ret (.bin .mod (.bi .int (.cons (.bin .fdiv (.var 6) (.int 7)) .nil)) (.var 1))) .nil))))) h
    have hbody' : evSs C fd_take.body [some (bagD b0 b1 b2 cs), some (.int many), none, none, none, none, none] = _ := hbody
    rw [hbody']
    by_cases hq2 : 0 < q
    · obtain ⟨v, q', e1, v0, v1, q0⟩ := take_big (C := C) (b1 := b) (b2 := u) (cs := cs) (x3 := y3) (x4 := none) rfl rfl rfl hq2 hm hm2 y2 none none (.cons (.set 5 (.bin .mod (.bi .int (.cons (.bin .mul (.bin .add (.ix (.var 0) (.int 1)) (.int 1)) (.int 39373)) .nil)) (.int 1000000007))) (.cons (.set 6 (.bin .mod (.bi .int (.cons (.bin .mul (.bin .mod (.bi .int (.cons (.bin .mul (.var 5) (.var 5)) .nil)) (.int 998244353)) (.int 30011)) .nil)) (.int 998244353))) (.cons (.ret (.bin .mod (.bi .int (.cons (.bin .fdiv (.var 6) (.int 7)) .nil)) (.var 1))) .nil)))
      rw [e1]
      exact ⟨v, bagD q' b u cs, fin rfl rfl, ⟨q', b, u, cs, rfl, q0, hu, hc, hcl⟩, v0, v1⟩
    · obtain ⟨v, G', e1, g0, g1, _, v0, v1⟩ := take_low (C := C) (b1 := b) (b2 := u) (cs := cs) (x2 := y2) (x3 := y3) (x4 := none) (x5 := none) (x6 := none) rfl rfl hq2 hm
      rw [e1]
      exact ⟨v, bagD q b u cs, fin g0 g1, ⟨q, b, u, cs, rfl, hq, hu, hc, hcl⟩, v0, v1⟩
  by_cases hz : b0 = 0
  · subst hz
    obtain ⟨q, b, y2, y3, e1, hq⟩ := take_cell (C := C) (b1 := b1) (b2 := b2) (many := many) (cs := cs) (x2 := none) (x3 := none) (x4 := none) (x5 := none) (x6 := none) rfl rfl h2 hc hcl
    exact go hq (by omega) e1
  · refine go (b := b1) (y2 := none) (y3 := none) h0 h2 ?_
    have ix0 : ∀ q b u : Int, ixD (bagD q b u cs) (.int 0) = some (.int q) := fun _ _ _ => rfl
    simp [evSs, evS, evE, evT, bind_ok, lft_some, deref_val, deref_slot, getS_0, ix0, cmpD_eq, eqD_int, hz]
end Dv
end
section
set_option Elab.async false
set_option linter.all false
set_option maxRecDepth 100000
set_option maxHeartbeats 2000000
/-! P2: comprehensions and loops in plain Lean; rows. -/
namespace Dv
open PySem L2
section
variable {α : Type} {C : Ctx} {G G1 : GEnv}
theorem compL_map {b : D → GEnv → R (Option D)} {g f : α → D} : ∀ {l : List α}, (∀ x ∈ l, b (g x) G = .ok (some (f x)) G) → compL b (l.map g) G = .ok (l.map f) G
  | [], _ => rfl
  | x :: l, h => by
    have e : compL b (g x :: l.map g) G = (noEx (b (g x) G)).bind fun o G1 => (compL b (l.map g) G1).bind fun r G2 => .ok (match o with | some x => x :: r | none => r) G2 := rfl
    rw [List.map_cons, e, h x List.mem_cons_self]
    show (compL b (l.map g) G).bind _ = _
    rw [compL_map fun y hy => h y (List.mem_cons_of_mem _ hy)]
    rfl
theorem compL_filter {b : D → GEnv → R (Option D)} {g f : α → D} {p : α → Bool} : ∀ {l : List α}, (∀ x ∈ l, b (g x) G = .ok (if p x = true then some (f x) else none) G) → compL b (l.map g) G = .ok ((l.filter p).map f) G
  | [], _ => rfl
  | x :: l, h => by
    have e : compL b (g x :: l.map g) G = (noEx (b (g x) G)).bind fun o G1 => (compL b (l.map g) G1).bind fun r G2 => .ok (match o with | some x => x :: r | none => r) G2 := rfl
    rw [List.map_cons, e, h x List.mem_cons_self]
    show (compL b (l.map g) G).bind _ = _
    rw [compL_filter fun y hy => h y (List.mem_cons_of_mem _ hy)]
    by_cases hp : p x = true
    · rw [List.filter_cons_of_pos hp, if_pos hp]; rfl
    · rw [List.filter_cons_of_neg hp, if_neg hp]; rfl
/-- a comprehension without a test -/
theorem ev_comp0 {own : List Nat} {tg : Tgt} {it : Ite} {el : Exp} {l : List α} {g f : α → D} (hi : evI C it G = .ok (l.map g) G1) (hb : ∀ x ∈ l, compB own tg none (evE C el) (g x) (wipeG own G1) = .ok (some (f x)) (wipeG own G1)) (hk : l.length ≤ sizeLine) :
    evE C (.comp own tg it .none el) G = .ok (.val (.mls (l.map f))) (restG own G1 (wipeG own G1)) := by
  have e : evE C (.comp own tg it .none el) G = (evI C it G).bind fun xs G1 => (compL (compB own tg none (evE C el)) xs (wipeG own G1)).bind fun ys G2 => if lenOk ys then .ok (.val (.mls ys)) (restG own G1 G2) else .no := rfl
  rw [e, hi]
  show (compL _ _ _).bind _ = _
  rw [compL_map hb]
  show (if lenOk (l.map f) = true then _ else _) = _
  rw [if_pos (by unfold lenOk; rw [decide_eq_true_eq, List.length_map]; exact hk)]
theorem ev_comp1 {own : List Nat} {tg : Tgt} {it : Ite} {t : Tst} {el : Exp} {l : List α} {g f : α → D} {p : α → Bool} (hi : evI C it G = .ok (l.map g) G1) (hb : ∀ x ∈ l, compB own tg (some (evT C t)) (evE C el) (g x) (wipeG own G1) = .ok (if p x = true then some (f x) else none) (wipeG own G1)) (hk : l.length ≤ sizeLine) :
    evE C (.comp own tg it (.some t) el) G = .ok (.val (.mls ((l.filter p).map f))) (restG own G1 (wipeG own G1)) := by
  have e : evE C (.comp own tg it (.some t) el) G = (evI C it G).bind fun xs G1 => (compL (compB own tg (some (evT C t)) (evE C el)) xs (wipeG own G1)).bind fun ys G2 => if lenOk ys then .ok (.val (.mls ys)) (restG own G1 G2) else .no := rfl
  rw [e, hi]
  show (compL _ _ _).bind _ = _
  rw [compL_filter hb]
  show (if lenOk ((l.filter p).map f) = true then _ else _) = _
  rw [if_pos (by unfold lenOk; rw [decide_eq_true_eq, List.length_map]; exact Nat.le_trans (List.length_filter_le _ _) hk)]
end
/-! ### steps -/
section
variable {C : Ctx} {G G1 G2 : GEnv} {e : Exp} {x : RV} {d r : D} {rs : Stas}
theorem ev_ret (h : evE C e G = .ok x G1) (h2 : retV C x G1 = some (d, G2)) : evSs C (.cons (.ret e) rs) G = .ok (.rt d) G2 := by
  have h3 : evS C (.ret e) G = .ok (.rt d) G2 := by
    have q : evS C (.ret e) G = (evE C e G).bind fun x G1 => match retV C x G1 with
      | some (d, G2) => .ok (.rt d) G2
      | none => .no := rfl
    rw [q, h, bind_ok, h2]
  have q : evSs C (.cons (.ret e) rs) G = (evS C (.ret e) G).bind fun f G1 => match f with
    | .nx => evSs C rs G1
    | f => .ok f G1 := rfl
  rw [q, h3]
  rfl
theorem ev_set {i : Nat} (hp : C.pr i = false) (h : evE C e G = .ok x G1) (h2 : own x G1 = some (d, G2)) (hi : i < G2.length) : evS C (.set i e) G = .ok .nx (G2.set i (some d)) := by
  have q : evS C (.set i e) G = (if C.pr i = true then .no else (evE C e G).bind fun x G1 => match own x G1 with
    | some (d, G2) => if i < G2.length then .ok .nx (G2.set i (some d)) else .no
    | none => .no) := rfl
  rw [q, if_neg (by rw [hp]; exact Bool.false_ne_true), h, bind_ok, h2]
  show (if i < G2.length then _ else _) = _
  rw [if_pos hi]
theorem ev_col {c : Col} (h : evE C e G = .ok x G1) (h2 : take x G1 = some (d, G2)) (h3 : colD c d = some r) : evE C (.col c e) G = .ok (.val r) G2 := by
  have q : evE C (.col c e) G = (evE C e G).bind fun x G1 => match take x G1 with
    | some (d, G2) => lft (colD c d) G2
    | none => .no := rfl
  rw [q, h, bind_ok, h2]
  show lft (colD c d) G2 = _
  rw [h3]
  rfl
theorem ev_bi1 {b : Bi} (h : evE C e G = .ok x G1) (h2 : deref x G1 = some d) (h3 : biD b [d] = some r) : evE C (.bi b (.cons e .nil)) G = .ok (.val r) G1 := by
  have q : evE C (.bi b (.cons e .nil)) G = (evEs C (.cons e .nil) G).bind fun rvs G1 => match derefs rvs G1 with
    | some ds => lft (biD b ds) G1
    | none => .no := rfl
  have q2 : evEs C (.cons e .nil) G = (evE C e G).bind fun x G1 => (evEs C .nil G1).bind fun xs G2 => .ok (x :: xs) G2 := rfl
  have q3 : derefs [x] G1 = some [d] := by
    show (match deref x G1, (some [] : Option (List D)) with
      | some d, some ds => some (d :: ds)
      | _, _ => none) = _
    rw [h2]
  rw [q, q2, h]
  show (match derefs [x] G1 with
    | some ds => lft (biD b ds) G1
    | none => .no) = _
  rw [q3]
  show lft (biD b [d]) G1 = _
  rw [h3]
  rfl
theorem ev_run {PR : Prog} {n : Nat} {f : Str} {fd : Fd} {args as : List D} (hl : PR.lookup f = some fd) (hn : args.length = fd.np) (hs : fd.np ≤ fd.ns)
    (h : evSs ⟨evF PR n, modes PR, fun i => fd.md.getD i false, fd.np⟩ fd.body (args.map some ++ List.replicate (fd.ns - fd.np) none) = .ok (.rt d) G) (ha : firsts fd.md fd.np G = some as) : evF PR (n + 1) f args = .ret d as := by
  rw [lookup_evF hl]
  have e : runB PR (evF PR n) fd args = (if args.length = fd.np ∧ fd.np ≤ fd.ns then (match evSs ⟨evF PR n, modes PR, fun i => fd.md.getD i false, fd.np⟩ fd.body (args.map some ++ List.replicate (fd.ns - fd.np) none) with
    | .ok (.rt d) G => retF d (firsts fd.md fd.np G)
    | .ok .nx G => retF .non (firsts fd.md fd.np G)
    | .ex c es G => excF c es (firsts fd.md fd.np G)
    | _ => .no) else .no) := rfl
  rw [e, if_pos ⟨hn, hs⟩, h]
  show retF d (firsts fd.md fd.np G) = _
  rw [ha]
  rfl
end
theorem colT_mls {l : List D} (h : l.length ≤ sizeLine) : colD .tuple (.lst l) = some (.tup l) := by
  show (if lenOk l = true then some (D.tup l) else none) = _
  rw [if_pos (by unfold lenOk; rw [decide_eq_true_eq]; exact h)]
theorem fzs_map {α : Type} {f : α → D} (h : ∀ x, (f x).fz = f x) : ∀ l : List α, D.fzs (l.map f) = l.map f
  | [] => rfl
  | x :: l => by
    show D.fz (f x) :: D.fzs (l.map f) = _
    rw [h, fzs_map h l]
    rfl
/-! ### rows -/
abbrev rowD (r : List Int) : D := .tup (r.map .int)
theorem zip_rows {a b : List Int} : zipD (a.map D.int) (b.map D.int) = (a.zip b).map fun p => .tup [.int p.1, .int p.2] := by
  unfold zipD
  rw [List.zip_map, List.map_map]
  rfl
def fd_plus : Fd := ⟨2, 4, [false, false], (.cons (.ret (.col .tuple (.comp [2, 3] (.tup (.cons (.name 2) (.cons (.name 3) .nil))) (.zip (.cons (.var 0) (.cons (.var 1) .nil))) .none (.bin .add (.var 2) (.var 3))))) .nil)⟩
def fd_less : Fd := ⟨2, 4, [false, false], (.cons (.ret (.col .tuple (.comp [2, 3] (.tup (.cons (.name 2) (.cons (.name 3) .nil))) (.zip (.cons (.var 0) (.cons (.var 1) .nil))) .none (.bin .sub (.var 2) (.var 3))))) .nil)⟩
def plusR (a b : List Int) : List Int := (a.zip b).map fun p => p.1 + p.2
def lessR (a b : List Int) : List Int := (a.zip b).map fun p => p.1 - p.2
theorem ev_zip2 {C : Ctx} {a b : List Int} : evI C (.zip (.cons (.var 0) (.cons (.var 1) .nil))) [some (rowD a), some (rowD b), none, none] = .ok ((a.zip b).map fun p => .tup [.int p.1, .int p.2]) [some (rowD a), some (rowD b), none, none] := by
  simp [evI, evEs, evE, bind_ok, getS_0, getS_s, takes, take, D.fz, on2, zipX, listOf, tupOf, zip_rows]
theorem ev_plus {PR : Prog} {n : Nat} {a b : List Int} (hl : PR.lookup ("_law_plus" : Str) = some fd_plus) (hk : a.length ≤ sizeLine) : evF PR (n + 1) "_law_plus" [rowD a, rowD b] = .ret (rowD (plusR a b)) [rowD a, rowD b] := by
  have hle : (a.zip b).length ≤ sizeLine := by rw [List.length_zip]; omega
  refine ev_run hl rfl (by decide) (ev_ret (ev_col (ev_comp0 (f := fun p => .int (p.1 + p.2)) ev_zip2 (fun x hx => by
    simp [compB, asgG, asgsG, evE, bind_ok, getS_0, getS_s, deref_slot, binD_add, lft_some, take, D.fz, wipeG]) hle) rfl ?_) rfl) rfl
  show colD .tuple (.lst (D.fzs _)) = _
  rw [fzs_map (fun _ => rfl), colT_mls (by rw [List.length_map]; exact hle)]
  show some (D.tup _) = some (D.tup (List.map D.int (List.map _ _)))
  rw [List.map_map]
  rfl
theorem ev_less {PR : Prog} {n : Nat} {a b : List Int} (hl : PR.lookup ("_law_less" : Str) = some fd_less) (hk : a.length ≤ sizeLine) : evF PR (n + 1) "_law_less" [rowD a, rowD b] = .ret (rowD (lessR a b)) [rowD a, rowD b] := by
  have hle : (a.zip b).length ≤ sizeLine := by rw [List.length_zip]; omega
  refine ev_run hl rfl (by decide) (ev_ret (ev_col (ev_comp0 (f := fun p => .int (p.1 - p.2)) ev_zip2 (fun x hx => by
    simp [compB, asgG, asgsG, evE, bind_ok, getS_0, getS_s, deref_slot, binD_sub, lft_some, take, D.fz, wipeG]) hle) rfl ?_) rfl) rfl
  show colD .tuple (.lst (D.fzs _)) = _
  rw [fzs_map (fun _ => rfl), colT_mls (by rw [List.length_map]; exact hle)]
  show some (D.tup _) = some (D.tup (List.map D.int (List.map _ _)))
  rw [List.map_map]
  rfl
/-! ### worth -/
abbrev coinD (vs caps : List Int) : D := .tup [rowD vs, rowD caps]
def worthR (vs r : List Int) : Int := ((vs.zip r).map fun p => p.1 * p.2).sum
def fd_worth : Fd := ⟨2, 4, [false, false], (.cons (.ret (.bi .sum (.cons (.comp [2, 3] (.tup (.cons (.name 2) (.cons (.name 3) .nil))) (.zip (.cons (.ix (.var 0) (.int 0)) (.cons (.var 1) .nil))) .none (.bin .mul (.var 2) (.var 3))) .nil))) .nil)⟩
theorem intsOf_map : ∀ l : List Int, intsOf (l.map D.int) = some l
  | [] => rfl
  | x :: l => by
    show (intsOf (l.map D.int)).map (x :: ·) = _
    rw [intsOf_map l]
    rfl
theorem ev_worth {PR : Prog} {n : Nat} {vs caps r : List Int} (hl : PR.lookup ("_law_worth" : Str) = some fd_worth) (hk : vs.length ≤ sizeLine) (hv : ∀ v ∈ vs, v.natAbs < 2 ^ 64) : evF PR (n + 1) "_law_worth" [coinD vs caps, rowD r] = .ret (.int (worthR vs r)) [coinD vs caps, rowD r] := by
  have hle : (vs.zip r).length ≤ sizeLine := by rw [List.length_zip]; omega
  have ix0 : ixD (coinD vs caps) (.int 0) = some (rowD vs) := rfl
  have hz : evI ⟨evF PR n, modes PR, fun i => fd_worth.md.getD i false, fd_worth.np⟩ (.zip (.cons (.ix (.var 0) (.int 0)) (.cons (.var 1) .nil))) [some (coinD vs caps), some (rowD r), none, none] = .ok ((vs.zip r).map fun p => .tup [.int p.1, .int p.2]) [some (coinD vs caps), some (rowD r), none, none] := by
    simp [evI, evEs, evE, bind_ok, getS_0, getS_s, deref_val, deref_slot, lft_some, ix0, takes, take, D.fz, on2, zipX, listOf, tupOf, zip_rows]
  refine ev_run hl rfl (by decide) (ev_ret (ev_bi1 (ev_comp0 (f := fun p => .int (p.1 * p.2)) hz (fun x hx => by
    have hx' : x.1.natAbs < 2 ^ 64 := hv _ (List.of_mem_zip hx).1
    simp [compB, asgG, asgsG, evE, bind_ok, getS_0, getS_s, deref_slot, binD_mul (.inl hx'), lft_some, take, D.fz, wipeG]) hle) rfl ?_) rfl) rfl
  show sumD (.mls _) = _
  have e : ((vs.zip r).map fun p : Int × Int => D.int (p.1 * p.2)) = ((vs.zip r).map fun p => p.1 * p.2).map D.int := by rw [List.map_map]; rfl
  rw [e]
  show ((intsOf _).map fun ns => D.int ns.sum) = _
  rw [intsOf_map]
  rfl
/-! ### the bag, a thing drawn -/
def fd_some : Fd := ⟨2, 2, [true, false], (.cons (.ret (.ix (.var 1) (.call "_law_take" (.cons (.var 0) (.cons (.bi .len (.cons (.var 1) .nil)) .nil))))) .nil)⟩
theorem some_spec {PR : Prog} {n : Nat} {bag : D} {things : List D} (hl : PR.lookup ("_law_some" : Str) = some fd_some) (ht : PR.lookup ("_law_take" : Str) = some fd_take) (hb : BagOk bag) (h0 : things ≠ []) (hm2 : things.length < 1073741824) :
    ∃ x ∈ things, ∃ bag', evF PR (n + 2) "_law_some" [bag, .lst things] = .ret x [bag', .lst things] ∧ BagOk bag' := by
  have hpos : 0 < things.length := List.length_pos_iff.mpr h0
  obtain ⟨v, bag', ev, hb', v0, v1⟩ := take_spec (n := n) ht hb (many := things.length) (by omega) (by omega)
  obtain ⟨k, hk⟩ : ∃ k : Nat, v = k := ⟨v.toNat, by omega⟩
  subst hk
  have hkl : k < things.length := by omega
  refine ⟨things[k], List.getElem_mem _, bag', ?_, hb'⟩
  have hix : ixD (.lst things) (.int (k : Nat)) = some things[k] := by
    show L2.atI things (k : Nat) = _
    unfold L2.atI L2.ixN
    rw [if_pos (by omega), if_pos (by omega)]
    show things[(k : Int).toNat]? = _
    rw [Int.toNat_natCast, List.getElem?_eq_getElem hkl]
  have hmd : modes PR ("_law_take" : Str) = [true, false] := by unfold modes; rw [ht]; rfl
  have hlen : biD .len [.lst things] = some (.int things.length) := rfl
  have key : ∀ C : Ctx, C.cal "_law_take" [bag, .int things.length] = .ret (.int (k : Nat)) [bag', .int things.length] → C.md "_law_take" = [true, false] → evSs C fd_some.body [some bag, some (.lst things)] = .ok (.rt things[k]) [some bag', some (.lst things)] := by
    intro C h1 h2
    have hcall : callE C "_law_take" [.slot 0, .val (.int things.length)] [some bag, some (.lst things)] = .ok (.val (.int (k : Nat))) [some bag', some (.lst things)] := by
      simp [callE, h2, passA, take, D.fz, getS_0, lentS, h1, backA]
    refine ev_ret (x := .val things[k]) (G1 := [some bag', some (.lst things)]) ?_ rfl
    simp [evE, evEs, bind_ok, getS_0, getS_s, deref_slot, deref_val, derefs, hlen, lft_some, hcall, hix]
  exact ev_run hl rfl (by decide) (key _ ev hmd) rfl
end Dv
end
section
set_option Elab.async false
set_option linter.all false
set_option maxRecDepth 100000
set_option maxHeartbeats 2000000
/-! P3: loops; all rows worth an amount. -/
namespace Dv
open PySem L2
theorem forL_inv {b : D → GEnv → R Flo} : ∀ {ds : List D} {I : Nat → GEnv → Prop} {G : GEnv}, I 0 G → (∀ i d G, ds[i]? = some d → I i G → ∃ G', b d G = .ok .nx G' ∧ I (i + 1) G') → ∃ G', forL b ds G = .ok .nx G' ∧ I ds.length G'
  | [], I, G, h0, _ => ⟨G, rfl, h0⟩
  | d :: ds, I, G, h0, h => by
    obtain ⟨G1, e1, i1⟩ := h 0 d G rfl h0
    obtain ⟨G2, e2, i2⟩ := forL_inv (ds := ds) (I := fun i => I (i + 1)) i1 fun i x G hx hi => h (i + 1) x G (by simpa using hx) hi
    refine ⟨G2, ?_, i2⟩
    have e : forL b (d :: ds) G = (b d G).bind fun f G1 => match f with
      | .nx => forL b ds G1
      | .ct => forL b ds G1
      | .bk => .ok .nx G1
      | .rt x => .ok (.rt x) G1 := rfl
    rw [e, e1]
    exact e2
theorem ev_for {C : Ctx} {tg : Tgt} {it : Ite} {b : Stas} {G G1 : GEnv} {xs : List D} (hp : protT C.pr tg = true) (hi : evI C it G = .ok xs G1) : evS C (.for_ tg it b) G = forL (fun d G => match asgG tg d G with
    | none => .no
    | some G => evSs C b G) xs G1 := by
  have q : evS C (.for_ tg it b) G = (if protT C.pr tg = true then (evI C it G).bind fun xs G1 => forL (fun d G => match asgG tg d G with
    | none => .no
    | some G => evSs C b G) xs G1 else .no) := rfl
  rw [q, if_pos hp, hi]
  rfl
/-- a while: by a measure -/
theorem whl_inv {c : GEnv → R Bool} {b : GEnv → R Flo} : ∀ {m n : Nat} {I : Nat → GEnv → Prop} {G : GEnv}, m < n → I m G → (∀ m G, I m G → (∃ G1, c G = .ok false G1 ∧ I 0 G1) ∨ ∃ G1 G2 m', c G = .ok true G1 ∧ b G1 = .ok .nx G2 ∧ m' < m ∧ I m' G2) → ∃ G', whlL c b n G = .ok .nx G' ∧ I 0 G'
  | m, 0, _, _, h, _, _ => absurd h (Nat.not_lt_zero _)
  | m, n + 1, I, G, hm, h0, h => by
    have e : whlL c b (n + 1) G = (c G).bind fun k G1 => if k then (b G1).bind fun f G2 => (match f with
      | .nx => whlL c b n G2
      | .ct => whlL c b n G2
      | .bk => .ok .nx G2
      | .rt x => .ok (.rt x) G2) else .ok .nx G1 := rfl
    rcases h m G h0 with ⟨G1, e1, i1⟩ | ⟨G1, G2, m', e1, e2, hlt, i2⟩
    · exact ⟨G1, by rw [e, e1]; rfl, i1⟩
    · obtain ⟨G', e3, i3⟩ := whl_inv (m := m') (n := n) (by omega) i2 h
      refine ⟨G', ?_, i3⟩
      rw [e, e1, bind_ok, if_pos rfl, e2]
      exact e3
/-! ### all rows worth an amount -/
abbrev pairD (p : List Int × Int) : D := .tup [rowD p.1, .int p.2]
/-- one row made longer by so many coins of the value -/
def longer (v m : Int) (p : List Int × Int) : List (List Int × Int) := (((List.range (m + 1).toNat).map fun i : Nat => (i : Int)).filter fun few => decide (few * v ≤ p.2)).map fun few => (p.1 ++ [few], p.2 - few * v)
def stepR (found : List (List Int × Int)) (vm : Int × Int) : List (List Int × Int) := found.flatMap (longer vm.1 vm.2)
def foundR (vs most : List Int) (amount : Int) : List (List Int × Int) := (vs.zip most).foldl stepR [([], amount)]
theorem mem_longer {v m : Int} {p q : List Int × Int} : q ∈ longer v m p ↔ ∃ few : Int, 0 ≤ few ∧ few ≤ m ∧ few * v ≤ p.2 ∧ q = (p.1 ++ [few], p.2 - few * v) := by
  unfold longer
  rw [List.mem_map]
  constructor
  · rintro ⟨few, h1, rfl⟩
    rw [List.mem_filter, List.mem_map, decide_eq_true_eq] at h1
    obtain ⟨⟨i, hi, rfl⟩, h2⟩ := h1
    rw [List.mem_range] at hi
    exact ⟨i, by omega, by omega, h2, rfl⟩
  · rintro ⟨few, h0, h1, h2, rfl⟩
    refine ⟨few, ?_, rfl⟩
    rw [List.mem_filter, List.mem_map, decide_eq_true_eq]
    exact ⟨⟨few.toNat, by rw [List.mem_range]; omega, by omega⟩, h2⟩
/-- the rows found are those within the caps that leave no less than nothing -/
theorem mem_fold : ∀ {l : List (Int × Int)} {acc : List (List Int × Int)} {q : List Int × Int}, q ∈ l.foldl stepR acc ↔ ∃ p ∈ acc, ∃ r : List Int, r.length = l.length ∧ (∀ (i : Nat) (x : Int), r[i]? = some x → ∃ vm : Int × Int, l[i]? = some vm ∧ 0 ≤ x ∧ x ≤ vm.2) ∧
    (∀ k, k ≤ l.length → 0 ≤ p.2 - (((l.take k).zip r).map fun z => z.2 * z.1.1).sum ∨ k = 0) ∧ q = (p.1 ++ r, p.2 - ((l.zip r).map fun z => z.2 * z.1.1).sum)
  | [], acc, q => by
    constructor
    · intro h
      exact ⟨q, h, [], rfl, fun i x e => by simp at e, fun k hk => .inr (by simpa using hk), by simp⟩
    · rintro ⟨p, hp, r, hr, _, _, rfl⟩
      have : r = [] := List.eq_nil_of_length_eq_zero hr
      subst this
      simpa using hp
  | vm :: l, acc, q => by
    rw [List.foldl_cons, mem_fold (l := l)]
    constructor
    · rintro ⟨p, hp, r, hr, hb, hk, rfl⟩
      unfold stepR at hp
      rw [List.mem_flatMap] at hp
      obtain ⟨p0, hp0, hq⟩ := hp
      obtain ⟨few, f0, f1, f2, rfl⟩ := mem_longer.mp hq
      refine ⟨p0, hp0, few :: r, by simp [hr], fun i x e => ?_, fun k hk' => ?_, ?_⟩
      · cases i with
        | zero => cases e; exact ⟨vm, rfl, f0, f1⟩
        | succ i => simpa using hb i x (by simpa using e)
      · cases k with
        | zero => exact .inr rfl
        | succ k =>
          left
          have hk2 : k ≤ l.length := by simpa using hk'
          rcases hk k hk2 with h | h
          · simp only [List.take_succ_cons, List.zip_cons_cons, List.map_cons, List.sum_cons]
            have : p0.2 - few * vm.1 = (p0.1 ++ [few], p0.2 - few * vm.1).2 := rfl
            dsimp only at h
            omega
          · subst h
            simp
            omega
      · simp only [List.zip_cons_cons, List.map_cons, List.sum_cons, List.append_assoc, List.singleton_append]
        congr 1
        omega
    · rintro ⟨p, hp, r, hr, hb, hk, rfl⟩
      cases r with
      | nil => simp at hr
      | cons few r =>
        obtain ⟨vm', e, f0, f1⟩ := hb 0 few rfl
        cases e
        have k1 := hk 1 (by simp)
        refine ⟨(p.1 ++ [few], p.2 - few * vm.1), ?_, r, by simpa using hr, fun i x e => ?_, fun k hk' => ?_, ?_⟩
        · unfold stepR
          rw [List.mem_flatMap]
          refine ⟨p, hp, mem_longer.mpr ⟨few, f0, f1, ?_, rfl⟩⟩
          rcases k1 with h | h
          · simp at h
            omega
          · cases h
        · simpa using hb (i + 1) x (by simpa using e)
        · left
          rcases hk (k + 1) (by simpa using hk') with h | h
          · simp only [List.take_succ_cons, List.zip_cons_cons, List.map_cons, List.sum_cons] at h
            dsimp only
            omega
          · cases h
        · simp only [List.zip_cons_cons, List.map_cons, List.sum_cons, List.append_assoc, List.singleton_append]
          congr 1
          omega
end Dv
end
section
set_option Elab.async false
set_option linter.all false
set_option maxRecDepth 100000
set_option maxHeartbeats 2000000
/-! P4: rows sorted. -/
namespace Dv
open PySem L2
def sortR (rows : List (List Int)) : List (List Int) := rows.mergeSort fun a b => PySem.W.dataLe false encD (rowD a) (rowD b)
theorem py_ints : ∀ l : List Int, D.pys (l.map D.int) = some (l.map PyData.int)
  | [] => rfl
  | x :: l => by
    show (match D.py (.int x), D.pys (l.map D.int) with
      | some d, some ds => some (d :: ds)
      | _, _ => none) = _
    rw [py_ints l]
    rfl
theorem py_row (r : List Int) : (rowD r).py = some (.tuple (r.map PyData.int)) := by
  show (D.pys (r.map D.int)).map PyData.tuple = _
  rw [py_ints]
  rfl
theorem pys_rows : ∀ rows : List (List Int), D.pys (rows.map rowD) = some (rows.map fun r => .tuple (r.map PyData.int))
  | [] => rfl
  | r :: rows => by
    show (match D.py (rowD r), D.pys (rows.map rowD) with
      | some d, some ds => some (d :: ds)
      | _, _ => none) = _
    rw [py_row, pys_rows rows]
    rfl
theorem sort_rows {rows : List (List Int)} (h : ∀ r ∈ rows, r ≠ []) (hl : rows.length ≤ sizeLine) : sortD (rows.map rowD) = some ((sortR rows).map rowD) := by
  have e : sortD (rows.map rowD) = (match D.pys (rows.map rowD) with
    | some ps => if (sortOk ps && lenOk (rows.map rowD)) = true then some ((rows.map rowD).mergeSort (PySem.W.dataLe false encD)) else none
    | none => none) := rfl
  rw [e, pys_rows]
  show (if _ then _ else _) = _
  rw [if_pos]
  · unfold sortR
    rw [List.map_mergeSort (s := PySem.W.dataLe false encD) (fun a _ b _ => rfl)]
  · rw [Bool.and_eq_true]
    refine ⟨?_, by unfold lenOk; rw [decide_eq_true_eq, List.length_map]; exact hl⟩
    unfold sortOk
    rw [Bool.and_eq_true, Bool.and_eq_true]
    refine ⟨⟨?_, ?_⟩, ?_⟩
    · rw [List.all_eq_true]
      intro d hd
      rw [List.all_eq_true]
      intro d' hd'
      obtain ⟨r, _, rfl⟩ := List.mem_map.mp hd
      obtain ⟨r', _, rfl⟩ := List.mem_map.mp hd'
      have := PySem.W.alike_ints r r'
      simpa [PySem.W.alike] using this
    · rw [Bool.or_eq_true]
      left
      rw [List.all_eq_true]
      intro d hd
      obtain ⟨r, hr, rfl⟩ := List.mem_map.mp hd
      cases r with
      | nil => exact absurd rfl (h [] hr)
      | cons x t => rfl
    · rw [List.all_eq_true]
      intro d hd
      obtain ⟨r, hr, rfl⟩ := List.mem_map.mp hd
      rw [decide_eq_true_eq]
      have := PySem.W.depth_ints r
      simp [PyData.depth, this]
theorem mem_sortR {rows : List (List Int)} {r : List Int} : r ∈ sortR rows ↔ r ∈ rows := List.mem_mergeSort
end Dv
end
section
set_option Elab.async false
set_option linter.all false
set_option maxRecDepth 100000
set_option maxHeartbeats 2000000
/-! P5: all rows worth an amount, in the program's hands. -/
namespace Dv
open PySem L2
def rwExt : Exp := .mt .extend (.var 6) (.cons (.comp [9] (.name 9) (.range (.cons (.bin .add (.var 5) (.int 1)) .nil)) (.some (.cmp .le (.bin .mul (.var 9) (.var 4)) (.var 8))) (.tup (.cons (.bin .add (.var 7) (.tup (.cons (.var 9) .nil))) (.cons (.bin .sub (.var 8) (.bin .mul (.var 9) (.var 4))) .nil)))) .nil)
def rwIn : Sta := .for_ (.tup (.cons (.name 7) (.cons (.name 8) .nil))) (.seq (.var 3)) (.cons (.expr rwExt) .nil)
def rwOut : Sta := .for_ (.tup (.cons (.name 4) (.cons (.name 5) .nil))) (.zip (.cons (.ix (.var 0) (.int 0)) (.cons (.var 1) .nil))) (.cons (.set 6 (.lst .nil)) (.cons rwIn (.cons (.set 3 (.var 6)) .nil)))
def rwRet : Exp := .col .sorted (.comp [7, 8] (.tup (.cons (.name 7) (.cons (.name 8) .nil))) (.seq (.var 3)) (.some (.cmp .eq (.var 8) (.int 0))) (.var 7))
def fd_rows : Fd := ⟨3, 10, [false, false, false], (.cons (.set 3 (.lst (.cons (.tup (.cons (.tup .nil) (.cons (.var 2) .nil))) .nil))) (.cons rwOut (.cons (.ret rwRet) .nil)))⟩
section
variable {C : Ctx} {x0 x1 x2 : Option D} {x3 x7 x8 : Option D} {v m : Int}
theorem rangeD_int {n : Int} (h0 : -(2 ^ 62) ≤ n) (h1 : n < 2 ^ 62) : rangeD [.int n] = some ((List.range n.toNat).map fun i : Nat => .int (i : Int)) := by
  have e : rangeD [.int n] = (if (decide (-(2 ^ 62) ≤ n) && decide (n < 2 ^ 62)) = true then some ((List.range n.toNat).map fun i : Nat => D.int (0 + (i : Nat))) else none) := rfl
  rw [e, if_pos (by rw [Bool.and_eq_true, decide_eq_true_eq, decide_eq_true_eq]; exact ⟨h0, h1⟩)]
  congr 1
  apply List.map_congr_left
  intro i _
  rw [Int.zero_add]
theorem binD_row {r s : List Int} (h : r.length + s.length ≤ sizeLine) : binD .add (rowD r) (rowD s) = some (rowD (r ++ s)) := by
  show (if (r.map D.int).length + (s.map D.int).length ≤ sizeLine then some (D.tup (r.map D.int ++ s.map D.int)) else none) = _
  rw [if_pos (by simpa using h), ← List.map_append]
theorem mt_ext {xs ys : List D} (h : xs.length + ys.length ≤ sizeLine) : mtD .extend (.mls xs) [.lst ys] = some (.non, .mls (xs ++ ys)) := by
  show ((extendL xs (.lst ys)).map fun q => (q.1, D.mls q.2)) = _
  unfold extendL
  dsimp only
  rw [if_pos (by rw [decide_eq_true_eq]; exact h)]
  rfl
theorem ev_longer {l r : List Int} {left : Int} {a6 : Option D} (hm0 : -1 ≤ m) (hm : m < sizeLine) (hv : v.natAbs < 2 ^ 64) (hr : r.length < sizeLine) :
    evE C (.comp [9] (.name 9) (.range (.cons (.bin .add (.var 5) (.int 1)) .nil)) (.some (.cmp .le (.bin .mul (.var 9) (.var 4)) (.var 8))) (.tup (.cons (.bin .add (.var 7) (.tup (.cons (.var 9) .nil))) (.cons (.bin .sub (.var 8) (.bin .mul (.var 9) (.var 4))) .nil)))) [x0, x1, x2, x3, some (.int v), some (.int m), a6, some (rowD r), some (.int left), none]
      = .ok (.val (.mls ((longer v m (r, left)).map pairD))) [x0, x1, x2, x3, some (.int v), some (.int m), a6, some (rowD r), some (.int left), none] := by
  have hsz : sizeLine = 16777216 := rfl
  have hrg : rangeD [.int (m + 1)] = some ((List.range (m + 1).toNat).map fun i : Nat => .int (i : Int)) := rangeD_int (by omega) (by omega)
  have hi : evI C (.range (.cons (.bin .add (.var 5) (.int 1)) .nil)) [x0, x1, x2, x3, some (.int v), some (.int m), a6, some (rowD r), some (.int left), none] = .ok ((List.range (m + 1).toNat).map fun i : Nat => .int (i : Int)) [x0, x1, x2, x3, some (.int v), some (.int m), a6, some (rowD r), some (.int left), none] := by
    simp [evI, evEs, evE, bind_ok, getS_0, getS_s, deref_val, deref_slot, binD_add, lft_some, derefs, hrg]
  rw [ev_comp1 (f := fun i : Nat => pairD (r ++ [(i : Int)], left - (i : Int) * v)) (p := fun i : Nat => decide ((i : Int) * v ≤ left)) hi (fun i hi => ?_) (by rw [List.length_range]; omega)]
  · have e : (longer v m (r, left)).map pairD = ((List.range (m + 1).toNat).filter fun i : Nat => decide ((i : Int) * v ≤ left)).map fun i : Nat => pairD (r ++ [(i : Int)], left - (i : Int) * v) := by
      unfold longer
      rw [List.filter_map, List.map_map, List.map_map]
      rfl
    rw [e]
    rfl
  · have hmul : binD .mul (.int (i : Int)) (.int v) = some (.int ((i : Int) * v)) := binD_mul (.inr hv)
    have hrow : binD .add (rowD r) (.tup [.int (i : Int)]) = some (rowD (r ++ [(i : Int)])) := binD_row (s := [(i : Int)]) (by show r.length + 1 ≤ _; omega)
    by_cases hc : (i : Int) * v ≤ left
    · simp [compB, asgG, evT, evE, evEs, bind_ok, getS_0, getS_s, deref_slot, deref_val, cmpD_le, hmul, hrow, lft_some, take, takes, D.fz, wipeG, hc, lenOk, binD_sub, hsz]
    · simp [compB, asgG, evT, evE, evEs, bind_ok, getS_0, getS_s, deref_slot, deref_val, cmpD_le, hmul, lft_some, take, D.fz, wipeG, hc]
theorem rw_ext {acc : List D} {r : List Int} {left : Int} (hm0 : -1 ≤ m) (hm : m < sizeLine) (hv : v.natAbs < 2 ^ 64) (hr : r.length < sizeLine) (hl : acc.length + (longer v m (r, left)).length ≤ sizeLine) :
    evS C (.expr rwExt) [x0, x1, x2, x3, some (.int v), some (.int m), some (.mls acc), some (rowD r), some (.int left), none] = .ok .nx [x0, x1, x2, x3, some (.int v), some (.int m), some (.mls (acc ++ (longer v m (r, left)).map pairD)), some (rowD r), some (.int left), none] := by
  have h1 := ev_longer (C := C) (x0 := x0) (x1 := x1) (x2 := x2) (x3 := x3) (l := r) (left := left) (a6 := some (.mls acc)) hm0 hm hv hr
  have h2 : mtD .extend (.mls acc) [.lst ((longer v m (r, left)).map pairD)] = some (.non, .mls (acc ++ (longer v m (r, left)).map pairD)) := mt_ext (by rw [List.length_map]; exact hl)
  have h3 : D.fzs ((longer v m (r, left)).map pairD) = (longer v m (r, left)).map pairD := fzs_map (fun _ => rfl) _
  unfold rwExt
  unfold evS evE
  simp only [getS_0, getS_s]
  unfold evEs
  rw [h1]
  simp [bind_ok, evEs, takes, take, D.fz, h3, getS_s, getS_0, h2]
/-- a list, owned or not -/
def Lst (d : D) (l : List (List Int × Int)) : Prop := d = .mls (l.map pairD) ∨ d = .lst (l.map pairD)
theorem Lst.fz {d : D} {l : List (List Int × Int)} (h : Lst d l) : d.fz = .lst (l.map pairD) := by
  rcases h with rfl | rfl
  · show D.lst (D.fzs _) = _
    rw [fzs_map fun _ => rfl]
  · rfl
theorem rw_in {F : D} {found : List (List Int × Int)} {k : Nat} (hF : Lst F found) (hp7 : C.pr 7 = false) (hp8 : C.pr 8 = false) (hm0 : -1 ≤ m) (hm : m < sizeLine) (hv : v.natAbs < 2 ^ 64) (hr : ∀ p ∈ found, p.1.length < sizeLine) (hl : (stepR found (v, m)).length ≤ sizeLine) :
    ∃ y7 y8, evS C rwIn [x0, x1, x2, some F, some (.int v), some (.int m), some (.mls []), x7, x8, none] = .ok .nx [x0, x1, x2, some (.lst (found.map pairD)), some (.int v), some (.int m), some (.mls ((stepR found (v, m)).map pairD)), y7, y8, none] := by
  have hi : evI C (.seq (.var 3)) [x0, x1, x2, some F, some (.int v), some (.int m), some (.mls []), x7, x8, none] = .ok (found.map pairD) [x0, x1, x2, some (.lst (found.map pairD)), some (.int v), some (.int m), some (.mls []), x7, x8, none] := by
    simp [evI, evE, bind_ok, getS_0, getS_s, take, hF.fz, seqOf]
  unfold rwIn
  rw [ev_for (by simp [protT, protTs, hp7, hp8]) hi]
  obtain ⟨G', e, y7, y8, rfl⟩ := forL_inv (b := fun d G => match asgG (.tup (.cons (.name 7) (.cons (.name 8) .nil))) d G with
    | none => .no
    | some G => evSs C (.cons (.expr rwExt) .nil) G) (ds := found.map pairD) (I := fun i G => ∃ y7 y8, G = [x0, x1, x2, some (.lst (found.map pairD)), some (.int v), some (.int m), some (.mls (((found.take i).flatMap (longer v m)).map pairD)), y7, y8, none])
    ⟨x7, x8, rfl⟩ (fun i d G hd hI => by
      obtain ⟨y7, y8, rfl⟩ := hI
      rw [List.getElem?_map] at hd
      obtain ⟨p, hp, rfl⟩ := Option.map_eq_some_iff.mp hd
      have hmem : p ∈ found := List.mem_of_getElem? hp
      have htk : found.take (i + 1) = found.take i ++ [p] := by rw [List.take_add_one, hp]; rfl
      have hlen : (((found.take i).flatMap (longer v m)).map pairD).length + (longer v m (p.1, p.2)).length ≤ sizeLine := by
        have e : found = found.take (i + 1) ++ found.drop (i + 1) := (List.take_append_drop _ _).symm
        have : (stepR found (v, m)).length = ((found.take (i + 1)).flatMap (longer v m)).length + ((found.drop (i + 1)).flatMap (longer v m)).length := by
          rw [← List.length_append, ← List.flatMap_append, List.take_append_drop]
          rfl
        rw [htk, List.flatMap_append, List.length_append] at this
        rw [List.length_map]
        have e2 : [p].flatMap (longer v m) = longer v m p := by simp
        rw [e2] at this
        show _ + (longer v m p).length ≤ _
        omega
      refine ⟨[x0, x1, x2, some (.lst (found.map pairD)), some (.int v), some (.int m), some (.mls (((found.take i).flatMap (longer v m)).map pairD ++ (longer v m (p.1, p.2)).map pairD)), some (rowD p.1), some (.int p.2), none], ?_, some (rowD p.1), some (.int p.2), ?_⟩
      rotate_left
      · rw [htk, List.flatMap_append, List.map_append]
        have e2 : [p].flatMap (longer v m) = longer v m p := by simp
        rw [e2]
      have ea : asgG (.tup (.cons (.name 7) (.cons (.name 8) .nil))) (pairD p) [x0, x1, x2, some (.lst (found.map pairD)), some (.int v), some (.int m), some (.mls (((found.take i).flatMap (longer v m)).map pairD)), y7, y8, none] = some [x0, x1, x2, some (.lst (found.map pairD)), some (.int v), some (.int m), some (.mls (((found.take i).flatMap (longer v m)).map pairD)), some (rowD p.1), some (.int p.2), none] := by
        simp [asgG, asgsG]
      rw [ea]
      dsimp only
      rw [seq_nx (rw_ext (r := p.1) (left := p.2) hm0 hm hv (hr p hmem) hlen)]
      rfl)
  refine ⟨y7, y8, ?_⟩
  have hle : (found.map pairD).length = found.length := List.length_map _
  rw [hle, List.take_length] at e
  exact e
/-- lengths of rows found -/
theorem len_fold : ∀ {l : List (Int × Int)} {acc : List (List Int × Int)} {p : List Int × Int}, p ∈ l.foldl stepR acc → ∀ n, (∀ q ∈ acc, q.1.length = n) → p.1.length = n + l.length
  | [], acc, p, h, n, ha => ha p h
  | vm :: l, acc, p, h, n, ha => by
    have h2 := len_fold (l := l) h (n + 1) (fun q hq => by
      unfold stepR at hq
      obtain ⟨p0, hp0, hq⟩ := List.mem_flatMap.mp hq
      obtain ⟨few, _, _, _, rfl⟩ := mem_longer.mp hq
      simp [ha p0 hp0])
    rw [h2, List.length_cons]
    omega
theorem len_longer {v m : Int} {p : List Int × Int} {M : Nat} (h : m < M) : (longer v m p).length ≤ M := by
  unfold longer
  rw [List.length_map]
  refine Nat.le_trans (List.length_filter_le _ _) ?_
  rw [List.length_map, List.length_range]
  omega
theorem len_stepR {vm : Int × Int} {M : Nat} (h : vm.2 < M) : ∀ found : List (List Int × Int), (stepR found vm).length ≤ found.length * M
  | [] => Nat.zero_le _
  | p :: found => by
    have h1 := len_stepR h found
    have h2 : (longer vm.1 vm.2 p).length ≤ M := len_longer h
    have e : stepR (p :: found) vm = longer vm.1 vm.2 p ++ stepR found vm := by
      unfold stepR
      rw [List.flatMap_cons]
    rw [e, List.length_append, List.length_cons, Nat.add_one_mul]
    omega
theorem len_foldR {M : Nat} : ∀ {l : List (Int × Int)} {acc : List (List Int × Int)}, (∀ vm ∈ l, vm.2 < M) → (l.foldl stepR acc).length ≤ acc.length * M ^ l.length
  | [], acc, _ => by simp
  | vm :: l, acc, h => by
    have h1 := len_foldR (M := M) (l := l) (acc := stepR acc vm) fun x hx => h x (List.mem_cons_of_mem _ hx)
    have h2 := len_stepR (h vm List.mem_cons_self) acc
    refine Nat.le_trans h1 ?_
    rw [List.length_cons, Nat.pow_succ, Nat.mul_comm (M ^ l.length) M, ← Nat.mul_assoc]
    exact Nat.mul_le_mul_right _ h2
theorem rw_out {vs caps most : List Int} {amount : Int} {F : D} {x4 x5 x6 : Option D} {M : Nat} (hF : Lst F [([], amount)]) (hp : ∀ i, C.pr i = false) (hv : ∀ v ∈ vs, v.natAbs < 2 ^ 64) (hm : ∀ m ∈ most, 0 ≤ m ∧ m < M) (hM : M ^ (vs.zip most).length ≤ sizeLine) (hM1 : 1 ≤ M) (hM2 : M ≤ sizeLine) (hk : (vs.zip most).length < sizeLine) :
    ∃ F' y4 y5 y6 y7 y8, Lst F' (foundR vs most amount) ∧ evS C rwOut [some (coinD vs caps), some (rowD most), x2, some F, x4, x5, x6, x7, x8, none] = .ok .nx [some (coinD vs caps), some (rowD most), x2, some F', y4, y5, y6, y7, y8, none] := by
  have ix0 : ixD (coinD vs caps) (.int 0) = some (rowD vs) := rfl
  have hi : evI C (.zip (.cons (.ix (.var 0) (.int 0)) (.cons (.var 1) .nil))) [some (coinD vs caps), some (rowD most), x2, some F, x4, x5, x6, x7, x8, none] = .ok ((vs.zip most).map fun p => .tup [.int p.1, .int p.2]) [some (coinD vs caps), some (rowD most), x2, some F, x4, x5, x6, x7, x8, none] := by
    simp [evI, evEs, evE, bind_ok, getS_0, getS_s, deref_val, deref_slot, lft_some, ix0, takes, take, D.fz, on2, zipX, listOf, tupOf, zip_rows]
  unfold rwOut
  rw [ev_for (by simp [protT, protTs, hp]) hi]
  obtain ⟨G', e, F', y4, y5, y6, y7, y8, hF', rfl⟩ := forL_inv (b := fun d G => match asgG (.tup (.cons (.name 4) (.cons (.name 5) .nil))) d G with
    | none => .no
    | some G => evSs C (.cons (.set 6 (.lst .nil)) (.cons rwIn (.cons (.set 3 (.var 6)) .nil))) G) (ds := (vs.zip most).map fun p : Int × Int => .tup [.int p.1, .int p.2]) (I := fun i G => ∃ F' y4 y5 y6 y7 y8, Lst F' (((vs.zip most).take i).foldl stepR [([], amount)]) ∧ G = [some (coinD vs caps), some (rowD most), x2, some F', y4, y5, y6, y7, y8, none])
    ⟨F, x4, x5, x6, x7, x8, hF, rfl⟩ (fun i d G hd hI => by
      obtain ⟨F', y4, y5, y6, y7, y8, hF', rfl⟩ := hI
      rw [List.getElem?_map] at hd
      obtain ⟨p, hp', rfl⟩ := Option.map_eq_some_iff.mp hd
      have hmem : p ∈ vs.zip most := List.mem_of_getElem? hp'
      obtain ⟨hv1, hm1⟩ := List.of_mem_zip hmem
      have hil : i < (vs.zip most).length := (List.getElem?_eq_some_iff.mp hp').1
      have htk : (vs.zip most).take (i + 1) = (vs.zip most).take i ++ [p] := by rw [List.take_add_one, hp']; rfl
      have hst : ((vs.zip most).take (i + 1)).foldl stepR [([], amount)] = stepR (((vs.zip most).take i).foldl stepR [([], amount)]) p := by rw [htk, List.foldl_append]; rfl
      have hlen : (stepR (((vs.zip most).take i).foldl stepR [([], amount)]) p).length ≤ sizeLine := by
        rw [← hst]
        refine Nat.le_trans (len_foldR (M := M) fun x hx => (hm _ (List.of_mem_zip (List.mem_of_mem_take hx)).2).2) ?_
        refine Nat.le_trans ?_ hM
        rw [List.length_singleton, Nat.one_mul, List.length_take]
        exact Nat.pow_le_pow_right hM1 (Nat.min_le_right _ _)
      have hrl : ∀ q ∈ ((vs.zip most).take i).foldl stepR [([], amount)], q.1.length < sizeLine := by
        intro q hq
        have := len_fold hq 0 (by simp)
        rw [List.length_take] at this
        omega
      have hmm := hm _ hm1
      have ea : asgG (.tup (.cons (.name 4) (.cons (.name 5) .nil))) (.tup [.int p.1, .int p.2]) [some (coinD vs caps), some (rowD most), x2, some F', y4, y5, y6, y7, y8, none] = some [some (coinD vs caps), some (rowD most), x2, some F', some (.int p.1), some (.int p.2), y6, y7, y8, none] := by
        simp [asgG, asgsG]
      obtain ⟨z7, z8, ein⟩ := rw_in (C := C) (x0 := some (coinD vs caps)) (x1 := some (rowD most)) (x2 := x2) (x7 := y7) (x8 := y8) (v := p.1) (m := p.2) (k := 0) hF' (hp 7) (hp 8) (by omega) (by omega) (hv _ hv1) hrl hlen
      have eset : evS C (.set 6 (.lst .nil)) [some (coinD vs caps), some (rowD most), x2, some F', some (.int p.1), some (.int p.2), y6, y7, y8, none] = .ok .nx [some (coinD vs caps), some (rowD most), x2, some F', some (.int p.1), some (.int p.2), some (.mls []), y7, y8, none] := by
        simp [evS, evE, evEs, bind_ok, takes, lenOk, own_val, hp]
      have elast : ∀ F1 : D, ∀ l : List (List Int × Int), evS C (.set 3 (.var 6)) [some (coinD vs caps), some (rowD most), x2, some F1, some (.int p.1), some (.int p.2), some (.mls (l.map pairD)), z7, z8, none] = .ok .nx [some (coinD vs caps), some (rowD most), x2, some (.lst (l.map pairD)), some (.int p.1), some (.int p.2), some (.lst (l.map pairD)), z7, z8, none] := by
        intro F1 l
        have h3 : D.fzs (l.map pairD) = l.map pairD := fzs_map (fun _ => rfl) _
        simp [evS, evE, bind_ok, getS_0, getS_s, own, take, D.fz, h3, hp]
      refine ⟨_, ?_, .lst ((stepR (((vs.zip most).take i).foldl stepR [([], amount)]) p).map pairD), some (.int p.1), some (.int p.2), some (.lst ((stepR (((vs.zip most).take i).foldl stepR [([], amount)]) p).map pairD)), z7, z8, ?_, rfl⟩
      · rw [ea]
        dsimp only
        rw [seq_nx eset, seq_nx ein, seq_nx (elast _ _)]
        rfl
      · rw [hst]
        exact .inr rfl)
  refine ⟨F', y4, y5, y6, y7, y8, ?_, e⟩
  rw [List.length_map, List.take_length] at hF'
  exact hF'
/-- all rows worth the amount, in order -/
def rowsR (vs most : List Int) (amount : Int) : List (List Int) := sortR (((foundR vs most amount).filter fun p => decide (p.2 = 0)).map (·.1))
theorem rw_ret {vs most : List Int} {amount : Int} {F : D} {x4 x5 x6 : Option D} (hF : Lst F (foundR vs most amount)) (h0 : vs.zip most ≠ []) (hl : (foundR vs most amount).length ≤ sizeLine) :
    ∃ G, evE C rwRet [x0, x1, x2, some F, x4, x5, x6, x7, x8, none] = .ok (.val (.mls ((rowsR vs most amount).map rowD))) (x0 :: x1 :: x2 :: G) := by
  have hi : evI C (.seq (.var 3)) [x0, x1, x2, some F, x4, x5, x6, x7, x8, none] = .ok ((foundR vs most amount).map pairD) [x0, x1, x2, some (.lst ((foundR vs most amount).map pairD)), x4, x5, x6, x7, x8, none] := by
    simp [evI, evE, bind_ok, getS_0, getS_s, take, hF.fz, seqOf]
  have hc := ev_comp1 (own := [7, 8]) (tg := .tup (.cons (.name 7) (.cons (.name 8) .nil))) (t := .cmp .eq (.var 8) (.int 0)) (el := .var 7) (f := fun p : List Int × Int => rowD p.1) (p := fun p => decide (p.2 = 0)) hi (fun p _ => by
    by_cases hz : p.2 = 0
    · simp [compB, asgG, asgsG, evT, evE, bind_ok, getS_0, getS_s, deref_slot, deref_val, cmpD_eq, eqD_int, take, D.fz, wipeG, hz]
    · simp [compB, asgG, asgsG, evT, evE, bind_ok, getS_0, getS_s, deref_slot, deref_val, cmpD_eq, eqD_int, take, D.fz, wipeG, hz]) hl
  have hcol : colD .sorted (.lst ((((foundR vs most amount).filter fun p => decide (p.2 = 0)).map (·.1)).map rowD)) = some (.mls ((rowsR vs most amount).map rowD)) := by
    show (sortD _).map D.mls = _
    rw [sort_rows (fun r hr => ?_) (by rw [List.length_map]; exact Nat.le_trans (List.length_filter_le _ _) hl)]
    · rfl
    · obtain ⟨p, hp, rfl⟩ := List.mem_map.mp hr
      have := len_fold (List.mem_filter.mp hp).1 0 (by intro q hq; rw [List.mem_singleton] at hq; rw [hq]; rfl)
      intro e
      rw [e] at this
      have : (vs.zip most).length = 0 := by simpa using this.symm
      exact h0 (List.eq_nil_of_length_eq_zero this)
  have hfz : D.fzs (((foundR vs most amount).filter fun p => decide (p.2 = 0)).map fun p => rowD p.1) = ((((foundR vs most amount).filter fun p => decide (p.2 = 0)).map (·.1)).map rowD) := by
    rw [List.map_map]
    exact fzs_map (fun _ => rfl) _
  refine ⟨_, (ev_col hc (d := .lst ((((foundR vs most amount).filter fun p => decide (p.2 = 0)).map (·.1)).map rowD)) (G2 := restG [7, 8] [x0, x1, x2, some (D.lst (List.map pairD (foundR vs most amount))), x4, x5, x6, x7, x8, none] (wipeG [7, 8] [x0, x1, x2, some (D.lst (List.map pairD (foundR vs most amount))), x4, x5, x6, x7, x8, none])) ?_ hcol).trans rfl⟩
  show some (D.lst (D.fzs _), _) = _
  rw [hfz]
end
theorem ev_rows {PR : Prog} {n : Nat} {vs caps most : List Int} {amount : Int} {M : Nat} (hl : PR.lookup ("_law_rows_worth" : Str) = some fd_rows) (h0 : vs.zip most ≠ []) (hv : ∀ v ∈ vs, v.natAbs < 2 ^ 64) (hm : ∀ m ∈ most, 0 ≤ m ∧ m < M) (hM : M ^ (vs.zip most).length ≤ sizeLine) (hM1 : 1 ≤ M) (hM2 : M ≤ sizeLine) (hk : (vs.zip most).length < sizeLine) :
    evF PR (n + 1) "_law_rows_worth" [coinD vs caps, rowD most, .int amount] = .ret (.mls ((rowsR vs most amount).map rowD)) [coinD vs caps, rowD most, .int amount] := by
  have hp : ∀ i, (fun i => fd_rows.md.getD i false) i = false := by
    intro i
    rcases i with _ | _ | _ | i <;> rfl
  obtain ⟨F', y4, y5, y6, y7, y8, hF', e2⟩ := rw_out (C := ⟨evF PR n, modes PR, fun i => fd_rows.md.getD i false, fd_rows.np⟩) (x2 := some (.int amount)) (x7 := none) (x8 := none) (vs := vs) (caps := caps) (most := most) (amount := amount) (F := .mls [pairD ([], amount)]) (x4 := none) (x5 := none) (x6 := none) (.inl rfl) hp hv hm hM hM1 hM2 hk
  have hfl : (foundR vs most amount).length ≤ sizeLine := by
    refine Nat.le_trans (len_foldR (M := M) fun x hx => (hm _ (List.of_mem_zip hx).2).2) ?_
    simpa using hM
  obtain ⟨G, e3⟩ := rw_ret (C := ⟨evF PR n, modes PR, fun i => fd_rows.md.getD i false, fd_rows.np⟩) (x0 := some (coinD vs caps)) (x1 := some (rowD most)) (x2 := some (.int amount)) (x4 := y4) (x5 := y5) (x6 := y6) (x7 := y7) (x8 := y8) hF' h0 hfl
  refine ev_run hl rfl (by decide) (G := some (coinD vs caps) :: some (rowD most) :: some (.int amount) :: G) ?_ rfl
  · have e1 : evS ⟨evF PR n, modes PR, fun i => fd_rows.md.getD i false, fd_rows.np⟩ (.set 3 (.lst (.cons (.tup (.cons (.tup .nil) (.cons (.var 2) .nil))) .nil))) [some (coinD vs caps), some (rowD most), some (.int amount), none, none, none, none, none, none, none] = .ok .nx [some (coinD vs caps), some (rowD most), some (.int amount), some (.mls [pairD ([], amount)]), none, none, none, none, none, none] := by
      have h3 : fd_rows.md[3]?.getD false = false := rfl
      simp [evS, evE, evEs, bind_ok, takes, take, D.fz, lenOk, own_val, getS_0, getS_s, sizeLine, h3]
    exact (seq_nx e1).trans ((seq_nx e2).trans (ev_ret e3 rfl))
end Dv
end
section
set_option Elab.async false
set_option linter.all false
set_option maxRecDepth 100000
set_option maxHeartbeats 2000000
/-! P6: the bag out of the script. -/
namespace Dv
open PySem L2
def fd_bag : Fd := ⟨1, 2, [false], (.cons (.ret (.lst (.cons (.int 0) (.cons (.int 1234567891) (.cons (.int 0) (.cons (.comp [1] (.name 1) (.seq (.sl (.var 0) .none (.some (.int 63)))) .none (.bi .abs (.cons (.var 1) .nil))) .nil)))))) .nil)⟩
def absI (x : Int) : Int := if x < 0 then -x else x
theorem absI_nn (x : Int) : 0 ≤ absI x := by unfold absI; split <;> omega
theorem ev_bag {PR : Prog} {n : Nat} {ns : List Int} (hl : PR.lookup ("_law_bag" : Str) = some fd_bag) (hk : ns.length ≤ 63) : ∃ bag, evF PR (n + 1) "_law_bag" [.scr ns] = .ret bag [.scr ns] ∧ BagOk bag := by
  obtain ⟨l, hl1, hl2, hl3⟩ := cut_ints (cs := ns) (lo := none) (hi := some 63)
  have hsl : slD (.scr ns) none (some 63) = some (.mls (l.map .int)) := by
    show some (D.mls (cutD (ns.map .int) none (some 63))) = _
    rw [hl1]
  have hll : l.length ≤ 63 := by omega
  have hfz : D.fzs (l.map D.int) = l.map D.int := fzs_map (fun _ => rfl) _
  refine ⟨bagD 0 1234567891 0 (l.map fun x => (absI x)), ?_, ?_⟩
  · have key : ∀ C : Ctx, ∃ G, evE C (.lst (.cons (.int 0) (.cons (.int 1234567891) (.cons (.int 0) (.cons (.comp [1] (.name 1) (.seq (.sl (.var 0) .none (.some (.int 63)))) .none (.bi .abs (.cons (.var 1) .nil))) .nil))))) [some (.scr ns), none] = .ok (.val (bagD 0 1234567891 0 (l.map fun x => (absI x)))) (some (.scr ns) :: G) := by
      intro C
      have hi : evI C (.seq (.sl (.var 0) .none (.some (.int 63)))) [some (.scr ns), none] = .ok (l.map D.int) [some (.scr ns), none] := by
        simp [evI, evE, evO, bind_ok, getS_0, getS_s, deref_slot, deref_val, hsl, lft_some, take, D.fz, hfz, seqOf]
      have hc := ev_comp0 (own := [1]) (tg := .name 1) (el := .bi .abs (.cons (.var 1) .nil)) (f := fun x : Int => .int (absI x)) hi (fun x _ => by
        have ha : biD .abs [.int x] = some (.int (absI x)) := rfl
        simp [compB, asgG, evE, evEs, bind_ok, getS_0, getS_s, deref_slot, derefs, ha, lft_some, take, D.fz, wipeG]) (by show l.length ≤ 16777216; omega)
      have hfz2 : D.fzs (l.map fun x : Int => D.int (absI x)) = l.map fun x : Int => D.int (absI x) := fzs_map (fun _ => rfl) _
      refine ⟨[none], ?_⟩
      unfold evE
      have i0 : ∀ (i : Int) G, evE C (.int i) G = .ok (.val (.int i)) G := fun i G => by simp [evE]
      simp only [evEs, i0, bind_ok]
      rw [hc]
      simp [bind_ok, takes, take, D.fz, hfz2, lenOk, sizeLine, wipeG, restG, getS, List.map_map]
    obtain ⟨G, e⟩ := key ⟨evF PR n, modes PR, fun i => fd_bag.md.getD i false, fd_bag.np⟩
    exact ev_run hl rfl (by decide) (ev_ret e rfl) rfl
  · exact ⟨0, 1234567891, 0, _, rfl, Int.le_refl _, Int.le_refl _, fun x hx => by
      obtain ⟨y, _, rfl⟩ := List.mem_map.mp hx
      exact absI_nn y, by rw [List.length_map]; exact hll⟩
end Dv
end
section
set_option Elab.async false
set_option linter.all false
set_option maxRecDepth 100000
set_option maxHeartbeats 2000000
/-! P7: _law_alike says yes to a value and itself. -/
namespace Dv
open PySem L2
mutual
/-- plain: numbers, words, None, tuples, lists -/
def alk : D → Bool
  | .non => true
  | .bl _ => true
  | .int _ => true
  | .str s => SeqAt.shaped (.str s)
  | .tup xs => alks xs
  | .lst xs => alks xs
  | .mls _ => false
  | .fn _ => false
  | .scr _ => false
  | .dct _ _ _ => false
  | .mdc _ _ _ => false
def alks : List D → Bool
  | [] => true
  | x :: xs => alk x && alks xs
end
mutual
def szD : D → Nat
  | .non => 1
  | .bl _ => 1
  | .int _ => 1
  | .str _ => 1
  | .tup xs => 1 + szDs xs
  | .lst xs => 1 + szDs xs
  | .mls _ => 1
  | .fn _ => 1
  | .scr _ => 1
  | .dct _ _ _ => 1
  | .mdc _ _ _ => 1
def szDs : List D → Nat
  | [] => 0
  | x :: xs => szD x + szDs xs
end
def kids : D → List D
  | .tup xs => xs
  | .lst xs => xs
  | _ => []
abbrev prD (d : D) : D := .tup [d, d]
theorem zip_self : ∀ xs : List D, zipD xs xs = xs.map prD
  | [] => rfl
  | x :: xs => by
    show D.tup [x, x] :: zipD xs xs = _
    rw [zip_self xs]
    rfl
theorem alks_mem : ∀ {xs : List D}, alks xs = true → ∀ x ∈ xs, alk x = true
  | [], _, x, h => by cases h
  | y :: xs, h, x, hx => by
    rw [alks, Bool.and_eq_true] at h
    rcases List.mem_cons.mp hx with rfl | hx
    · exact h.1
    · exact alks_mem h.2 x hx
theorem szD_pos : ∀ d : D, 1 ≤ szD d := by
  intro d
  cases d <;> simp [szD]
theorem szD_kids {d : D} (h : alk d = true) : szD d = 1 + szDs (kids d) := by
  cases d <;> first | rfl | cases h
theorem szDs_app : ∀ {a b : List D}, szDs (a ++ b) = szDs a + szDs b
  | [], b => by simp [szDs]
  | x :: a, b => by
    show szD x + szDs (a ++ b) = _
    rw [szDs_app]
    simp [szDs, Nat.add_assoc]
theorem szDs_len : ∀ a : List D, a.length ≤ szDs a
  | [] => Nat.le_refl _
  | x :: a => by
    have := szD_pos x
    have := szDs_len a
    simp [szDs]
    omega
theorem kids_alk {d : D} (h : alk d = true) : ∀ x ∈ kids d, alk x = true := by
  cases d <;> first | exact alks_mem h | (intro x hx; cases hx)
theorem eqD_bl (a b : Bool) : eqD (.bl a) (.bl b) = some (a == b) := by
  cases a <;> cases b <;> rfl
theorem eqD_str {a : Str} (h : SeqAt.shaped (.str a) = true) : eqD (.str a) (.str a) = some true := by
  have e : eqD (.str a) (.str a) = (if (SeqAt.shaped (.str a) && SeqAt.shaped (.str a)) = true then some (PyData.eqv (.str a) (.str a)) else none) := rfl
  rw [e, if_pos (by rw [h]; rfl)]
  simp [PyData.eqv]
def alikeB : Stas := .cons (.asg (.tup (.cons (.name 4) (.cons (.name 5) .nil))) (.ix (.var 2) (.var 3))) (.cons (.aug 3 .add (.int 1)) (.cons (.ife (.or (.cmp .ne (.isi (.var 4) [.bool]) (.isi (.var 5) [.bool])) (.cmp .ne (.isi (.var 4) [.str]) (.isi (.var 5) [.str]))) (.cons (.ret (.bl false)) .nil) .nil) (.cons (.ife (.cmp .ne (.isi (.var 4) [.tuple, .list]) (.isi (.var 5) [.tuple, .list])) (.cons (.ret (.bl false)) .nil) .nil) (.cons (.ife (.val (.isi (.var 4) [.tuple, .list])) (.cons (.ife (.or (.cmp .ne (.isi (.var 4) [.tuple]) (.isi (.var 5) [.tuple])) (.cmp .ne (.bi .len (.cons (.var 4) .nil)) (.bi .len (.cons (.var 5) .nil)))) (.cons (.ret (.bl false)) .nil) .nil) (.cons (.expr (.mt .extend (.var 2) (.cons (.lzip (.cons (.var 4) (.cons (.var 5) .nil))) .nil))) .nil)) (.cons (.ife (.cmp .ne (.var 4) (.var 5)) (.cons (.ret (.bl false)) .nil) .nil) .nil)) .nil))))
def alikeW : Sta := .whl (.cmp .lt (.var 3) (.bi .len (.cons (.var 2) .nil))) alikeB
def fd_alike : Fd := ⟨2, 6, [false, false], (.cons (.par [2, 3] (.cons (.lst (.cons (.tup (.cons (.var 0) (.cons (.var 1) .nil))) .nil)) (.cons (.int 0) .nil))) (.cons alikeW (.cons (.ret (.bl true)) .nil)))⟩
theorem fz_alk {d : D} (h : alk d = true) : d.fz = d := by
  cases d <;> first | rfl | cases h
theorem step_same {C : Ctx} {x0 x1 y4 y5 : Option D} {ps : List D} {k : Nat} {d : D} (hp : ∀ i, C.pr i = false) (hd : ps[k]? = some d) (ha : alk d = true) (hl : ps.length + (kids d).length ≤ sizeLine) :
    evSs C alikeB [x0, x1, some (.mls (ps.map prD)), some (.int (k : Nat)), y4, y5] = .ok .nx [x0, x1, some (.mls ((ps ++ kids d).map prD)), some (.int ((k + 1 : Nat) : Int)), some d, some d] := by
  have hk : k < ps.length := (List.getElem?_eq_some_iff.mp hd).1
  have hix : ixD (.mls (ps.map prD)) (.int (k : Nat)) = some (prD d) := by
    show L2.atI (ps.map prD) (k : Nat) = _
    unfold L2.atI L2.ixN
    rw [if_pos (by omega), if_pos (by rw [List.length_map]; omega)]
    show (ps.map prD)[(k : Int).toNat]? = _
    rw [Int.toNat_natCast, List.getElem?_map, hd]
    rfl
  have hfd := fz_alk ha
  have e1 : evS C (.asg (.tup (.cons (.name 4) (.cons (.name 5) .nil))) (.ix (.var 2) (.var 3))) [x0, x1, some (.mls (ps.map prD)), some (.int (k : Nat)), y4, y5] = .ok .nx [x0, x1, some (.mls (ps.map prD)), some (.int (k : Nat)), some d, some d] := by
    simp [evS, evE, bind_ok, getS_0, getS_s, deref_slot, hix, lft_some, take, D.fz, asgG, asgsG, protT, protTs, hp]
  have e2 : evS C (.aug 3 .add (.int 1)) [x0, x1, some (.mls (ps.map prD)), some (.int (k : Nat)), some d, some d] = .ok .nx [x0, x1, some (.mls (ps.map prD)), some (.int ((k + 1 : Nat) : Int)), some d, some d] := by
    simp [evS, evE, bind_ok, getS_0, getS_s, deref_val, augI, hp]
  have hisi : ∀ ts, ∃ b, isiD d ts = some b := by
    intro ts
    cases d <;> first | exact ⟨_, rfl⟩ | cases ha
  have hne : ∀ ts G, (∀ i, i = 4 ∨ i = 5 → getS G i = some d) → evT C (.cmp .ne (.isi (.var 4) ts) (.isi (.var 5) ts)) G = .ok false G := by
    intro ts G hG
    obtain ⟨b, hb⟩ := hisi ts
    simp [evT, evE, bind_ok, hG, deref_slot, deref_val, hb, lft_some, cmpD_ne, eqD_bl]
  have g45 : ∀ (a b : Option D), ∀ i, i = 4 ∨ i = 5 → getS [x0, x1, a, b, some d, some d] i = some d := by
    rintro a b i (rfl | rfl) <;> rfl
  have e3 : evS C (.ife (.or (.cmp .ne (.isi (.var 4) [.bool]) (.isi (.var 5) [.bool])) (.cmp .ne (.isi (.var 4) [.str]) (.isi (.var 5) [.str]))) (.cons (.ret (.bl false)) .nil) .nil) [x0, x1, some (.mls (ps.map prD)), some (.int ((k + 1 : Nat) : Int)), some d, some d] = .ok .nx [x0, x1, some (.mls (ps.map prD)), some (.int ((k + 1 : Nat) : Int)), some d, some d] := by
    rw [ife_f]
    · rfl
    · have e : ∀ a b G, evT C (.or a b) G = (evT C a G).bind fun k G1 => if k then .ok true G1 else evT C b G1 := fun _ _ _ => by simp [evT]
      rw [e, hne _ _ (g45 _ _), bind_ok, hne _ _ (g45 _ _)]
      rfl
  have e4 : evS C (.ife (.cmp .ne (.isi (.var 4) [.tuple, .list]) (.isi (.var 5) [.tuple, .list])) (.cons (.ret (.bl false)) .nil) .nil) [x0, x1, some (.mls (ps.map prD)), some (.int ((k + 1 : Nat) : Int)), some d, some d] = .ok .nx [x0, x1, some (.mls (ps.map prD)), some (.int ((k + 1 : Nat) : Int)), some d, some d] := by
    rw [ife_f (hne _ _ (g45 _ _))]
    rfl
  rw [alikeB, seq_nx e1, seq_nx e2, seq_nx e3, seq_nx e4]
  have hseq : ∀ xs : List D, (d = .tup xs ∨ d = .lst xs) → evSs C (.cons (.ife (.or (.cmp .ne (.isi (.var 4) [.tuple]) (.isi (.var 5) [.tuple])) (.cmp .ne (.bi .len (.cons (.var 4) .nil)) (.bi .len (.cons (.var 5) .nil)))) (.cons (.ret (.bl false)) .nil) .nil) (.cons (.expr (.mt .extend (.var 2) (.cons (.lzip (.cons (.var 4) (.cons (.var 5) .nil))) .nil))) .nil)) [x0, x1, some (.mls (ps.map prD)), some (.int ((k + 1 : Nat) : Int)), some d, some d] = .ok .nx [x0, x1, some (.mls ((ps ++ xs).map prD)), some (.int ((k + 1 : Nat) : Int)), some d, some d] := by
    intro xs hx
    have hkids : kids d = xs := by rcases hx with rfl | rfl <;> rfl
    rw [hkids] at hl
    have hlen : biD .len [d] = some (.int xs.length) := by rcases hx with rfl | rfl <;> rfl
    have hz : lzipX d d = some (.mls (xs.map prD)) := by
      have : zipX d d = some (.tup (xs.map prD)) := by
        rw [← zip_self]
        rcases hx with rfl | rfl <;> rfl
      unfold lzipX
      rw [this]
      show (if lenOk (xs.map prD) = true then _ else _) = _
      rw [if_pos (by unfold lenOk; rw [decide_eq_true_eq, List.length_map]; omega)]
    have c1 : evS C (.ife (.or (.cmp .ne (.isi (.var 4) [.tuple]) (.isi (.var 5) [.tuple])) (.cmp .ne (.bi .len (.cons (.var 4) .nil)) (.bi .len (.cons (.var 5) .nil)))) (.cons (.ret (.bl false)) .nil) .nil) [x0, x1, some (.mls (ps.map prD)), some (.int ((k + 1 : Nat) : Int)), some d, some d] = .ok .nx [x0, x1, some (.mls (ps.map prD)), some (.int ((k + 1 : Nat) : Int)), some d, some d] := by
      rw [ife_f]
      · rfl
      · have e : ∀ a b G, evT C (.or a b) G = (evT C a G).bind fun k G1 => if k then .ok true G1 else evT C b G1 := fun _ _ _ => by simp [evT]
        rw [e, hne _ _ (g45 _ _), bind_ok]
        simp [evT, evE, evEs, bind_ok, getS_0, getS_s, deref_slot, deref_val, derefs, hlen, lft_some, cmpD_ne, eqD_int]
    have hx2 : mtD .extend (.mls (ps.map prD)) [.lst (xs.map prD)] = some (.non, .mls (ps.map prD ++ xs.map prD)) := mt_ext (by rw [List.length_map, List.length_map]; exact hl)
    have hfz : D.fzs (xs.map prD) = xs.map prD := fzs_map (fun _ => rfl) _
    have c2 : evS C (.expr (.mt .extend (.var 2) (.cons (.lzip (.cons (.var 4) (.cons (.var 5) .nil))) .nil))) [x0, x1, some (.mls (ps.map prD)), some (.int ((k + 1 : Nat) : Int)), some d, some d] = .ok .nx [x0, x1, some (.mls ((ps ++ xs).map prD)), some (.int ((k + 1 : Nat) : Int)), some d, some d] := by
      rw [List.map_append]
      simp [evS, evE, evEs, bind_ok, getS_0, getS_s, takes, take, D.fz, hfd, on2, hz, hfz, lft_some, hx2]
    rw [seq_nx c1, seq_nx c2]
    rfl
  have hat : kids d = [] → isiD d [.tuple, .list] = some false → eqD d d = some true → evSs C (.cons (.ife (.val (.isi (.var 4) [.tuple, .list])) (.cons (.ife (.or (.cmp .ne (.isi (.var 4) [.tuple]) (.isi (.var 5) [.tuple])) (.cmp .ne (.bi .len (.cons (.var 4) .nil)) (.bi .len (.cons (.var 5) .nil)))) (.cons (.ret (.bl false)) .nil) .nil) (.cons (.expr (.mt .extend (.var 2) (.cons (.lzip (.cons (.var 4) (.cons (.var 5) .nil))) .nil))) .nil)) (.cons (.ife (.cmp .ne (.var 4) (.var 5)) (.cons (.ret (.bl false)) .nil) .nil) .nil)) .nil) [x0, x1, some (.mls (ps.map prD)), some (.int ((k + 1 : Nat) : Int)), some d, some d] = .ok .nx [x0, x1, some (.mls ((ps ++ kids d).map prD)), some (.int ((k + 1 : Nat) : Int)), some d, some d] := by
    intro hk0 hi he
    rw [hk0, List.append_nil]
    have ht : truthD (.bl false) = some false := rfl
    have et : evT C (.val (.isi (.var 4) [.tuple, .list])) [x0, x1, some (.mls (ps.map prD)), some (.int ((k + 1 : Nat) : Int)), some d, some d] = .ok false [x0, x1, some (.mls (ps.map prD)), some (.int ((k + 1 : Nat) : Int)), some d, some d] := by
      simp [evT, evE, bind_ok, getS_0, getS_s, deref_slot, deref_val, hi, lft_some, ht]
    have en : evT C (.cmp .ne (.var 4) (.var 5)) [x0, x1, some (.mls (ps.map prD)), some (.int ((k + 1 : Nat) : Int)), some d, some d] = .ok false [x0, x1, some (.mls (ps.map prD)), some (.int ((k + 1 : Nat) : Int)), some d, some d] := by
      simp [evT, evE, bind_ok, getS_0, getS_s, deref_slot, deref_val, cmpD_ne, he]
    rw [seq_nx]
    rotate_left
    · rw [ife_f et, seq_nx]
      rotate_left
      · rw [ife_f en]; rfl
      · rfl
    · rfl
  have hsq : ∀ xs : List D, (d = .tup xs ∨ d = .lst xs) → evSs C (.cons (.ife (.val (.isi (.var 4) [.tuple, .list])) (.cons (.ife (.or (.cmp .ne (.isi (.var 4) [.tuple]) (.isi (.var 5) [.tuple])) (.cmp .ne (.bi .len (.cons (.var 4) .nil)) (.bi .len (.cons (.var 5) .nil)))) (.cons (.ret (.bl false)) .nil) .nil) (.cons (.expr (.mt .extend (.var 2) (.cons (.lzip (.cons (.var 4) (.cons (.var 5) .nil))) .nil))) .nil)) (.cons (.ife (.cmp .ne (.var 4) (.var 5)) (.cons (.ret (.bl false)) .nil) .nil) .nil)) .nil) [x0, x1, some (.mls (ps.map prD)), some (.int ((k + 1 : Nat) : Int)), some d, some d] = .ok .nx [x0, x1, some (.mls ((ps ++ kids d).map prD)), some (.int ((k + 1 : Nat) : Int)), some d, some d] := by
    intro xs hx
    have hkids : kids d = xs := by rcases hx with rfl | rfl <;> rfl
    have hi : isiD d [.tuple, .list] = some true := by rcases hx with rfl | rfl <;> rfl
    have ht : truthD (.bl true) = some true := rfl
    have et : evT C (.val (.isi (.var 4) [.tuple, .list])) [x0, x1, some (.mls (ps.map prD)), some (.int ((k + 1 : Nat) : Int)), some d, some d] = .ok true [x0, x1, some (.mls (ps.map prD)), some (.int ((k + 1 : Nat) : Int)), some d, some d] := by
      simp [evT, evE, bind_ok, getS_0, getS_s, deref_slot, deref_val, hi, lft_some, ht]
    rw [hkids, seq_nx ((ife_t et).trans (hseq xs hx))]
    rfl
  cases d with
  | non => exact hat rfl rfl rfl
  | bl b => exact hat rfl rfl (by rw [eqD_bl]; cases b <;> rfl)
  | int i => exact hat rfl rfl (by rw [eqD_int]; simp)
  | str s => exact hat rfl rfl (eqD_str ha)
  | tup xs => exact hsq xs (.inl rfl)
  | lst xs => exact hsq xs (.inr rfl)
  | mls _ => cases ha
  | fn _ => cases ha
  | scr _ => cases ha
  | dct _ _ _ => cases ha
  | mdc _ _ _ => cases ha
theorem loop_same {C : Ctx} {x0 x1 y4 y5 : Option D} {d : D} (hp : ∀ i, C.pr i = false) (ha : alk d = true) (hs : szD d ≤ sizeLine) :
    ∃ G, evS C alikeW [x0, x1, some (.mls [prD d]), some (.int 0), y4, y5] = .ok .nx (x0 :: x1 :: G) := by
  have e : evS C alikeW [x0, x1, some (.mls [prD d]), some (.int 0), y4, y5] = whlL (evT C (.cmp .lt (.var 3) (.bi .len (.cons (.var 2) .nil)))) (evSs C alikeB) wf [x0, x1, some (.mls [prD d]), some (.int 0), y4, y5] := rfl
  obtain ⟨G', e2, ⟨ps, k, z4, z5, rfl, -⟩⟩ := whl_inv (c := evT C (.cmp .lt (.var 3) (.bi .len (.cons (.var 2) .nil)))) (b := evSs C alikeB) (m := szD d) (n := wf) (G := [x0, x1, some (.mls [prD d]), some (.int 0), y4, y5])
    (I := fun m G => ∃ (ps : List D) (k : Nat) (z4 z5 : Option D), G = [x0, x1, some (.mls (ps.map prD)), some (.int (k : Nat)), z4, z5] ∧ (∀ x ∈ ps, alk x = true) ∧ k ≤ ps.length ∧ szDs (ps.drop k) = m ∧ k + szDs (ps.drop k) ≤ sizeLine)
    (by have : sizeLine < wf := by decide
        omega)
    ⟨[d], 0, y4, y5, rfl, by simpa using ha, by simp, by simp [szDs], by simpa [szDs] using hs⟩
    (fun m G hI => by
      obtain ⟨ps, k, z4, z5, rfl, hal, hkl, hm, hsz⟩ := hI
      have hlen : biD .len [.mls (ps.map prD)] = some (.int ps.length) := by
        show some (D.int ((ps.map prD).length : Nat)) = _
        rw [List.length_map]
      by_cases hk : k < ps.length
      · right
        have hd : ps[k]? = some ps[k] := List.getElem?_eq_getElem hk
        have hak := hal _ (List.getElem_mem hk)
        have hdr : ps.drop k = ps[k] :: ps.drop (k + 1) := List.drop_eq_getElem_cons hk
        have hsz2 := szD_kids hak
        have h3 : szDs (ps.drop k) = szD ps[k] + szDs (ps.drop (k + 1)) := by rw [hdr]; rfl
        have h4 := szDs_len (ps.drop (k + 1))
        rw [List.length_drop] at h4
        have h5 := szDs_len (kids ps[k])
        refine ⟨_, _, szDs ((ps ++ kids ps[k]).drop (k + 1)), ?_, step_same (y4 := z4) (y5 := z5) hp hd hak (by omega), ?_, ps ++ kids ps[k], k + 1, _, _, rfl, ?_, ?_, rfl, ?_⟩
        · have hlt : ((k : Nat) : Int) < (ps.length : Nat) := by omega
          simp [evT, evE, evEs, bind_ok, getS_0, getS_s, deref_slot, deref_val, derefs, hlen, lft_some, cmpD_lt, hk]
        · rw [List.drop_append_of_le_length (by omega), szDs_app]
          omega
        · intro x hx
          rcases List.mem_append.mp hx with hx | hx
          · exact hal x hx
          · exact kids_alk hak x hx
        · rw [List.length_append]; omega
        · rw [List.drop_append_of_le_length (by omega), szDs_app]
          omega
      · left
        refine ⟨[x0, x1, some (.mls (ps.map prD)), some (.int (k : Nat)), z4, z5], ?_, ps, k, z4, z5, rfl, hal, hkl, ?_, hsz⟩
        · simp [evT, evE, evEs, bind_ok, getS_0, getS_s, deref_slot, deref_val, derefs, hlen, lft_some, cmpD_lt, hk]
        · rw [List.drop_eq_nil_of_le (by omega)]
          rfl)
  exact ⟨_, e.trans e2⟩
theorem ev_alike {PR : Prog} {n : Nat} {d : D} (hl : PR.lookup ("_law_alike" : Str) = some fd_alike) (ha : alk d = true) (hs : szD d ≤ sizeLine) : evF PR (n + 1) "_law_alike" [d, d] = .ret (.bl true) [d, d] := by
  have hp : ∀ i, (fun i => fd_alike.md.getD i false) i = false := by
    intro i
    rcases i with _ | _ | i <;> rfl
  obtain ⟨G, e2⟩ := loop_same (C := ⟨evF PR n, modes PR, fun i => fd_alike.md.getD i false, fd_alike.np⟩) (x0 := some d) (x1 := some d) (y4 := none) (y5 := none) hp ha hs
  have hfd := fz_alk ha
  have hp2 : fd_alike.md[2]?.getD false = false := rfl
  have hp3 : fd_alike.md[3]?.getD false = false := rfl
  have e1 : evS ⟨evF PR n, modes PR, fun i => fd_alike.md.getD i false, fd_alike.np⟩ (.par [2, 3] (.cons (.lst (.cons (.tup (.cons (.var 0) (.cons (.var 1) .nil))) .nil)) (.cons (.int 0) .nil))) [some d, some d, none, none, none, none] = .ok .nx [some d, some d, some (.mls [prD d]), some (.int 0), none, none] := by
    simp [evS, evE, evEs, bind_ok, getS_0, getS_s, takes, take, D.fz, hfd, lenOk, sizeLine, owns, own, setsG, hp2, hp3]
  exact ev_run hl rfl (by decide) (G := some d :: some d :: G) ((seq_nx e1).trans ((seq_nx e2).trans (ev_ret (by unfold evE; rfl) rfl))) rfl
end Dv
end
section
set_option Elab.async false
set_option linter.all false
set_option maxRecDepth 100000
set_option maxHeartbeats 2000000
namespace L98
open PySem PySem.Spec PyProof.Rows L2 Dv
def top (i : Nat) : Stmt := PySem.Challenge.pw_coinready_k98_whole_greatest_first_in_ch.main.body.getD i (.Pass ⟨0, 0, 0, 0⟩)
def b_is_integer : Stas := (.cons (.ret (.and (.isi (.var 0) [.int]) (.not (.isi (.var 0) [.bool])))) .nil)
def b_are_all : Stas := (.cons (.ret (.and (.isi (.var 0) [.tuple]) (.bi .all (.cons (.comp [2] (.name 2) (.seq (.var 0)) .none (.callv 1 ["is_integer"] (.cons (.var 2) .nil))) .nil)))) .nil)
def b_are_integers : Stas := (.cons (.ret (.call "are_all" (.cons (.var 0) (.cons (.fnr "is_integer") .nil)))) .nil)
def b_is_above : Stas := (.cons (.ret (.bi .all (.cons (.comp [2, 3] (.tup (.cons (.name 2) (.cons (.name 3) .nil))) (.zip (.cons (.var 0) (.cons (.var 1) .nil))) .none (.cmp .ge (.var 2) (.var 3))) .nil))) .nil)
def b_added : Stas := (.cons (.ret (.col .tuple (.comp [2, 3] (.tup (.cons (.name 2) (.cons (.name 3) .nil))) (.zip (.cons (.var 0) (.cons (.var 1) .nil))) .none (.bin .add (.var 2) (.var 3))))) .nil)
def b_less : Stas := (.cons (.ife (.not (.val (.call "is_above" (.cons (.var 0) (.cons (.var 1) .nil))))) (.cons .never .nil) .nil) (.cons (.ret (.col .tuple (.comp [2, 3] (.tup (.cons (.name 2) (.cons (.name 3) .nil))) (.zip (.cons (.var 0) (.cons (.var 1) .nil))) .none (.bin .sub (.var 2) (.var 3))))) .nil))
def b_worth : Stas := (.cons (.ret (.bi .sum (.cons (.comp [2, 3] (.tup (.cons (.name 2) (.cons (.name 3) .nil))) (.zip (.cons (.ix (.var 0) (.int 0)) (.cons (.var 1) .nil))) .none (.bin .mul (.var 2) (.var 3))) .nil))) .nil)
def b_is_chain_here : Stas := (.cons (.ret (.bi .all (.cons (.comp [1, 2] (.tup (.cons (.name 1) (.cons (.name 2) .nil))) (.zip (.cons (.ix (.var 0) (.int 0)) (.cons (.sl (.ix (.var 0) (.int 0)) (.some (.int 1)) .none) .nil))) .none (.cmp .eq (.bin .mod (.var 2) (.var 1)) (.int 0))) .nil))) .nil)
def b_need_chain : Stas := (.cons (.ife (.not (.val (.call "is_chain_here" (.cons (.var 0) .nil)))) (.cons .never .nil) .nil) .nil)
def b_small_worths : Stas := (.cons (.expr (.call "need_chain" (.cons (.var 0) .nil))) (.cons (.set 2 (.lst .nil)) (.cons (.for_ (.tup (.cons (.name 3) (.cons (.name 4) .nil))) (.zip (.cons (.ix (.var 0) (.int 0)) (.cons (.var 1) .nil))) (.cons (.expr (.mt .append (.var 2) (.cons (.bin .add (.bin .mul (.var 3) (.var 4)) (.ife (.val (.var 2)) (.ix (.var 2) (.neg (.int 1))) (.int 0))) .nil))) .nil)) (.cons (.ret (.col .tuple (.var 2))) .nil))))
def b_is_finer : Stas := (.cons (.zall 3 (.cons (.call "small_worths" (.cons (.var 0) (.cons (.var 1) .nil))) (.cons (.call "small_worths" (.cons (.var 0) (.cons (.var 2) .nil))) .nil)) [4, 5] (.tup (.cons (.name 4) (.cons (.name 5) .nil))) (.cmp .ge (.var 4) (.var 5))) .nil)
def b_greatest_first : Stas := (.cons (.set 3 (.lst .nil)) (.cons (.for_ (.tup (.cons (.name 4) (.cons (.name 5) .nil))) (.seq (.rev (.lzip (.cons (.ix (.var 0) (.int 0)) (.cons (.var 1) .nil))))) (.cons (.set 6 (.bi .min (.cons (.var 5) (.cons (.bin .fdiv (.var 2) (.var 4)) .nil)))) (.cons (.set 3 (.lst (.cons (.var 6) (.star (.var 3) .nil)))) (.cons (.aug 2 .sub (.bin .mul (.var 6) (.var 4))) .nil)))) (.cons (.ret (.ife (.cmp .eq (.var 2) (.int 0)) (.col .tuple (.var 3)) .non)) .nil)))
def b_dealt : Stas := (.cons (.expr (.call "need_chain" (.cons (.var 0) .nil))) (.cons (.set 3 (.lst .nil)) (.cons (.for_ (.name 4) (.seq (.var 2)) (.cons (.set 5 (.call "greatest_first" (.cons (.var 0) (.cons (.var 1) (.cons (.var 4) .nil))))) (.cons (.ife (.cmp .is_ (.var 5) .non) (.cons (.ret .non) .nil) .nil) (.cons (.expr (.mt .append (.var 3) (.cons (.var 5) .nil))) (.cons (.set 1 (.call "less" (.cons (.var 1) (.cons (.var 5) .nil)))) .nil))))) (.cons (.ret (.col .tuple (.var 3))) .nil))))
def b_finest_change : Stas := (.cons (.expr (.call "need_chain" (.cons (.var 0) .nil))) (.cons (.ret (.call "greatest_first" (.cons (.var 0) (.cons (.var 1) (.cons (.var 2) .nil))))) .nil))
def b_is_finest : Stas := (.cons (.expr (.call "need_chain" (.cons (.var 0) .nil))) (.cons (.ret (.and (.call "are_integers" (.cons (.var 3) .nil)) (.cmp .eq (.var 3) (.call "finest_change" (.cons (.var 0) (.cons (.var 1) (.cons (.var 2) .nil))))))) .nil))
def b_finest_behind : Stas := (.cons (.expr (.call "need_chain" (.cons (.var 0) .nil))) (.cons (.set 3 (.call "added" (.cons (.var 1) (.cons (.ix (.var 2) (.int 1)) .nil)))) (.cons (.set 4 (.call "greatest_first" (.cons (.var 0) (.cons (.var 3) (.cons (.bin .sub (.call "worth" (.cons (.var 0) (.cons (.ix (.var 2) (.int 1)) .nil))) (.ix (.var 2) (.int 0))) .nil))))) (.cons (.ret (.ife (.cmp .is_ (.var 4) .non) .non (.call "less" (.cons (.var 3) (.cons (.var 4) .nil))))) .nil))))
def b_parting_rows : Stas := (.cons (.ife (.val (.call "is_chain_here" (.cons (.var 0) .nil))) (.cons .never .nil) .nil) (.cons (.set 1 (.ix (.var 0) (.int 0))) (.cons (.set 2 (.ix (.comp [3] (.name 3) (.range (.cons (.bin .sub (.bi .len (.cons (.var 1) .nil)) (.int 1)) .nil)) (.some (.cmp .ne (.bin .mod (.ix (.var 1) (.bin .add (.var 3) (.int 1))) (.ix (.var 1) (.var 3))) (.int 0))) (.var 3)) (.int 0))) (.cons (.asg (.tup (.cons (.name 4) (.cons (.name 5) .nil))) (.tup (.cons (.ix (.var 1) (.var 2)) (.cons (.ix (.var 1) (.bin .add (.var 2) (.int 1))) .nil)))) (.cons (.par [6, 7] (.cons (.var 5) (.cons (.var 4) .nil))) (.cons (.whl (.cmp .gt (.var 6) (.int 0)) (.cons (.par [7, 6] (.cons (.var 6) (.cons (.bin .mod (.var 7) (.var 6)) .nil))) .nil)) (.cons (.set 8 (.bin .fdiv (.bin .mul (.var 4) (.var 5)) (.var 7))) (.cons (.set 9 (.col .tuple (.comp [3] (.name 3) (.range (.cons (.bi .len (.cons (.var 1) .nil)) .nil)) .none (.ife (.cmp .eq (.var 3) (.var 2)) (.bin .fdiv (.var 8) (.var 4)) (.int 0))))) (.cons (.set 10 (.col .tuple (.comp [3] (.name 3) (.range (.cons (.bi .len (.cons (.var 1) .nil)) .nil)) .none (.ife (.cmp .eq (.var 3) (.bin .add (.var 2) (.int 1))) (.bin .fdiv (.var 8) (.var 5)) (.int 0))))) (.cons (.ret (.tup (.cons (.call "added" (.cons (.var 9) (.cons (.var 10) .nil))) (.cons (.var 8) (.cons (.var 9) (.cons (.var 10) .nil)))))) .nil))))))))))
def b__law_bag : Stas := (.cons (.ret (.lst (.cons (.int 0) (.cons (.int 1234567891) (.cons (.int 0) (.cons (.comp [1] (.name 1) (.seq (.sl (.var 0) .none (.some (.int 63)))) .none (.bi .abs (.cons (.var 1) .nil))) .nil)))))) .nil)
def b__law_take : Stas := (.cons (.ife (.cmp .eq (.ix (.var 0) (.int 0)) (.int 0)) (.cons (.set 2 (.ix (.bin .add (.sl (.ix (.var 0) (.int 3)) (.some (.ix (.var 0) (.int 2))) .none) (.lst (.cons (.int 0) .nil))) (.int 0))) (.cons (.augIx (.var 0) (.int 2) .add (.int 1)) (.cons (.ife (.cmp .ge (.var 2) (.bin .pow (.int 10) (.int 18))) (.cons (.setIx (.var 0) (.int 0) (.var 2)) .nil) .nil) (.cons (.set 3 (.bin .add (.bin .add (.bin .mul (.ix (.var 0) (.int 1)) (.int 48271)) (.bin .mod (.bi .int (.cons (.var 2) .nil)) (.int 2147483647))) (.bin .mul (.int 7919) (.ix (.var 0) (.int 2))))) (.cons (.setIx (.var 0) (.int 1) (.bin .mod (.bi .int (.cons (.var 3) .nil)) (.int 2147483647))) .nil))))) .nil) (.cons (.ife (.cmp .gt (.ix (.var 0) (.int 0)) (.int 0)) (.cons (.set 4 (.bin .mod (.bi .int (.cons (.ix (.var 0) (.int 0)) .nil)) (.var 1))) (.cons (.setIx (.var 0) (.int 0) (.bin .fdiv (.bi .int (.cons (.ix (.var 0) (.int 0)) .nil)) (.var 1))) (.cons (.ret (.var 4)) .nil))) .nil) (.cons (.set 5 (.bin .mod (.bi .int (.cons (.bin .mul (.bin .add (.ix (.var 0) (.int 1)) (.int 1)) (.int 39373)) .nil)) (.int 1000000007))) (.cons (.set 6 (.bin .mod (.bi .int (.cons (.bin .mul (.bin .mod (.bi .int (.cons (.bin .mul (.var 5) (.var 5)) .nil)) (.int 998244353)) (.int 30011)) .nil)) (.int 998244353))) (.cons (.ret (.bin .mod (.bi .int (.cons (.bin .fdiv (.var 6) (.int 7)) .nil)) (.var 1))) .nil)))))
def b__law_some : Stas := (.cons (.ret (.ix (.var 1) (.call "_law_take" (.cons (.var 0) (.cons (.bi .len (.cons (.var 1) .nil)) .nil))))) .nil)
def b__law_alike : Stas := (.cons (.par [2, 3] (.cons (.lst (.cons (.tup (.cons (.var 0) (.cons (.var 1) .nil))) .nil)) (.cons (.int 0) .nil))) (.cons (.whl (.cmp .lt (.var 3) (.bi .len (.cons (.var 2) .nil))) (.cons (.asg (.tup (.cons (.name 4) (.cons (.name 5) .nil))) (.ix (.var 2) (.var 3))) (.cons (.aug 3 .add (.int 1)) (.cons (.ife (.or (.cmp .ne (.isi (.var 4) [.bool]) (.isi (.var 5) [.bool])) (.cmp .ne (.isi (.var 4) [.str]) (.isi (.var 5) [.str]))) (.cons (.ret (.bl false)) .nil) .nil) (.cons (.ife (.cmp .ne (.isi (.var 4) [.tuple, .list]) (.isi (.var 5) [.tuple, .list])) (.cons (.ret (.bl false)) .nil) .nil) (.cons (.ife (.val (.isi (.var 4) [.tuple, .list])) (.cons (.ife (.or (.cmp .ne (.isi (.var 4) [.tuple]) (.isi (.var 5) [.tuple])) (.cmp .ne (.bi .len (.cons (.var 4) .nil)) (.bi .len (.cons (.var 5) .nil)))) (.cons (.ret (.bl false)) .nil) .nil) (.cons (.expr (.mt .extend (.var 2) (.cons (.lzip (.cons (.var 4) (.cons (.var 5) .nil))) .nil))) .nil)) (.cons (.ife (.cmp .ne (.var 4) (.var 5)) (.cons (.ret (.bl false)) .nil) .nil) .nil)) .nil)))))) (.cons (.ret (.bl true)) .nil)))
def b__law_plus : Stas := (.cons (.ret (.col .tuple (.comp [2, 3] (.tup (.cons (.name 2) (.cons (.name 3) .nil))) (.zip (.cons (.var 0) (.cons (.var 1) .nil))) .none (.bin .add (.var 2) (.var 3))))) .nil)
def b__law_less : Stas := (.cons (.ret (.col .tuple (.comp [2, 3] (.tup (.cons (.name 2) (.cons (.name 3) .nil))) (.zip (.cons (.var 0) (.cons (.var 1) .nil))) .none (.bin .sub (.var 2) (.var 3))))) .nil)
def b__law_worth : Stas := (.cons (.ret (.bi .sum (.cons (.comp [2, 3] (.tup (.cons (.name 2) (.cons (.name 3) .nil))) (.zip (.cons (.ix (.var 0) (.int 0)) (.cons (.var 1) .nil))) .none (.bin .mul (.var 2) (.var 3))) .nil))) .nil)
def b__law_rows_worth : Stas := (.cons (.set 3 (.lst (.cons (.tup (.cons (.tup .nil) (.cons (.var 2) .nil))) .nil))) (.cons (.for_ (.tup (.cons (.name 4) (.cons (.name 5) .nil))) (.zip (.cons (.ix (.var 0) (.int 0)) (.cons (.var 1) .nil))) (.cons (.set 6 (.lst .nil)) (.cons (.for_ (.tup (.cons (.name 7) (.cons (.name 8) .nil))) (.seq (.var 3)) (.cons (.expr (.mt .extend (.var 6) (.cons (.comp [9] (.name 9) (.range (.cons (.bin .add (.var 5) (.int 1)) .nil)) (.some (.cmp .le (.bin .mul (.var 9) (.var 4)) (.var 8))) (.tup (.cons (.bin .add (.var 7) (.tup (.cons (.var 9) .nil))) (.cons (.bin .sub (.var 8) (.bin .mul (.var 9) (.var 4))) .nil)))) .nil))) .nil)) (.cons (.set 3 (.var 6)) .nil)))) (.cons (.ret (.col .sorted (.comp [7, 8] (.tup (.cons (.name 7) (.cons (.name 8) .nil))) (.seq (.var 3)) (.some (.cmp .eq (.var 8) (.int 0))) (.var 7)))) .nil)))
def b__law_due : Stas := (.cons (.ret (.bin .sub (.call "_law_worth" (.cons (.var 0) (.cons (.ix (.var 1) (.int 1)) .nil))) (.ix (.var 1) (.int 0)))) .nil)
def b__law_changes : Stas := (.cons (.ret (.call "_law_rows_worth" (.cons (.var 0) (.cons (.call "_law_plus" (.cons (.var 1) (.cons (.ix (.var 2) (.int 1)) .nil))) (.cons (.call "_law_due" (.cons (.var 0) (.cons (.var 2) .nil))) .nil))))) .nil)
def b__law_sale : Stas := (.cons (.set 3 (.bin .mul (.lst (.cons (.int 0) .nil)) (.bi .len (.cons (.ix (.var 1) (.int 0)) .nil)))) (.cons (.for_ (.name 4) (.range (.cons (.bin .add (.int 1) (.call "_law_take" (.cons (.var 0) (.cons (.var 2) .nil)))) .nil)) (.cons (.augIx (.var 3) (.call "_law_take" (.cons (.var 0) (.cons (.bi .len (.cons (.var 3) .nil)) .nil))) .add (.int 1)) .nil)) (.cons (.set 5 (.call "_law_worth" (.cons (.var 1) (.cons (.col .tuple (.var 3)) .nil)))) (.cons (.ret (.tup (.cons (.bi .min (.cons (.int 5000) (.cons (.bi .max (.cons (.int 1) (.cons (.bin .sub (.var 5) (.call "_law_take" (.cons (.var 0) (.cons (.bin .add (.var 5) (.int 1)) .nil)))) .nil))) .nil))) (.cons (.col .tuple (.var 3)) .nil)))) .nil))))
def b__law_chain : Stas := (.cons (.set 1 (.call "_law_some" (.cons (.var 0) (.cons (.lst (.cons (.tup (.cons (.int 1) (.cons (.int 2) .nil))) (.cons (.tup (.cons (.int 1) (.cons (.int 2) (.cons (.int 4) .nil)))) (.cons (.tup (.cons (.int 1) (.cons (.int 5) (.cons (.int 10) .nil)))) (.cons (.tup (.cons (.int 2) (.cons (.int 6) .nil))) (.cons (.tup (.cons (.int 1) (.cons (.int 3) (.cons (.int 6) .nil)))) (.cons (.tup (.cons (.int 5) (.cons (.int 10) (.cons (.int 50) .nil)))) .nil))))))) .nil)))) (.cons (.ret (.tup (.cons (.var 1) (.cons (.bin .mul (.tup (.cons (.int 40) .nil)) (.bi .len (.cons (.var 1) .nil))) .nil)))) .nil))
def b__law_worths : Stas := (.cons (.ret (.col .tuple (.comp [4] (.name 4) (.range (.cons (.bi .len (.cons (.var 1) .nil)) .nil)) .none (.bi .sum (.cons (.comp [2, 3] (.tup (.cons (.name 2) (.cons (.name 3) .nil))) (.zip (.cons (.sl (.ix (.var 0) (.int 0)) .none (.some (.bin .add (.var 4) (.int 1)))) (.cons (.var 1) .nil))) .none (.bin .mul (.var 2) (.var 3))) .nil))))) .nil)
def b__law_is_finer : Stas := (.cons (.ret (.cmp .eq (.comp [3, 4] (.tup (.cons (.name 3) (.cons (.name 4) .nil))) (.zip (.cons (.call "_law_worths" (.cons (.var 0) (.cons (.var 1) .nil))) (.cons (.call "_law_worths" (.cons (.var 0) (.cons (.var 2) .nil))) .nil))) (.some (.cmp .lt (.var 3) (.var 4))) (.int 1)) (.lst .nil))) .nil)
def b__law_served : Stas := (.cons (.set 3 (.lst (.cons (.var 1) .nil))) (.cons (.for_ (.tup (.cons (.name 4) (.cons (.name 5) .nil))) (.enum (.cons (.var 2) .nil)) (.cons (.set 6 (.dnew true)) (.cons (.for_ (.name 7) (.seq (.var 3)) (.cons (.set 8 (.call "_law_plus" (.cons (.var 7) (.cons (.ix (.var 5) (.int 1)) .nil)))) (.cons (.expr (.upd 6 (.dctp (.comp [9] (.name 9) (.seq (.call "_law_changes" (.cons (.var 0) (.cons (.var 7) (.cons (.var 5) .nil))))) .none (.tup (.cons (.call "_law_less" (.cons (.var 8) (.cons (.var 9) .nil))) (.cons (.bl true) .nil))))))) .nil))) (.cons (.ife (.emp (.var 6)) (.cons (.ret (.var 4)) .nil) .nil) (.cons (.set 3 (.keys (.var 6))) .nil))))) (.cons (.ret (.bi .len (.cons (.var 2) .nil))) .nil)))
def b__law_greedy : Stas := (.cons (.for_ (.tup (.cons (.name 3) (.cons (.name 4) .nil))) (.enum (.cons (.var 2) .nil)) (.cons (.set 5 (.call "finest_behind" (.cons (.var 0) (.cons (.var 1) (.cons (.var 4) .nil))))) (.cons (.ife (.cmp .is_ (.var 5) .non) (.cons (.ret (.var 3)) .nil) .nil) (.cons (.set 1 (.var 5)) .nil)))) (.cons (.ret (.bi .len (.cons (.var 2) .nil))) .nil))
def b__law_change_right : Stas := (.cons (.asg (.tup (.cons (.name 3) (.cons (.name 4) .nil))) (.tup (.cons (.call "_law_changes" (.cons (.var 0) (.cons (.var 1) (.cons (.var 2) .nil)))) (.cons (.call "_law_plus" (.cons (.var 1) (.cons (.ix (.var 2) (.int 1)) .nil))) .nil)))) (.cons (.set 5 (.bin .sub (.call "_law_worth" (.cons (.var 0) (.cons (.ix (.var 2) (.int 1)) .nil))) (.ix (.var 2) (.int 0)))) (.cons (.set 6 (.call "finest_change" (.cons (.var 0) (.cons (.var 4) (.cons (.var 5) .nil))))) (.cons (.ife (.or (.cmp .eq (.var 3) (.lst .nil)) (.cmp .is_ (.var 6) .non)) (.cons (.ret (.and (.cmp .eq (.var 3) (.lst .nil)) (.cmp .is_ (.var 6) .non))) .nil) .nil) (.cons (.set 7 (.call "_law_less" (.cons (.var 4) (.cons (.var 6) .nil)))) (.cons (.ife (.or (.cmp .nin (.var 6) (.var 3)) (.cmp .ne (.comp [8] (.name 8) (.seq (.var 3)) (.some (.not (.val (.call "_law_is_finer" (.cons (.var 0) (.cons (.var 7) (.cons (.call "_law_less" (.cons (.var 4) (.cons (.var 8) .nil))) .nil))))))) (.var 8)) (.lst .nil))) (.cons (.ret (.bl false)) .nil) .nil) (.cons (.ret (.call "_law_alike" (.cons (.comp [8] (.name 8) (.seq (.var 3)) .none (.call "is_finest" (.cons (.var 0) (.cons (.var 4) (.cons (.var 5) (.cons (.var 8) .nil)))))) (.cons (.comp [8] (.name 8) (.seq (.var 3)) .none (.cmp .eq (.var 8) (.var 6))) .nil)))) .nil)))))))
def b__law_parted_right : Stas := (.cons (.set 1 (.call "_law_some" (.cons (.var 0) (.cons (.lst (.cons (.tup (.cons (.int 2) (.cons (.int 3) .nil))) (.cons (.tup (.cons (.int 2) (.cons (.int 5) .nil))) (.cons (.tup (.cons (.int 3) (.cons (.int 4) .nil))) (.cons (.tup (.cons (.int 1) (.cons (.int 4) (.cons (.int 6) .nil)))) (.cons (.tup (.cons (.int 2) (.cons (.int 4) (.cons (.int 5) .nil)))) .nil)))))) .nil)))) (.cons (.set 2 (.tup (.cons (.var 1) (.cons (.bin .mul (.tup (.cons (.int 40) .nil)) (.bi .len (.cons (.var 1) .nil))) .nil)))) (.cons (.asg (.tup (.cons (.name 3) (.cons (.name 4) (.cons (.name 5) (.cons (.name 6) .nil))))) (.call "parting_rows" (.cons (.var 2) .nil))) (.cons (.ife (.or (.cmp .eq (.var 5) (.var 6)) (.or (.cmp .nin (.var 5) (.call "_law_rows_worth" (.cons (.var 2) (.cons (.var 3) (.cons (.var 4) .nil))))) (.cmp .nin (.var 6) (.call "_law_rows_worth" (.cons (.var 2) (.cons (.var 3) (.cons (.var 4) .nil))))))) (.cons (.ret (.bl false)) .nil) .nil) (.cons (.set 7 (.comp [8] (.name 8) (.seq (.tup (.cons (.var 5) (.cons (.var 6) .nil)))) .none (.call "_law_less" (.cons (.var 3) (.cons (.var 8) .nil))))) (.cons (.set 9 (.ix (.comp [10] (.name 10) (.range (.cons (.bin .sub (.bi .len (.cons (.var 1) .nil)) (.int 1)) .nil)) (.some (.cmp .ne (.bin .mod (.ix (.var 1) (.bin .add (.var 10) (.int 1))) (.ix (.var 1) (.var 10))) (.int 0))) (.var 10)) (.int 0))) (.cons (.set 11 (.comp [13] (.name 13) (.seq (.var 7)) .none (.comp [12] (.name 12) (.seq (.tup (.cons (.ix (.var 1) (.bin .add (.var 9) (.int 1))) (.cons (.ix (.var 1) (.var 9)) .nil)))) .none (.cmp .ne (.call "_law_rows_worth" (.cons (.var 2) (.cons (.var 13) (.cons (.var 12) .nil)))) (.lst .nil))))) (.cons (.ret (.cmp .eq (.var 11) (.lst (.cons (.lst (.cons (.bl true) (.cons (.bl false) .nil))) (.cons (.lst (.cons (.bl false) (.cons (.bl true) .nil))) .nil))))) .nil))))))))
def b_law : Stas := (.cons (.set 1 (.call "_law_bag" (.cons (.var 0) .nil))) (.cons (.for_ (.name 2) (.range (.cons (.int 5) .nil)) (.cons (.set 3 (.call "_law_chain" (.cons (.var 1) .nil))) (.cons (.set 4 (.col .tuple (.comp [5] (.name 5) (.seq (.ix (.var 3) (.int 0))) .none (.call "_law_take" (.cons (.var 1) (.cons (.int 5) .nil)))))) (.cons (.set 6 (.comp [7] (.name 7) (.range (.cons (.bin .add (.int 1) (.call "_law_take" (.cons (.var 1) (.cons (.int 4) .nil)))) .nil)) .none (.call "_law_sale" (.cons (.var 1) (.cons (.var 3) (.cons (.int 3) .nil)))))) (.cons (.ife (.cmp .ne (.comp [7] (.name 7) (.seq (.var 6)) (.some (.not (.val (.call "_law_change_right" (.cons (.var 3) (.cons (.var 4) (.cons (.var 7) .nil))))))) (.int 1)) (.lst .nil)) (.cons (.ret (.bl false)) .nil) .nil) (.cons (.ife (.not (.val (.call "_law_alike" (.cons (.call "_law_greedy" (.cons (.var 3) (.cons (.var 4) (.cons (.var 6) .nil)))) (.cons (.call "_law_served" (.cons (.var 3) (.cons (.var 4) (.cons (.var 6) .nil)))) .nil))))) (.cons (.ret (.bl false)) .nil) .nil) (.cons (.set 8 (.col .tuple (.comp [5] (.name 5) (.seq (.ix (.var 3) (.int 0))) .none (.call "_law_take" (.cons (.var 1) (.cons (.int 5) .nil)))))) (.cons (.set 9 (.call "_law_is_finer" (.cons (.var 3) (.cons (.var 4) (.cons (.var 8) .nil))))) (.cons (.ife (.not (.val (.call "_law_alike" (.cons (.lst (.cons (.call "is_finer" (.cons (.var 3) (.cons (.var 4) (.cons (.var 8) .nil)))) (.cons (.call "small_worths" (.cons (.var 3) (.cons (.var 4) .nil))) .nil))) (.cons (.lst (.cons (.var 9) (.cons (.call "_law_worths" (.cons (.var 3) (.cons (.var 4) .nil))) .nil))) .nil))))) (.cons (.ret (.bl false)) .nil) .nil) (.cons (.set 10 (.col .tuple (.comp [11] (.name 11) (.range (.cons (.bin .add (.int 1) (.call "_law_take" (.cons (.var 1) (.cons (.int 3) .nil)))) .nil)) .none (.bin .mul (.ix (.ix (.var 3) (.int 0)) (.int 0)) (.bin .add (.int 1) (.call "_law_take" (.cons (.var 1) (.cons (.int 8) .nil)))))))) (.cons (.ife (.and (.val (.var 9)) (.and (.cmp .isnt (.call "dealt" (.cons (.var 3) (.cons (.var 8) (.cons (.var 10) .nil)))) .non) (.cmp .is_ (.call "dealt" (.cons (.var 3) (.cons (.var 4) (.cons (.var 10) .nil)))) .non))) (.cons (.ret (.bl false)) .nil) .nil) .nil))))))))))) (.cons (.ret (.call "_law_parted_right" (.cons (.var 1) .nil))) .nil)))
def pg : Prog := ((("is_integer", ⟨1, 1, [false], b_is_integer⟩) : Str × Fd) :: (("are_all", ⟨2, 3, [false, false], b_are_all⟩) : Str × Fd) :: (("are_integers", ⟨1, 1, [false], b_are_integers⟩) : Str × Fd) :: (("is_above", ⟨2, 4, [false, false], b_is_above⟩) : Str × Fd) :: (("added", ⟨2, 4, [false, false], b_added⟩) : Str × Fd) :: (("less", ⟨2, 4, [false, false], b_less⟩) : Str × Fd) :: (("worth", ⟨2, 4, [false, false], b_worth⟩) : Str × Fd) :: (("is_chain_here", ⟨1, 3, [false], b_is_chain_here⟩) : Str × Fd) :: (("need_chain", ⟨1, 1, [false], b_need_chain⟩) : Str × Fd) :: (("small_worths", ⟨2, 5, [false, false], b_small_worths⟩) : Str × Fd) :: (("is_finer", ⟨3, 6, [false, false, false], b_is_finer⟩) : Str × Fd) :: (("greatest_first", ⟨3, 7, [false, false, false], b_greatest_first⟩) : Str × Fd) :: (("dealt", ⟨3, 6, [false, false, false], b_dealt⟩) : Str × Fd) :: (("finest_change", ⟨3, 3, [false, false, false], b_finest_change⟩) : Str × Fd) :: (("is_finest", ⟨4, 4, [false, false, false, false], b_is_finest⟩) : Str × Fd) :: (("finest_behind", ⟨3, 5, [false, false, false], b_finest_behind⟩) : Str × Fd) :: (("parting_rows", ⟨1, 11, [false], b_parting_rows⟩) : Str × Fd) :: (("_law_bag", ⟨1, 2, [false], b__law_bag⟩) : Str × Fd) :: (("_law_take", ⟨2, 7, [true, false], b__law_take⟩) : Str × Fd) :: (("_law_some", ⟨2, 2, [true, false], b__law_some⟩) : Str × Fd) :: (("_law_alike", ⟨2, 6, [false, false], b__law_alike⟩) : Str × Fd) :: (("_law_plus", ⟨2, 4, [false, false], b__law_plus⟩) : Str × Fd) :: (("_law_less", ⟨2, 4, [false, false], b__law_less⟩) : Str × Fd) :: (("_law_worth", ⟨2, 4, [false, false], b__law_worth⟩) : Str × Fd) :: (("_law_rows_worth", ⟨3, 10, [false, false, false], b__law_rows_worth⟩) : Str × Fd) :: (("_law_due", ⟨2, 2, [false, false], b__law_due⟩) : Str × Fd) :: (("_law_changes", ⟨3, 3, [false, false, false], b__law_changes⟩) : Str × Fd) :: (("_law_sale", ⟨3, 6, [true, false, false], b__law_sale⟩) : Str × Fd) :: (("_law_chain", ⟨1, 2, [true], b__law_chain⟩) : Str × Fd) :: (("_law_worths", ⟨2, 5, [false, false], b__law_worths⟩) : Str × Fd) :: (("_law_is_finer", ⟨3, 5, [false, false, false], b__law_is_finer⟩) : Str × Fd) :: (("_law_served", ⟨3, 10, [false, false, false], b__law_served⟩) : Str × Fd) :: (("_law_greedy", ⟨3, 6, [false, false, false], b__law_greedy⟩) : Str × Fd) :: (("_law_change_right", ⟨3, 9, [false, false, false], b__law_change_right⟩) : Str × Fd) :: (("_law_parted_right", ⟨1, 14, [true], b__law_parted_right⟩) : Str × Fd) :: (("law", ⟨1, 12, [false], b_law⟩) : Str × Fd) :: [])
def sg : List (Str × Nat) := ((("is_integer", 1) : Str × Nat) :: (("are_all", 2) : Str × Nat) :: (("are_integers", 1) : Str × Nat) :: (("is_above", 2) : Str × Nat) :: (("added", 2) : Str × Nat) :: (("less", 2) : Str × Nat) :: (("worth", 2) : Str × Nat) :: (("is_chain_here", 1) : Str × Nat) :: (("need_chain", 1) : Str × Nat) :: (("small_worths", 2) : Str × Nat) :: (("is_finer", 3) : Str × Nat) :: (("greatest_first", 3) : Str × Nat) :: (("dealt", 3) : Str × Nat) :: (("finest_change", 3) : Str × Nat) :: (("is_finest", 4) : Str × Nat) :: (("finest_behind", 3) : Str × Nat) :: (("parting_rows", 1) : Str × Nat) :: (("_law_bag", 1) : Str × Nat) :: (("_law_take", 2) : Str × Nat) :: (("_law_some", 2) : Str × Nat) :: (("_law_alike", 2) : Str × Nat) :: (("_law_plus", 2) : Str × Nat) :: (("_law_less", 2) : Str × Nat) :: (("_law_worth", 2) : Str × Nat) :: (("_law_rows_worth", 3) : Str × Nat) :: (("_law_due", 2) : Str × Nat) :: (("_law_changes", 3) : Str × Nat) :: (("_law_sale", 3) : Str × Nat) :: (("_law_chain", 1) : Str × Nat) :: (("_law_worths", 2) : Str × Nat) :: (("_law_is_finer", 3) : Str × Nat) :: (("_law_served", 3) : Str × Nat) :: (("_law_greedy", 3) : Str × Nat) :: (("_law_change_right", 3) : Str × Nat) :: (("_law_parted_right", 1) : Str × Nat) :: (("law", 1) : Str × Nat) :: [])
def fr : List Str := ["abs", "all", "bool", "dict", "enumerate", "int", "isinstance", "len", "list", "max", "min", "range", "sorted", "str", "sum", "tuple", "zip"]
section
variable {P : Program} {w : World} {K : PySem.W.Frag} {mg : Str → Option Value} {base : Heap} {xf : Str → List Str} {C : Dv.Ctx} {qual : Str} {fa : Addr} {cdv : Value} {A : Around} {outer : List Env} {s : Shared} {H : Hp} {E : XK}
theorem s_is_integer : FnScope ["thing"] ["thing"] (defScope (top 5)) := ⟨rfl, rfl, rfl, by decide +kernel, rfl, by decide +kernel, by decide +kernel⟩
theorem t_is_integer (O : Cok (cxOf (L2.CX P w) P w K mg base ["thing"] qual (defScope (top 5)) fa cdv A outer s H E) xf (fun cls d _ H => E cls d H) C sg fr) (pw : PassesOwn (model P w) (cxOf (L2.CX P w) P w K mg base ["thing"] qual (defScope (top 5)) fa cdv A outer s H E).A (cxOf (L2.CX P w) P w K mg base ["thing"] qual (defScope (top 5)) fa cdv A outer s H E).env (cxOf (L2.CX P w) P w K mg base ["thing"] qual (defScope (top 5)) fa cdv A outer s H E).xe) : NB (cxOf (L2.CX P w) P w K mg base ["thing"] qual (defScope (top 5)) fa cdv A outer s H E) xf (fun cls d _ H => E cls d H) C (defBody (top 5)) b_is_integer :=
  (n_then (n_ret (n_and (n_isi1 O .int n_var) (n_one (n_not (n_isi1 O .bool n_var))))) n_end)
theorem s_are_all : FnScope ["thing", "fits", "member"] ["thing", "fits"] (defScope (top 6)) := ⟨rfl, rfl, rfl, by decide +kernel, rfl, by decide +kernel, by decide +kernel⟩
theorem t_are_all (O : Cok (cxOf (L2.CX P w) P w K mg base ["thing", "fits", "member"] qual (defScope (top 6)) fa cdv A outer s H E) xf (fun cls d _ H => E cls d H) C sg fr) (pw : PassesOwn (model P w) (cxOf (L2.CX P w) P w K mg base ["thing", "fits", "member"] qual (defScope (top 6)) fa cdv A outer s H E).A (cxOf (L2.CX P w) P w K mg base ["thing", "fits", "member"] qual (defScope (top 6)) fa cdv A outer s H E).env (cxOf (L2.CX P w) P w K mg base ["thing", "fits", "member"] qual (defScope (top 6)) fa cdv A outer s H E).xe) : NB (cxOf (L2.CX P w) P w K mg base ["thing", "fits", "member"] qual (defScope (top 6)) fa cdv A outer s H E) xf (fun cls d _ H => E cls d H) C (defBody (top 6)) b_are_all :=
  (n_then (n_ret (n_and (n_isi1 O .tuple n_var) (n_one (n_bi O .all (n_cons (n_comp0 (own := [("member", 2)]) O (n_seq n_var) (fun _ _ _ _ _ O => (n_gname O)) (fun _ _ _ _ _ O => (n_callv O (n_cons n_var n_nil)))) n_nil))))) n_end)
theorem s_are_integers : FnScope ["thing"] ["thing"] (defScope (top 7)) := ⟨rfl, rfl, rfl, by decide +kernel, rfl, by decide +kernel, by decide +kernel⟩
theorem t_are_integers (O : Cok (cxOf (L2.CX P w) P w K mg base ["thing"] qual (defScope (top 7)) fa cdv A outer s H E) xf (fun cls d _ H => E cls d H) C sg fr) (pw : PassesOwn (model P w) (cxOf (L2.CX P w) P w K mg base ["thing"] qual (defScope (top 7)) fa cdv A outer s H E).A (cxOf (L2.CX P w) P w K mg base ["thing"] qual (defScope (top 7)) fa cdv A outer s H E).env (cxOf (L2.CX P w) P w K mg base ["thing"] qual (defScope (top 7)) fa cdv A outer s H E).xe) : NB (cxOf (L2.CX P w) P w K mg base ["thing"] qual (defScope (top 7)) fa cdv A outer s H E) xf (fun cls d _ H => E cls d H) C (defBody (top 7)) b_are_integers :=
  (n_then (n_ret (n_call O (n_cons n_var (n_cons (n_fn O) n_nil)))) n_end)
theorem s_is_above : FnScope ["one", "other", "mine", "its"] ["one", "other"] (defScope (top 9)) := ⟨rfl, rfl, rfl, by decide +kernel, rfl, by decide +kernel, by decide +kernel⟩
theorem t_is_above (O : Cok (cxOf (L2.CX P w) P w K mg base ["one", "other", "mine", "its"] qual (defScope (top 9)) fa cdv A outer s H E) xf (fun cls d _ H => E cls d H) C sg fr) (pw : PassesOwn (model P w) (cxOf (L2.CX P w) P w K mg base ["one", "other", "mine", "its"] qual (defScope (top 9)) fa cdv A outer s H E).A (cxOf (L2.CX P w) P w K mg base ["one", "other", "mine", "its"] qual (defScope (top 9)) fa cdv A outer s H E).env (cxOf (L2.CX P w) P w K mg base ["one", "other", "mine", "its"] qual (defScope (top 9)) fa cdv A outer s H E).xe) : NB (cxOf (L2.CX P w) P w K mg base ["one", "other", "mine", "its"] qual (defScope (top 9)) fa cdv A outer s H E) xf (fun cls d _ H => E cls d H) C (defBody (top 9)) b_is_above :=
  (n_then (n_ret (n_bi O .all (n_cons (n_comp0 (own := [("mine", 2), ("its", 3)]) O (n_zip O (n_cons n_var (n_cons n_var n_nil))) (fun _ _ _ _ _ O => (n_gtup O (n_gcons (n_gname O) (n_gcons (n_gname O) n_gnil)))) (fun _ _ _ _ _ O => (n_cmp O .ge n_var n_var))) n_nil))) n_end)
theorem s_added : FnScope ["one", "other", "mine", "its"] ["one", "other"] (defScope (top 10)) := ⟨rfl, rfl, rfl, by decide +kernel, rfl, by decide +kernel, by decide +kernel⟩
theorem t_added (O : Cok (cxOf (L2.CX P w) P w K mg base ["one", "other", "mine", "its"] qual (defScope (top 10)) fa cdv A outer s H E) xf (fun cls d _ H => E cls d H) C sg fr) (pw : PassesOwn (model P w) (cxOf (L2.CX P w) P w K mg base ["one", "other", "mine", "its"] qual (defScope (top 10)) fa cdv A outer s H E).A (cxOf (L2.CX P w) P w K mg base ["one", "other", "mine", "its"] qual (defScope (top 10)) fa cdv A outer s H E).env (cxOf (L2.CX P w) P w K mg base ["one", "other", "mine", "its"] qual (defScope (top 10)) fa cdv A outer s H E).xe) : NB (cxOf (L2.CX P w) P w K mg base ["one", "other", "mine", "its"] qual (defScope (top 10)) fa cdv A outer s H E) xf (fun cls d _ H => E cls d H) C (defBody (top 10)) b_added :=
  (n_then (n_ret (n_tuple O (n_comp0 (own := [("mine", 2), ("its", 3)]) O (n_zip O (n_cons n_var (n_cons n_var n_nil))) (fun _ _ _ _ _ O => (n_gtup O (n_gcons (n_gname O) (n_gcons (n_gname O) n_gnil)))) (fun _ _ _ _ _ O => (n_bin .add n_var n_var))))) n_end)
theorem s_less : FnScope ["one", "other", "mine", "its"] ["one", "other"] (defScope (top 11)) := ⟨rfl, rfl, rfl, by decide +kernel, rfl, by decide +kernel, by decide +kernel⟩
theorem t_less (O : Cok (cxOf (L2.CX P w) P w K mg base ["one", "other", "mine", "its"] qual (defScope (top 11)) fa cdv A outer s H E) xf (fun cls d _ H => E cls d H) C sg fr) (pw : PassesOwn (model P w) (cxOf (L2.CX P w) P w K mg base ["one", "other", "mine", "its"] qual (defScope (top 11)) fa cdv A outer s H E).A (cxOf (L2.CX P w) P w K mg base ["one", "other", "mine", "its"] qual (defScope (top 11)) fa cdv A outer s H E).env (cxOf (L2.CX P w) P w K mg base ["one", "other", "mine", "its"] qual (defScope (top 11)) fa cdv A outer s H E).xe) : NB (cxOf (L2.CX P w) P w K mg base ["one", "other", "mine", "its"] qual (defScope (top 11)) fa cdv A outer s H E) xf (fun cls d _ H => E cls d H) C (defBody (top 11)) b_less :=
  (n_then (n_if (n_tnot (n_tval (n_call O (n_cons n_var (n_cons n_var n_nil))))) (n_then n_never n_end) n_end) (n_then (n_ret (n_tuple O (n_comp0 (own := [("mine", 2), ("its", 3)]) O (n_zip O (n_cons n_var (n_cons n_var n_nil))) (fun _ _ _ _ _ O => (n_gtup O (n_gcons (n_gname O) (n_gcons (n_gname O) n_gnil)))) (fun _ _ _ _ _ O => (n_bin .sub n_var n_var))))) n_end))
theorem s_worth : FnScope ["coinage", "row", "value", "many"] ["coinage", "row"] (defScope (top 12)) := ⟨rfl, rfl, rfl, by decide +kernel, rfl, by decide +kernel, by decide +kernel⟩
theorem t_worth (O : Cok (cxOf (L2.CX P w) P w K mg base ["coinage", "row", "value", "many"] qual (defScope (top 12)) fa cdv A outer s H E) xf (fun cls d _ H => E cls d H) C sg fr) (pw : PassesOwn (model P w) (cxOf (L2.CX P w) P w K mg base ["coinage", "row", "value", "many"] qual (defScope (top 12)) fa cdv A outer s H E).A (cxOf (L2.CX P w) P w K mg base ["coinage", "row", "value", "many"] qual (defScope (top 12)) fa cdv A outer s H E).env (cxOf (L2.CX P w) P w K mg base ["coinage", "row", "value", "many"] qual (defScope (top 12)) fa cdv A outer s H E).xe) : NB (cxOf (L2.CX P w) P w K mg base ["coinage", "row", "value", "many"] qual (defScope (top 12)) fa cdv A outer s H E) xf (fun cls d _ H => E cls d H) C (defBody (top 12)) b_worth :=
  (n_then (n_ret (n_bi O .sum (n_cons (n_comp0 (own := [("value", 2), ("many", 3)]) O (n_zip O (n_cons (n_ix n_var n_int) (n_cons n_var n_nil))) (fun _ _ _ _ _ O => (n_gtup O (n_gcons (n_gname O) (n_gcons (n_gname O) n_gnil)))) (fun _ _ _ _ _ O => (n_bin .mul n_var n_var))) n_nil))) n_end)
theorem s_is_chain_here : FnScope ["coinage", "one", "other"] ["coinage"] (defScope (top 14)) := ⟨rfl, rfl, rfl, by decide +kernel, rfl, by decide +kernel, by decide +kernel⟩
theorem t_is_chain_here (O : Cok (cxOf (L2.CX P w) P w K mg base ["coinage", "one", "other"] qual (defScope (top 14)) fa cdv A outer s H E) xf (fun cls d _ H => E cls d H) C sg fr) (pw : PassesOwn (model P w) (cxOf (L2.CX P w) P w K mg base ["coinage", "one", "other"] qual (defScope (top 14)) fa cdv A outer s H E).A (cxOf (L2.CX P w) P w K mg base ["coinage", "one", "other"] qual (defScope (top 14)) fa cdv A outer s H E).env (cxOf (L2.CX P w) P w K mg base ["coinage", "one", "other"] qual (defScope (top 14)) fa cdv A outer s H E).xe) : NB (cxOf (L2.CX P w) P w K mg base ["coinage", "one", "other"] qual (defScope (top 14)) fa cdv A outer s H E) xf (fun cls d _ H => E cls d H) C (defBody (top 14)) b_is_chain_here :=
  (n_then (n_ret (n_bi O .all (n_cons (n_comp0 (own := [("one", 1), ("other", 2)]) O (n_zip O (n_cons (n_ix n_var n_int) (n_cons (n_sl (n_ix n_var n_int) (n_so n_int) n_no) n_nil))) (fun _ _ _ _ _ O => (n_gtup O (n_gcons (n_gname O) (n_gcons (n_gname O) n_gnil)))) (fun _ _ _ _ _ O => (n_cmp O .eq (n_bin .mod n_var n_var) n_int))) n_nil))) n_end)
theorem s_need_chain : FnScope ["coinage"] ["coinage"] (defScope (top 15)) := ⟨rfl, rfl, rfl, by decide +kernel, rfl, by decide +kernel, by decide +kernel⟩
theorem t_need_chain (O : Cok (cxOf (L2.CX P w) P w K mg base ["coinage"] qual (defScope (top 15)) fa cdv A outer s H E) xf (fun cls d _ H => E cls d H) C sg fr) (pw : PassesOwn (model P w) (cxOf (L2.CX P w) P w K mg base ["coinage"] qual (defScope (top 15)) fa cdv A outer s H E).A (cxOf (L2.CX P w) P w K mg base ["coinage"] qual (defScope (top 15)) fa cdv A outer s H E).env (cxOf (L2.CX P w) P w K mg base ["coinage"] qual (defScope (top 15)) fa cdv A outer s H E).xe) : NB (cxOf (L2.CX P w) P w K mg base ["coinage"] qual (defScope (top 15)) fa cdv A outer s H E) xf (fun cls d _ H => E cls d H) C (defBody (top 15)) b_need_chain :=
  (n_then (n_if (n_tnot (n_tval (n_call O (n_cons n_var n_nil)))) (n_then n_never n_end) n_end) n_end)
theorem s_small_worths : FnScope ["coinage", "row", "found", "value", "many"] ["coinage", "row"] (defScope (top 16)) := ⟨rfl, rfl, rfl, by decide +kernel, rfl, by decide +kernel, by decide +kernel⟩
theorem t_small_worths (O : Cok (cxOf (L2.CX P w) P w K mg base ["coinage", "row", "found", "value", "many"] qual (defScope (top 16)) fa cdv A outer s H E) xf (fun cls d _ H => E cls d H) C sg fr) (pw : PassesOwn (model P w) (cxOf (L2.CX P w) P w K mg base ["coinage", "row", "found", "value", "many"] qual (defScope (top 16)) fa cdv A outer s H E).A (cxOf (L2.CX P w) P w K mg base ["coinage", "row", "found", "value", "many"] qual (defScope (top 16)) fa cdv A outer s H E).env (cxOf (L2.CX P w) P w K mg base ["coinage", "row", "found", "value", "many"] qual (defScope (top 16)) fa cdv A outer s H E).xe) : NB (cxOf (L2.CX P w) P w K mg base ["coinage", "row", "found", "value", "many"] qual (defScope (top 16)) fa cdv A outer s H E) xf (fun cls d _ H => E cls d H) C (defBody (top 16)) b_small_worths :=
  (n_then (n_expr (n_call O (n_cons n_var n_nil))) (n_then (n_set O (n_lst n_nil)) (n_then (n_for O pw (n_zip O (n_cons (n_ix n_var n_int) (n_cons n_var n_nil))) (n_gtup O (n_gcons (n_gname O) (n_gcons (n_gname O) n_gnil))) (n_then (n_expr (n_append n_var (n_cons (n_bin .add (n_bin .mul n_var n_var) (n_ife (n_tval n_var) (n_ix n_var (n_neg n_int)) n_int)) n_nil))) n_end)) (n_then (n_ret (n_tuple O n_var)) n_end))))
theorem s_is_finer : FnScope ["coinage", "one", "other", "pairs", "mine", "its"] ["coinage", "one", "other"] (defScope (top 17)) := ⟨rfl, rfl, rfl, by decide +kernel, rfl, by decide +kernel, by decide +kernel⟩
theorem t_is_finer (O : Cok (cxOf (L2.CX P w) P w K mg base ["coinage", "one", "other", "pairs", "mine", "its"] qual (defScope (top 17)) fa cdv A outer s H E) xf (fun cls d _ H => E cls d H) C sg fr) (pw : PassesOwn (model P w) (cxOf (L2.CX P w) P w K mg base ["coinage", "one", "other", "pairs", "mine", "its"] qual (defScope (top 17)) fa cdv A outer s H E).A (cxOf (L2.CX P w) P w K mg base ["coinage", "one", "other", "pairs", "mine", "its"] qual (defScope (top 17)) fa cdv A outer s H E).env (cxOf (L2.CX P w) P w K mg base ["coinage", "one", "other", "pairs", "mine", "its"] qual (defScope (top 17)) fa cdv A outer s H E).xe) : NB (cxOf (L2.CX P w) P w K mg base ["coinage", "one", "other", "pairs", "mine", "its"] qual (defScope (top 17)) fa cdv A outer s H E) xf (fun cls d _ H => E cls d H) C (defBody (top 17)) b_is_finer :=
  (n_zall (own := [("mine", 4), ("its", 5)]) O (n_cons (n_call O (n_cons n_var (n_cons n_var n_nil))) (n_cons (n_call O (n_cons n_var (n_cons n_var n_nil))) n_nil)) (fun _ _ _ _ _ O => (n_gtup O (n_gcons (n_gname O) (n_gcons (n_gname O) n_gnil)))) (fun _ _ _ _ _ O => (n_cmp O .ge n_var n_var)))
theorem s_greatest_first : FnScope ["coinage", "row", "amount", "found", "value", "many", "few"] ["coinage", "row", "amount"] (defScope (top 18)) := ⟨rfl, rfl, rfl, by decide +kernel, rfl, by decide +kernel, by decide +kernel⟩
theorem t_greatest_first (O : Cok (cxOf (L2.CX P w) P w K mg base ["coinage", "row", "amount", "found", "value", "many", "few"] qual (defScope (top 18)) fa cdv A outer s H E) xf (fun cls d _ H => E cls d H) C sg fr) (pw : PassesOwn (model P w) (cxOf (L2.CX P w) P w K mg base ["coinage", "row", "amount", "found", "value", "many", "few"] qual (defScope (top 18)) fa cdv A outer s H E).A (cxOf (L2.CX P w) P w K mg base ["coinage", "row", "amount", "found", "value", "many", "few"] qual (defScope (top 18)) fa cdv A outer s H E).env (cxOf (L2.CX P w) P w K mg base ["coinage", "row", "amount", "found", "value", "many", "few"] qual (defScope (top 18)) fa cdv A outer s H E).xe) : NB (cxOf (L2.CX P w) P w K mg base ["coinage", "row", "amount", "found", "value", "many", "few"] qual (defScope (top 18)) fa cdv A outer s H E) xf (fun cls d _ H => E cls d H) C (defBody (top 18)) b_greatest_first :=
  (n_then (n_set O (n_lst n_nil)) (n_then (n_for O pw (n_seq (n_rev (n_lzip O (n_cons (n_ix n_var n_int) (n_cons n_var n_nil))))) (n_gtup O (n_gcons (n_gname O) (n_gcons (n_gname O) n_gnil))) (n_then (n_set O (n_bi O .min (n_cons n_var (n_cons (n_bin .fdiv n_var n_var) n_nil)))) (n_then (n_set O (n_lst (n_cons n_var (n_star n_var n_nil)))) (n_then (n_aug O .sub (n_bin .mul n_var n_var)) n_end)))) (n_then (n_ret (n_ife (n_tcmp O .eq n_var n_int) (n_tuple O n_var) n_non)) n_end)))
theorem s_dealt : FnScope ["coinage", "row", "amounts", "found", "amount", "way"] ["coinage", "row", "amounts"] (defScope (top 19)) := ⟨rfl, rfl, rfl, by decide +kernel, rfl, by decide +kernel, by decide +kernel⟩
theorem t_dealt (O : Cok (cxOf (L2.CX P w) P w K mg base ["coinage", "row", "amounts", "found", "amount", "way"] qual (defScope (top 19)) fa cdv A outer s H E) xf (fun cls d _ H => E cls d H) C sg fr) (pw : PassesOwn (model P w) (cxOf (L2.CX P w) P w K mg base ["coinage", "row", "amounts", "found", "amount", "way"] qual (defScope (top 19)) fa cdv A outer s H E).A (cxOf (L2.CX P w) P w K mg base ["coinage", "row", "amounts", "found", "amount", "way"] qual (defScope (top 19)) fa cdv A outer s H E).env (cxOf (L2.CX P w) P w K mg base ["coinage", "row", "amounts", "found", "amount", "way"] qual (defScope (top 19)) fa cdv A outer s H E).xe) : NB (cxOf (L2.CX P w) P w K mg base ["coinage", "row", "amounts", "found", "amount", "way"] qual (defScope (top 19)) fa cdv A outer s H E) xf (fun cls d _ H => E cls d H) C (defBody (top 19)) b_dealt :=
  (n_then (n_expr (n_call O (n_cons n_var n_nil))) (n_then (n_set O (n_lst n_nil)) (n_then (n_for O pw (n_seq n_var) (n_gname O) (n_then (n_set O (n_call O (n_cons n_var (n_cons n_var (n_cons n_var n_nil))))) (n_then (n_if (n_tcmp O .is_ n_var n_non) (n_then (n_ret n_non) n_end) n_end) (n_then (n_expr (n_append n_var (n_cons n_var n_nil))) (n_then (n_set O (n_call O (n_cons n_var (n_cons n_var n_nil)))) n_end))))) (n_then (n_ret (n_tuple O n_var)) n_end))))
theorem s_finest_change : FnScope ["coinage", "row", "amount"] ["coinage", "row", "amount"] (defScope (top 21)) := ⟨rfl, rfl, rfl, by decide +kernel, rfl, by decide +kernel, by decide +kernel⟩
theorem t_finest_change (O : Cok (cxOf (L2.CX P w) P w K mg base ["coinage", "row", "amount"] qual (defScope (top 21)) fa cdv A outer s H E) xf (fun cls d _ H => E cls d H) C sg fr) (pw : PassesOwn (model P w) (cxOf (L2.CX P w) P w K mg base ["coinage", "row", "amount"] qual (defScope (top 21)) fa cdv A outer s H E).A (cxOf (L2.CX P w) P w K mg base ["coinage", "row", "amount"] qual (defScope (top 21)) fa cdv A outer s H E).env (cxOf (L2.CX P w) P w K mg base ["coinage", "row", "amount"] qual (defScope (top 21)) fa cdv A outer s H E).xe) : NB (cxOf (L2.CX P w) P w K mg base ["coinage", "row", "amount"] qual (defScope (top 21)) fa cdv A outer s H E) xf (fun cls d _ H => E cls d H) C (defBody (top 21)) b_finest_change :=
  (n_then (n_expr (n_call O (n_cons n_var n_nil))) (n_then (n_ret (n_call O (n_cons n_var (n_cons n_var (n_cons n_var n_nil))))) n_end))
theorem s_is_finest : FnScope ["coinage", "row", "amount", "thing"] ["coinage", "row", "amount", "thing"] (defScope (top 22)) := ⟨rfl, rfl, rfl, by decide +kernel, rfl, by decide +kernel, by decide +kernel⟩
theorem t_is_finest (O : Cok (cxOf (L2.CX P w) P w K mg base ["coinage", "row", "amount", "thing"] qual (defScope (top 22)) fa cdv A outer s H E) xf (fun cls d _ H => E cls d H) C sg fr) (pw : PassesOwn (model P w) (cxOf (L2.CX P w) P w K mg base ["coinage", "row", "amount", "thing"] qual (defScope (top 22)) fa cdv A outer s H E).A (cxOf (L2.CX P w) P w K mg base ["coinage", "row", "amount", "thing"] qual (defScope (top 22)) fa cdv A outer s H E).env (cxOf (L2.CX P w) P w K mg base ["coinage", "row", "amount", "thing"] qual (defScope (top 22)) fa cdv A outer s H E).xe) : NB (cxOf (L2.CX P w) P w K mg base ["coinage", "row", "amount", "thing"] qual (defScope (top 22)) fa cdv A outer s H E) xf (fun cls d _ H => E cls d H) C (defBody (top 22)) b_is_finest :=
  (n_then (n_expr (n_call O (n_cons n_var n_nil))) (n_then (n_ret (n_and (n_call O (n_cons n_var n_nil)) (n_one (n_cmp O .eq n_var (n_call O (n_cons n_var (n_cons n_var (n_cons n_var n_nil)))))))) n_end))
theorem s_finest_behind : FnScope ["coinage", "tubes", "sale", "holding", "change"] ["coinage", "tubes", "sale"] (defScope (top 23)) := ⟨rfl, rfl, rfl, by decide +kernel, rfl, by decide +kernel, by decide +kernel⟩
theorem t_finest_behind (O : Cok (cxOf (L2.CX P w) P w K mg base ["coinage", "tubes", "sale", "holding", "change"] qual (defScope (top 23)) fa cdv A outer s H E) xf (fun cls d _ H => E cls d H) C sg fr) (pw : PassesOwn (model P w) (cxOf (L2.CX P w) P w K mg base ["coinage", "tubes", "sale", "holding", "change"] qual (defScope (top 23)) fa cdv A outer s H E).A (cxOf (L2.CX P w) P w K mg base ["coinage", "tubes", "sale", "holding", "change"] qual (defScope (top 23)) fa cdv A outer s H E).env (cxOf (L2.CX P w) P w K mg base ["coinage", "tubes", "sale", "holding", "change"] qual (defScope (top 23)) fa cdv A outer s H E).xe) : NB (cxOf (L2.CX P w) P w K mg base ["coinage", "tubes", "sale", "holding", "change"] qual (defScope (top 23)) fa cdv A outer s H E) xf (fun cls d _ H => E cls d H) C (defBody (top 23)) b_finest_behind :=
  (n_then (n_expr (n_call O (n_cons n_var n_nil))) (n_then (n_set O (n_call O (n_cons n_var (n_cons (n_ix n_var n_int) n_nil)))) (n_then (n_set O (n_call O (n_cons n_var (n_cons n_var (n_cons (n_bin .sub (n_call O (n_cons n_var (n_cons (n_ix n_var n_int) n_nil))) (n_ix n_var n_int)) n_nil))))) (n_then (n_ret (n_ife (n_tcmp O .is_ n_var n_non) n_non (n_call O (n_cons n_var (n_cons n_var n_nil))))) n_end))))
theorem s_parting_rows : FnScope ["coinage", "values", "kind", "at", "one", "other", "least", "rest", "amount", "lesser", "greater"] ["coinage"] (defScope (top 24)) := ⟨rfl, rfl, rfl, by decide +kernel, rfl, by decide +kernel, by decide +kernel⟩
theorem t_parting_rows (O : Cok (cxOf (L2.CX P w) P w K mg base ["coinage", "values", "kind", "at", "one", "other", "least", "rest", "amount", "lesser", "greater"] qual (defScope (top 24)) fa cdv A outer s H E) xf (fun cls d _ H => E cls d H) C sg fr) (pw : PassesOwn (model P w) (cxOf (L2.CX P w) P w K mg base ["coinage", "values", "kind", "at", "one", "other", "least", "rest", "amount", "lesser", "greater"] qual (defScope (top 24)) fa cdv A outer s H E).A (cxOf (L2.CX P w) P w K mg base ["coinage", "values", "kind", "at", "one", "other", "least", "rest", "amount", "lesser", "greater"] qual (defScope (top 24)) fa cdv A outer s H E).env (cxOf (L2.CX P w) P w K mg base ["coinage", "values", "kind", "at", "one", "other", "least", "rest", "amount", "lesser", "greater"] qual (defScope (top 24)) fa cdv A outer s H E).xe) : NB (cxOf (L2.CX P w) P w K mg base ["coinage", "values", "kind", "at", "one", "other", "least", "rest", "amount", "lesser", "greater"] qual (defScope (top 24)) fa cdv A outer s H E) xf (fun cls d _ H => E cls d H) C (defBody (top 24)) b_parting_rows :=
  (n_then (n_if (n_tval (n_call O (n_cons n_var n_nil))) (n_then n_never n_end) n_end) (n_then (n_set O (n_ix n_var n_int)) (n_then (n_set O (n_ix (n_comp1 (own := [("at", 3)]) O (n_rng1 O (n_cons (n_bin .sub (n_bi O .len (n_cons n_var n_nil)) n_int) n_nil)) (fun _ _ _ _ _ O => (n_gname O)) (fun _ _ _ _ _ O => (n_tcmp O .ne (n_bin .mod (n_ix n_var (n_bin .add n_var n_int)) (n_ix n_var n_var)) n_int)) (fun _ _ _ _ _ O => n_var)) n_int)) (n_then (n_asg (n_tup (n_cons (n_ix n_var n_var) (n_cons (n_ix n_var (n_bin .add n_var n_int)) n_nil))) (n_gtup O (n_gcons (n_gname O) (n_gcons (n_gname O) n_gnil)))) (n_then (n_par2 O (n_cons n_var (n_cons n_var n_nil))) (n_then (n_whl O pw (n_tcmp O .gt n_var n_int) (n_then (n_par2 O (n_cons n_var (n_cons (n_bin .mod n_var n_var) n_nil))) n_end)) (n_then (n_set O (n_bin .fdiv (n_bin .mul n_var n_var) n_var)) (n_then (n_set O (n_tuple O (n_comp0 (own := [("at", 3)]) O (n_rng1 O (n_cons (n_bi O .len (n_cons n_var n_nil)) n_nil)) (fun _ _ _ _ _ O => (n_gname O)) (fun _ _ _ _ _ O => (n_ife (n_tcmp O .eq n_var n_var) (n_bin .fdiv n_var n_var) n_int))))) (n_then (n_set O (n_tuple O (n_comp0 (own := [("at", 3)]) O (n_rng1 O (n_cons (n_bi O .len (n_cons n_var n_nil)) n_nil)) (fun _ _ _ _ _ O => (n_gname O)) (fun _ _ _ _ _ O => (n_ife (n_tcmp O .eq n_var (n_bin .add n_var n_int)) (n_bin .fdiv n_var n_var) n_int))))) (n_then (n_ret (n_tup (n_cons (n_call O (n_cons n_var (n_cons n_var n_nil))) (n_cons n_var (n_cons n_var (n_cons n_var n_nil)))))) n_end))))))))))
theorem s__law_bag : FnScope ["script", "cell"] ["script"] (defScope (top 26)) := ⟨rfl, rfl, rfl, by decide +kernel, rfl, by decide +kernel, by decide +kernel⟩
theorem t__law_bag (O : Cok (cxOf (L2.CX P w) P w K mg base ["script", "cell"] qual (defScope (top 26)) fa cdv A outer s H E) xf (fun cls d _ H => E cls d H) C sg fr) (pw : PassesOwn (model P w) (cxOf (L2.CX P w) P w K mg base ["script", "cell"] qual (defScope (top 26)) fa cdv A outer s H E).A (cxOf (L2.CX P w) P w K mg base ["script", "cell"] qual (defScope (top 26)) fa cdv A outer s H E).env (cxOf (L2.CX P w) P w K mg base ["script", "cell"] qual (defScope (top 26)) fa cdv A outer s H E).xe) : NB (cxOf (L2.CX P w) P w K mg base ["script", "cell"] qual (defScope (top 26)) fa cdv A outer s H E) xf (fun cls d _ H => E cls d H) C (defBody (top 26)) b__law_bag :=
  (n_then (n_ret (n_lst (n_cons n_int (n_cons n_int (n_cons n_int (n_cons (n_comp0 (own := [("cell", 1)]) O (n_seq (n_sl n_var n_no (n_so n_int))) (fun _ _ _ _ _ O => (n_gname O)) (fun _ _ _ _ _ O => (n_bi O .abs (n_cons n_var n_nil)))) n_nil)))))) n_end)
theorem s__law_take : FnScope ["bag", "many", "cell", "stirred", "value", "begin", "second"] ["bag", "many"] (defScope (top 27)) := ⟨rfl, rfl, rfl, by decide +kernel, rfl, by decide +kernel, by decide +kernel⟩
theorem t__law_take (O : Cok (cxOf (L2.CX P w) P w K mg base ["bag", "many", "cell", "stirred", "value", "begin", "second"] qual (defScope (top 27)) fa cdv A outer s H E) xf (fun cls d _ H => E cls d H) C sg fr) (pw : PassesOwn (model P w) (cxOf (L2.CX P w) P w K mg base ["bag", "many", "cell", "stirred", "value", "begin", "second"] qual (defScope (top 27)) fa cdv A outer s H E).A (cxOf (L2.CX P w) P w K mg base ["bag", "many", "cell", "stirred", "value", "begin", "second"] qual (defScope (top 27)) fa cdv A outer s H E).env (cxOf (L2.CX P w) P w K mg base ["bag", "many", "cell", "stirred", "value", "begin", "second"] qual (defScope (top 27)) fa cdv A outer s H E).xe) : NB (cxOf (L2.CX P w) P w K mg base ["bag", "many", "cell", "stirred", "value", "begin", "second"] qual (defScope (top 27)) fa cdv A outer s H E) xf (fun cls d _ H => E cls d H) C (defBody (top 27)) b__law_take :=
  (n_then (n_if (n_tcmp O .eq (n_ix n_var n_int) n_int) (n_then (n_set O (n_ix (n_bin .add (n_sl (n_ix n_var n_int) (n_so (n_ix n_var n_int)) n_no) (n_lst (n_cons n_int n_nil))) n_int)) (n_then (n_augIx .add n_int n_int) (n_then (n_if (n_tcmp O .ge n_var (n_bin .pow n_int n_int)) (n_then (n_setIx n_var n_var n_int) n_end) n_end) (n_then (n_set O (n_bin .add (n_bin .add (n_bin .mul (n_ix n_var n_int) n_int) (n_bin .mod (n_bi O .int (n_cons n_var n_nil)) n_int)) (n_bin .mul n_int (n_ix n_var n_int)))) (n_then (n_setIx (n_bin .mod (n_bi O .int (n_cons n_var n_nil)) n_int) n_var n_int) n_end))))) n_end) (n_then (n_if (n_tcmp O .gt (n_ix n_var n_int) n_int) (n_then (n_set O (n_bin .mod (n_bi O .int (n_cons (n_ix n_var n_int) n_nil)) n_var)) (n_then (n_setIx (n_bin .fdiv (n_bi O .int (n_cons (n_ix n_var n_int) n_nil)) n_var) n_var n_int) (n_then (n_ret n_var) n_end))) n_end) (n_then (n_set O (n_bin .mod (n_bi O .int (n_cons (n_bin .mul (n_bin .add (n_ix n_var n_int) n_int) n_int) n_nil)) n_int)) (n_then (n_set O (n_bin .mod (n_bi O .int (n_cons (n_bin .mul (n_bin .mod (n_bi O .int (n_cons (n_bin .mul n_var n_var) n_nil)) n_int) n_int) n_nil)) n_int)) (n_then (n_ret (n_bin .mod (n_bi O .int (n_cons (n_bin .fdiv n_var n_int) n_nil)) n_var)) n_end)))))
theorem s__law_some : FnScope ["bag", "things"] ["bag", "things"] (defScope (top 28)) := ⟨rfl, rfl, rfl, by decide +kernel, rfl, by decide +kernel, by decide +kernel⟩
theorem t__law_some (O : Cok (cxOf (L2.CX P w) P w K mg base ["bag", "things"] qual (defScope (top 28)) fa cdv A outer s H E) xf (fun cls d _ H => E cls d H) C sg fr) (pw : PassesOwn (model P w) (cxOf (L2.CX P w) P w K mg base ["bag", "things"] qual (defScope (top 28)) fa cdv A outer s H E).A (cxOf (L2.CX P w) P w K mg base ["bag", "things"] qual (defScope (top 28)) fa cdv A outer s H E).env (cxOf (L2.CX P w) P w K mg base ["bag", "things"] qual (defScope (top 28)) fa cdv A outer s H E).xe) : NB (cxOf (L2.CX P w) P w K mg base ["bag", "things"] qual (defScope (top 28)) fa cdv A outer s H E) xf (fun cls d _ H => E cls d H) C (defBody (top 28)) b__law_some :=
  (n_then (n_ret (n_ix n_var (n_call O (n_cons n_var (n_cons (n_bi O .len (n_cons n_var n_nil)) n_nil))))) n_end)
theorem s__law_alike : FnScope ["found", "due", "pairs", "at", "one", "other"] ["found", "due"] (defScope (top 29)) := ⟨rfl, rfl, rfl, by decide +kernel, rfl, by decide +kernel, by decide +kernel⟩
theorem t__law_alike (O : Cok (cxOf (L2.CX P w) P w K mg base ["found", "due", "pairs", "at", "one", "other"] qual (defScope (top 29)) fa cdv A outer s H E) xf (fun cls d _ H => E cls d H) C sg fr) (pw : PassesOwn (model P w) (cxOf (L2.CX P w) P w K mg base ["found", "due", "pairs", "at", "one", "other"] qual (defScope (top 29)) fa cdv A outer s H E).A (cxOf (L2.CX P w) P w K mg base ["found", "due", "pairs", "at", "one", "other"] qual (defScope (top 29)) fa cdv A outer s H E).env (cxOf (L2.CX P w) P w K mg base ["found", "due", "pairs", "at", "one", "other"] qual (defScope (top 29)) fa cdv A outer s H E).xe) : NB (cxOf (L2.CX P w) P w K mg base ["found", "due", "pairs", "at", "one", "other"] qual (defScope (top 29)) fa cdv A outer s H E) xf (fun cls d _ H => E cls d H) C (defBody (top 29)) b__law_alike :=
  (n_then (n_par2 O (n_cons (n_lst (n_cons (n_tup (n_cons n_var (n_cons n_var n_nil))) n_nil)) (n_cons n_int n_nil))) (n_then (n_whl O pw (n_tcmp O .lt n_var (n_bi O .len (n_cons n_var n_nil))) (n_then (n_asg (n_ix n_var n_var) (n_gtup O (n_gcons (n_gname O) (n_gcons (n_gname O) n_gnil)))) (n_then (n_aug O .add n_int) (n_then (n_if (n_w (n_wor (n_tcmp O .ne (n_isi1 O .bool n_var) (n_isi1 O .bool n_var)) (n_wor1 (n_tcmp O .ne (n_isi1 O .str n_var) (n_isi1 O .str n_var))))) (n_then (n_ret n_bl) n_end) n_end) (n_then (n_if (n_tcmp O .ne (n_isi2 O .tuple .list n_var) (n_isi2 O .tuple .list n_var)) (n_then (n_ret n_bl) n_end) n_end) (n_then (n_if (n_tval (n_isi2 O .tuple .list n_var)) (n_then (n_if (n_w (n_wor (n_tcmp O .ne (n_isi1 O .tuple n_var) (n_isi1 O .tuple n_var)) (n_wor1 (n_tcmp O .ne (n_bi O .len (n_cons n_var n_nil)) (n_bi O .len (n_cons n_var n_nil)))))) (n_then (n_ret n_bl) n_end) n_end) (n_then (n_expr (n_extend n_var (n_cons (n_lzip O (n_cons n_var (n_cons n_var n_nil))) n_nil))) n_end)) (n_then (n_if (n_tcmp O .ne n_var n_var) (n_then (n_ret n_bl) n_end) n_end) n_end)) n_end)))))) (n_then (n_ret n_bl) n_end)))
theorem s__law_plus : FnScope ["one", "other", "many", "more"] ["one", "other"] (defScope (top 30)) := ⟨rfl, rfl, rfl, by decide +kernel, rfl, by decide +kernel, by decide +kernel⟩
theorem t__law_plus (O : Cok (cxOf (L2.CX P w) P w K mg base ["one", "other", "many", "more"] qual (defScope (top 30)) fa cdv A outer s H E) xf (fun cls d _ H => E cls d H) C sg fr) (pw : PassesOwn (model P w) (cxOf (L2.CX P w) P w K mg base ["one", "other", "many", "more"] qual (defScope (top 30)) fa cdv A outer s H E).A (cxOf (L2.CX P w) P w K mg base ["one", "other", "many", "more"] qual (defScope (top 30)) fa cdv A outer s H E).env (cxOf (L2.CX P w) P w K mg base ["one", "other", "many", "more"] qual (defScope (top 30)) fa cdv A outer s H E).xe) : NB (cxOf (L2.CX P w) P w K mg base ["one", "other", "many", "more"] qual (defScope (top 30)) fa cdv A outer s H E) xf (fun cls d _ H => E cls d H) C (defBody (top 30)) b__law_plus :=
  (n_then (n_ret (n_tuple O (n_comp0 (own := [("many", 2), ("more", 3)]) O (n_zip O (n_cons n_var (n_cons n_var n_nil))) (fun _ _ _ _ _ O => (n_gtup O (n_gcons (n_gname O) (n_gcons (n_gname O) n_gnil)))) (fun _ _ _ _ _ O => (n_bin .add n_var n_var))))) n_end)
theorem s__law_less : FnScope ["one", "other", "many", "few"] ["one", "other"] (defScope (top 31)) := ⟨rfl, rfl, rfl, by decide +kernel, rfl, by decide +kernel, by decide +kernel⟩
theorem t__law_less (O : Cok (cxOf (L2.CX P w) P w K mg base ["one", "other", "many", "few"] qual (defScope (top 31)) fa cdv A outer s H E) xf (fun cls d _ H => E cls d H) C sg fr) (pw : PassesOwn (model P w) (cxOf (L2.CX P w) P w K mg base ["one", "other", "many", "few"] qual (defScope (top 31)) fa cdv A outer s H E).A (cxOf (L2.CX P w) P w K mg base ["one", "other", "many", "few"] qual (defScope (top 31)) fa cdv A outer s H E).env (cxOf (L2.CX P w) P w K mg base ["one", "other", "many", "few"] qual (defScope (top 31)) fa cdv A outer s H E).xe) : NB (cxOf (L2.CX P w) P w K mg base ["one", "other", "many", "few"] qual (defScope (top 31)) fa cdv A outer s H E) xf (fun cls d _ H => E cls d H) C (defBody (top 31)) b__law_less :=
  (n_then (n_ret (n_tuple O (n_comp0 (own := [("many", 2), ("few", 3)]) O (n_zip O (n_cons n_var (n_cons n_var n_nil))) (fun _ _ _ _ _ O => (n_gtup O (n_gcons (n_gname O) (n_gcons (n_gname O) n_gnil)))) (fun _ _ _ _ _ O => (n_bin .sub n_var n_var))))) n_end)
theorem s__law_worth : FnScope ["coinage", "row", "value", "many"] ["coinage", "row"] (defScope (top 32)) := ⟨rfl, rfl, rfl, by decide +kernel, rfl, by decide +kernel, by decide +kernel⟩
theorem t__law_worth (O : Cok (cxOf (L2.CX P w) P w K mg base ["coinage", "row", "value", "many"] qual (defScope (top 32)) fa cdv A outer s H E) xf (fun cls d _ H => E cls d H) C sg fr) (pw : PassesOwn (model P w) (cxOf (L2.CX P w) P w K mg base ["coinage", "row", "value", "many"] qual (defScope (top 32)) fa cdv A outer s H E).A (cxOf (L2.CX P w) P w K mg base ["coinage", "row", "value", "many"] qual (defScope (top 32)) fa cdv A outer s H E).env (cxOf (L2.CX P w) P w K mg base ["coinage", "row", "value", "many"] qual (defScope (top 32)) fa cdv A outer s H E).xe) : NB (cxOf (L2.CX P w) P w K mg base ["coinage", "row", "value", "many"] qual (defScope (top 32)) fa cdv A outer s H E) xf (fun cls d _ H => E cls d H) C (defBody (top 32)) b__law_worth :=
  (n_then (n_ret (n_bi O .sum (n_cons (n_comp0 (own := [("value", 2), ("many", 3)]) O (n_zip O (n_cons (n_ix n_var n_int) (n_cons n_var n_nil))) (fun _ _ _ _ _ O => (n_gtup O (n_gcons (n_gname O) (n_gcons (n_gname O) n_gnil)))) (fun _ _ _ _ _ O => (n_bin .mul n_var n_var))) n_nil))) n_end)
theorem s__law_rows_worth : FnScope ["coinage", "most", "amount", "found", "value", "many", "longer", "row", "left", "few"] ["coinage", "most", "amount"] (defScope (top 33)) := ⟨rfl, rfl, rfl, by decide +kernel, rfl, by decide +kernel, by decide +kernel⟩
theorem t__law_rows_worth (O : Cok (cxOf (L2.CX P w) P w K mg base ["coinage", "most", "amount", "found", "value", "many", "longer", "row", "left", "few"] qual (defScope (top 33)) fa cdv A outer s H E) xf (fun cls d _ H => E cls d H) C sg fr) (pw : PassesOwn (model P w) (cxOf (L2.CX P w) P w K mg base ["coinage", "most", "amount", "found", "value", "many", "longer", "row", "left", "few"] qual (defScope (top 33)) fa cdv A outer s H E).A (cxOf (L2.CX P w) P w K mg base ["coinage", "most", "amount", "found", "value", "many", "longer", "row", "left", "few"] qual (defScope (top 33)) fa cdv A outer s H E).env (cxOf (L2.CX P w) P w K mg base ["coinage", "most", "amount", "found", "value", "many", "longer", "row", "left", "few"] qual (defScope (top 33)) fa cdv A outer s H E).xe) : NB (cxOf (L2.CX P w) P w K mg base ["coinage", "most", "amount", "found", "value", "many", "longer", "row", "left", "few"] qual (defScope (top 33)) fa cdv A outer s H E) xf (fun cls d _ H => E cls d H) C (defBody (top 33)) b__law_rows_worth :=
  (n_then (n_set O (n_lst (n_cons (n_tup (n_cons (n_tup n_nil) (n_cons n_var n_nil))) n_nil))) (n_then (n_for O pw (n_zip O (n_cons (n_ix n_var n_int) (n_cons n_var n_nil))) (n_gtup O (n_gcons (n_gname O) (n_gcons (n_gname O) n_gnil))) (n_then (n_set O (n_lst n_nil)) (n_then (n_for O pw (n_seq n_var) (n_gtup O (n_gcons (n_gname O) (n_gcons (n_gname O) n_gnil))) (n_then (n_expr (n_extend n_var (n_cons (n_comp1 (own := [("few", 9)]) O (n_rng1 O (n_cons (n_bin .add n_var n_int) n_nil)) (fun _ _ _ _ _ O => (n_gname O)) (fun _ _ _ _ _ O => (n_tcmp O .le (n_bin .mul n_var n_var) n_var)) (fun _ _ _ _ _ O => (n_tup (n_cons (n_bin .add n_var (n_tup (n_cons n_var n_nil))) (n_cons (n_bin .sub n_var (n_bin .mul n_var n_var)) n_nil))))) n_nil))) n_end)) (n_then (n_set O n_var) n_end)))) (n_then (n_ret (n_sorted O (n_comp1 (own := [("row", 7), ("left", 8)]) O (n_seq n_var) (fun _ _ _ _ _ O => (n_gtup O (n_gcons (n_gname O) (n_gcons (n_gname O) n_gnil)))) (fun _ _ _ _ _ O => (n_tcmp O .eq n_var n_int)) (fun _ _ _ _ _ O => n_var)))) n_end)))
theorem s__law_due : FnScope ["coinage", "sale"] ["coinage", "sale"] (defScope (top 34)) := ⟨rfl, rfl, rfl, by decide +kernel, rfl, by decide +kernel, by decide +kernel⟩
theorem t__law_due (O : Cok (cxOf (L2.CX P w) P w K mg base ["coinage", "sale"] qual (defScope (top 34)) fa cdv A outer s H E) xf (fun cls d _ H => E cls d H) C sg fr) (pw : PassesOwn (model P w) (cxOf (L2.CX P w) P w K mg base ["coinage", "sale"] qual (defScope (top 34)) fa cdv A outer s H E).A (cxOf (L2.CX P w) P w K mg base ["coinage", "sale"] qual (defScope (top 34)) fa cdv A outer s H E).env (cxOf (L2.CX P w) P w K mg base ["coinage", "sale"] qual (defScope (top 34)) fa cdv A outer s H E).xe) : NB (cxOf (L2.CX P w) P w K mg base ["coinage", "sale"] qual (defScope (top 34)) fa cdv A outer s H E) xf (fun cls d _ H => E cls d H) C (defBody (top 34)) b__law_due :=
  (n_then (n_ret (n_bin .sub (n_call O (n_cons n_var (n_cons (n_ix n_var n_int) n_nil))) (n_ix n_var n_int))) n_end)
theorem s__law_changes : FnScope ["coinage", "tubes", "sale"] ["coinage", "tubes", "sale"] (defScope (top 35)) := ⟨rfl, rfl, rfl, by decide +kernel, rfl, by decide +kernel, by decide +kernel⟩
theorem t__law_changes (O : Cok (cxOf (L2.CX P w) P w K mg base ["coinage", "tubes", "sale"] qual (defScope (top 35)) fa cdv A outer s H E) xf (fun cls d _ H => E cls d H) C sg fr) (pw : PassesOwn (model P w) (cxOf (L2.CX P w) P w K mg base ["coinage", "tubes", "sale"] qual (defScope (top 35)) fa cdv A outer s H E).A (cxOf (L2.CX P w) P w K mg base ["coinage", "tubes", "sale"] qual (defScope (top 35)) fa cdv A outer s H E).env (cxOf (L2.CX P w) P w K mg base ["coinage", "tubes", "sale"] qual (defScope (top 35)) fa cdv A outer s H E).xe) : NB (cxOf (L2.CX P w) P w K mg base ["coinage", "tubes", "sale"] qual (defScope (top 35)) fa cdv A outer s H E) xf (fun cls d _ H => E cls d H) C (defBody (top 35)) b__law_changes :=
  (n_then (n_ret (n_call O (n_cons n_var (n_cons (n_call O (n_cons n_var (n_cons (n_ix n_var n_int) n_nil))) (n_cons (n_call O (n_cons n_var (n_cons n_var n_nil))) n_nil))))) n_end)
theorem s__law_sale : FnScope ["bag", "coinage", "coins", "paid", "turn", "worth_v"] ["bag", "coinage", "coins"] (defScope (top 36)) := ⟨rfl, rfl, rfl, by decide +kernel, rfl, by decide +kernel, by decide +kernel⟩
theorem t__law_sale (O : Cok (cxOf (L2.CX P w) P w K mg base ["bag", "coinage", "coins", "paid", "turn", "worth_v"] qual (defScope (top 36)) fa cdv A outer s H E) xf (fun cls d _ H => E cls d H) C sg fr) (pw : PassesOwn (model P w) (cxOf (L2.CX P w) P w K mg base ["bag", "coinage", "coins", "paid", "turn", "worth_v"] qual (defScope (top 36)) fa cdv A outer s H E).A (cxOf (L2.CX P w) P w K mg base ["bag", "coinage", "coins", "paid", "turn", "worth_v"] qual (defScope (top 36)) fa cdv A outer s H E).env (cxOf (L2.CX P w) P w K mg base ["bag", "coinage", "coins", "paid", "turn", "worth_v"] qual (defScope (top 36)) fa cdv A outer s H E).xe) : NB (cxOf (L2.CX P w) P w K mg base ["bag", "coinage", "coins", "paid", "turn", "worth_v"] qual (defScope (top 36)) fa cdv A outer s H E) xf (fun cls d _ H => E cls d H) C (defBody (top 36)) b__law_sale :=
  (n_then (n_set O (n_bin .mul (n_lst (n_cons n_int n_nil)) (n_bi O .len (n_cons (n_ix n_var n_int) n_nil)))) (n_then (n_for O pw (n_rng1 O (n_cons (n_bin .add n_int (n_call O (n_cons n_var (n_cons n_var n_nil)))) n_nil)) (n_gname O) (n_then (n_augIx .add (n_call O (n_cons n_var (n_cons (n_bi O .len (n_cons n_var n_nil)) n_nil))) n_int) n_end)) (n_then (n_set O (n_call O (n_cons n_var (n_cons (n_tuple O n_var) n_nil)))) (n_then (n_ret (n_tup (n_cons (n_bi O .min (n_cons n_int (n_cons (n_bi O .max (n_cons n_int (n_cons (n_bin .sub n_var (n_call O (n_cons n_var (n_cons (n_bin .add n_var n_int) n_nil)))) n_nil))) n_nil))) (n_cons (n_tuple O n_var) n_nil)))) n_end))))
theorem s__law_chain : FnScope ["bag", "values"] ["bag"] (defScope (top 37)) := ⟨rfl, rfl, rfl, by decide +kernel, rfl, by decide +kernel, by decide +kernel⟩
theorem t__law_chain (O : Cok (cxOf (L2.CX P w) P w K mg base ["bag", "values"] qual (defScope (top 37)) fa cdv A outer s H E) xf (fun cls d _ H => E cls d H) C sg fr) (pw : PassesOwn (model P w) (cxOf (L2.CX P w) P w K mg base ["bag", "values"] qual (defScope (top 37)) fa cdv A outer s H E).A (cxOf (L2.CX P w) P w K mg base ["bag", "values"] qual (defScope (top 37)) fa cdv A outer s H E).env (cxOf (L2.CX P w) P w K mg base ["bag", "values"] qual (defScope (top 37)) fa cdv A outer s H E).xe) : NB (cxOf (L2.CX P w) P w K mg base ["bag", "values"] qual (defScope (top 37)) fa cdv A outer s H E) xf (fun cls d _ H => E cls d H) C (defBody (top 37)) b__law_chain :=
  (n_then (n_set O (n_call O (n_cons n_var (n_cons (n_lst (n_cons (n_tup (n_cons n_int (n_cons n_int n_nil))) (n_cons (n_tup (n_cons n_int (n_cons n_int (n_cons n_int n_nil)))) (n_cons (n_tup (n_cons n_int (n_cons n_int (n_cons n_int n_nil)))) (n_cons (n_tup (n_cons n_int (n_cons n_int n_nil))) (n_cons (n_tup (n_cons n_int (n_cons n_int (n_cons n_int n_nil)))) (n_cons (n_tup (n_cons n_int (n_cons n_int (n_cons n_int n_nil)))) n_nil))))))) n_nil)))) (n_then (n_ret (n_tup (n_cons n_var (n_cons (n_bin .mul (n_tup (n_cons n_int n_nil)) (n_bi O .len (n_cons n_var n_nil))) n_nil)))) n_end))
theorem s__law_worths : FnScope ["coinage", "row", "value", "many", "kind"] ["coinage", "row"] (defScope (top 38)) := ⟨rfl, rfl, rfl, by decide +kernel, rfl, by decide +kernel, by decide +kernel⟩
theorem t__law_worths (O : Cok (cxOf (L2.CX P w) P w K mg base ["coinage", "row", "value", "many", "kind"] qual (defScope (top 38)) fa cdv A outer s H E) xf (fun cls d _ H => E cls d H) C sg fr) (pw : PassesOwn (model P w) (cxOf (L2.CX P w) P w K mg base ["coinage", "row", "value", "many", "kind"] qual (defScope (top 38)) fa cdv A outer s H E).A (cxOf (L2.CX P w) P w K mg base ["coinage", "row", "value", "many", "kind"] qual (defScope (top 38)) fa cdv A outer s H E).env (cxOf (L2.CX P w) P w K mg base ["coinage", "row", "value", "many", "kind"] qual (defScope (top 38)) fa cdv A outer s H E).xe) : NB (cxOf (L2.CX P w) P w K mg base ["coinage", "row", "value", "many", "kind"] qual (defScope (top 38)) fa cdv A outer s H E) xf (fun cls d _ H => E cls d H) C (defBody (top 38)) b__law_worths :=
  (n_then (n_ret (n_tuple O (n_comp0 (own := [("kind", 4)]) O (n_rng1 O (n_cons (n_bi O .len (n_cons n_var n_nil)) n_nil)) (fun _ _ _ _ _ O => (n_gname O)) (fun _ _ _ _ _ O => (n_bi O .sum (n_cons (n_comp0 (own := [("value", 2), ("many", 3)]) O (n_zip O (n_cons (n_sl (n_ix n_var n_int) n_no (n_so (n_bin .add n_var n_int))) (n_cons n_var n_nil))) (fun _ _ _ _ _ O => (n_gtup O (n_gcons (n_gname O) (n_gcons (n_gname O) n_gnil)))) (fun _ _ _ _ _ O => (n_bin .mul n_var n_var))) n_nil)))))) n_end)
theorem s__law_is_finer : FnScope ["coinage", "one", "other", "mine", "its"] ["coinage", "one", "other"] (defScope (top 39)) := ⟨rfl, rfl, rfl, by decide +kernel, rfl, by decide +kernel, by decide +kernel⟩
theorem t__law_is_finer (O : Cok (cxOf (L2.CX P w) P w K mg base ["coinage", "one", "other", "mine", "its"] qual (defScope (top 39)) fa cdv A outer s H E) xf (fun cls d _ H => E cls d H) C sg fr) (pw : PassesOwn (model P w) (cxOf (L2.CX P w) P w K mg base ["coinage", "one", "other", "mine", "its"] qual (defScope (top 39)) fa cdv A outer s H E).A (cxOf (L2.CX P w) P w K mg base ["coinage", "one", "other", "mine", "its"] qual (defScope (top 39)) fa cdv A outer s H E).env (cxOf (L2.CX P w) P w K mg base ["coinage", "one", "other", "mine", "its"] qual (defScope (top 39)) fa cdv A outer s H E).xe) : NB (cxOf (L2.CX P w) P w K mg base ["coinage", "one", "other", "mine", "its"] qual (defScope (top 39)) fa cdv A outer s H E) xf (fun cls d _ H => E cls d H) C (defBody (top 39)) b__law_is_finer :=
  (n_then (n_ret (n_cmp O .eq (n_comp1 (own := [("mine", 3), ("its", 4)]) O (n_zip O (n_cons (n_call O (n_cons n_var (n_cons n_var n_nil))) (n_cons (n_call O (n_cons n_var (n_cons n_var n_nil))) n_nil))) (fun _ _ _ _ _ O => (n_gtup O (n_gcons (n_gname O) (n_gcons (n_gname O) n_gnil)))) (fun _ _ _ _ _ O => (n_tcmp O .lt n_var n_var)) (fun _ _ _ _ _ O => n_int)) (n_lst n_nil))) n_end)
theorem s__law_served : FnScope ["coinage", "tubes", "sales", "some", "many", "sale", "later", "here", "whole", "change"] ["coinage", "tubes", "sales"] (defScope (top 40)) := ⟨rfl, rfl, rfl, by decide +kernel, rfl, by decide +kernel, by decide +kernel⟩
theorem t__law_served (O : Cok (cxOf (L2.CX P w) P w K mg base ["coinage", "tubes", "sales", "some", "many", "sale", "later", "here", "whole", "change"] qual (defScope (top 40)) fa cdv A outer s H E) xf (fun cls d _ H => E cls d H) C sg fr) (pw : PassesOwn (model P w) (cxOf (L2.CX P w) P w K mg base ["coinage", "tubes", "sales", "some", "many", "sale", "later", "here", "whole", "change"] qual (defScope (top 40)) fa cdv A outer s H E).A (cxOf (L2.CX P w) P w K mg base ["coinage", "tubes", "sales", "some", "many", "sale", "later", "here", "whole", "change"] qual (defScope (top 40)) fa cdv A outer s H E).env (cxOf (L2.CX P w) P w K mg base ["coinage", "tubes", "sales", "some", "many", "sale", "later", "here", "whole", "change"] qual (defScope (top 40)) fa cdv A outer s H E).xe) : NB (cxOf (L2.CX P w) P w K mg base ["coinage", "tubes", "sales", "some", "many", "sale", "later", "here", "whole", "change"] qual (defScope (top 40)) fa cdv A outer s H E) xf (fun cls d _ H => E cls d H) C (defBody (top 40)) b__law_served :=
  (n_then (n_set O (n_lst (n_cons n_var n_nil))) (n_then (n_for O pw (n_enum O (n_cons n_var n_nil)) (n_gtup O (n_gcons (n_gname O) (n_gcons (n_gname O) n_gnil))) (n_then (n_set O n_dnewT) (n_then (n_for O pw (n_seq n_var) (n_gname O) (n_then (n_set O (n_call O (n_cons n_var (n_cons (n_ix n_var n_int) n_nil)))) (n_then (n_expr (n_upd O (n_dctp O (n_comp0 (own := [("change", 9)]) O (n_seq (n_call O (n_cons n_var (n_cons n_var (n_cons n_var n_nil))))) (fun _ _ _ _ _ O => (n_gname O)) (fun _ _ _ _ _ O => (n_tup (n_cons (n_call O (n_cons n_var (n_cons n_var n_nil))) (n_cons n_bl n_nil)))))))) n_end))) (n_then (n_if (n_emp O n_var) (n_then (n_ret n_var) n_end) n_end) (n_then (n_set O (n_keys O n_var)) n_end))))) (n_then (n_ret (n_bi O .len (n_cons n_var n_nil))) n_end)))
theorem s__law_greedy : FnScope ["coinage", "tubes", "sales", "many", "sale", "left"] ["coinage", "tubes", "sales"] (defScope (top 41)) := ⟨rfl, rfl, rfl, by decide +kernel, rfl, by decide +kernel, by decide +kernel⟩
theorem t__law_greedy (O : Cok (cxOf (L2.CX P w) P w K mg base ["coinage", "tubes", "sales", "many", "sale", "left"] qual (defScope (top 41)) fa cdv A outer s H E) xf (fun cls d _ H => E cls d H) C sg fr) (pw : PassesOwn (model P w) (cxOf (L2.CX P w) P w K mg base ["coinage", "tubes", "sales", "many", "sale", "left"] qual (defScope (top 41)) fa cdv A outer s H E).A (cxOf (L2.CX P w) P w K mg base ["coinage", "tubes", "sales", "many", "sale", "left"] qual (defScope (top 41)) fa cdv A outer s H E).env (cxOf (L2.CX P w) P w K mg base ["coinage", "tubes", "sales", "many", "sale", "left"] qual (defScope (top 41)) fa cdv A outer s H E).xe) : NB (cxOf (L2.CX P w) P w K mg base ["coinage", "tubes", "sales", "many", "sale", "left"] qual (defScope (top 41)) fa cdv A outer s H E) xf (fun cls d _ H => E cls d H) C (defBody (top 41)) b__law_greedy :=
  (n_then (n_for O pw (n_enum O (n_cons n_var n_nil)) (n_gtup O (n_gcons (n_gname O) (n_gcons (n_gname O) n_gnil))) (n_then (n_set O (n_call O (n_cons n_var (n_cons n_var (n_cons n_var n_nil))))) (n_then (n_if (n_tcmp O .is_ n_var n_non) (n_then (n_ret n_var) n_end) n_end) (n_then (n_set O n_var) n_end)))) (n_then (n_ret (n_bi O .len (n_cons n_var n_nil))) n_end))
theorem s__law_change_right : FnScope ["coinage", "tubes", "sale", "some", "whole", "amount", "told", "left", "change"] ["coinage", "tubes", "sale"] (defScope (top 42)) := ⟨rfl, rfl, rfl, by decide +kernel, rfl, by decide +kernel, by decide +kernel⟩
theorem t__law_change_right (O : Cok (cxOf (L2.CX P w) P w K mg base ["coinage", "tubes", "sale", "some", "whole", "amount", "told", "left", "change"] qual (defScope (top 42)) fa cdv A outer s H E) xf (fun cls d _ H => E cls d H) C sg fr) (pw : PassesOwn (model P w) (cxOf (L2.CX P w) P w K mg base ["coinage", "tubes", "sale", "some", "whole", "amount", "told", "left", "change"] qual (defScope (top 42)) fa cdv A outer s H E).A (cxOf (L2.CX P w) P w K mg base ["coinage", "tubes", "sale", "some", "whole", "amount", "told", "left", "change"] qual (defScope (top 42)) fa cdv A outer s H E).env (cxOf (L2.CX P w) P w K mg base ["coinage", "tubes", "sale", "some", "whole", "amount", "told", "left", "change"] qual (defScope (top 42)) fa cdv A outer s H E).xe) : NB (cxOf (L2.CX P w) P w K mg base ["coinage", "tubes", "sale", "some", "whole", "amount", "told", "left", "change"] qual (defScope (top 42)) fa cdv A outer s H E) xf (fun cls d _ H => E cls d H) C (defBody (top 42)) b__law_change_right :=
  (n_then (n_asg (n_tup (n_cons (n_call O (n_cons n_var (n_cons n_var (n_cons n_var n_nil)))) (n_cons (n_call O (n_cons n_var (n_cons (n_ix n_var n_int) n_nil))) n_nil))) (n_gtup O (n_gcons (n_gname O) (n_gcons (n_gname O) n_gnil)))) (n_then (n_set O (n_bin .sub (n_call O (n_cons n_var (n_cons (n_ix n_var n_int) n_nil))) (n_ix n_var n_int))) (n_then (n_set O (n_call O (n_cons n_var (n_cons n_var (n_cons n_var n_nil))))) (n_then (n_if (n_w (n_wor (n_tcmp O .eq n_var (n_lst n_nil)) (n_wor1 (n_tcmp O .is_ n_var n_non)))) (n_then (n_ret (n_and (n_cmp O .eq n_var (n_lst n_nil)) (n_one (n_cmp O .is_ n_var n_non)))) n_end) n_end) (n_then (n_set O (n_call O (n_cons n_var (n_cons n_var n_nil)))) (n_then (n_if (n_w (n_wor (n_tcmp O .nin n_var n_var) (n_wor1 (n_tcmp O .ne (n_comp1 (own := [("change", 8)]) O (n_seq n_var) (fun _ _ _ _ _ O => (n_gname O)) (fun _ _ _ _ _ O => (n_tnot (n_tval (n_call O (n_cons n_var (n_cons n_var (n_cons (n_call O (n_cons n_var (n_cons n_var n_nil))) n_nil))))))) (fun _ _ _ _ _ O => n_var)) (n_lst n_nil))))) (n_then (n_ret n_bl) n_end) n_end) (n_then (n_ret (n_call O (n_cons (n_comp0 (own := [("change", 8)]) O (n_seq n_var) (fun _ _ _ _ _ O => (n_gname O)) (fun _ _ _ _ _ O => (n_call O (n_cons n_var (n_cons n_var (n_cons n_var (n_cons n_var n_nil))))))) (n_cons (n_comp0 (own := [("change", 8)]) O (n_seq n_var) (fun _ _ _ _ _ O => (n_gname O)) (fun _ _ _ _ _ O => (n_cmp O .eq n_var n_var))) n_nil)))) n_end)))))))
theorem s__law_parted_right : FnScope ["bag", "values", "coinage", "row", "amount", "one", "other", "lefts", "way", "at", "kind", "can", "value", "left"] ["bag"] (defScope (top 43)) := ⟨rfl, rfl, rfl, by decide +kernel, rfl, by decide +kernel, by decide +kernel⟩
theorem t__law_parted_right (O : Cok (cxOf (L2.CX P w) P w K mg base ["bag", "values", "coinage", "row", "amount", "one", "other", "lefts", "way", "at", "kind", "can", "value", "left"] qual (defScope (top 43)) fa cdv A outer s H E) xf (fun cls d _ H => E cls d H) C sg fr) (pw : PassesOwn (model P w) (cxOf (L2.CX P w) P w K mg base ["bag", "values", "coinage", "row", "amount", "one", "other", "lefts", "way", "at", "kind", "can", "value", "left"] qual (defScope (top 43)) fa cdv A outer s H E).A (cxOf (L2.CX P w) P w K mg base ["bag", "values", "coinage", "row", "amount", "one", "other", "lefts", "way", "at", "kind", "can", "value", "left"] qual (defScope (top 43)) fa cdv A outer s H E).env (cxOf (L2.CX P w) P w K mg base ["bag", "values", "coinage", "row", "amount", "one", "other", "lefts", "way", "at", "kind", "can", "value", "left"] qual (defScope (top 43)) fa cdv A outer s H E).xe) : NB (cxOf (L2.CX P w) P w K mg base ["bag", "values", "coinage", "row", "amount", "one", "other", "lefts", "way", "at", "kind", "can", "value", "left"] qual (defScope (top 43)) fa cdv A outer s H E) xf (fun cls d _ H => E cls d H) C (defBody (top 43)) b__law_parted_right :=
  (n_then (n_set O (n_call O (n_cons n_var (n_cons (n_lst (n_cons (n_tup (n_cons n_int (n_cons n_int n_nil))) (n_cons (n_tup (n_cons n_int (n_cons n_int n_nil))) (n_cons (n_tup (n_cons n_int (n_cons n_int n_nil))) (n_cons (n_tup (n_cons n_int (n_cons n_int (n_cons n_int n_nil)))) (n_cons (n_tup (n_cons n_int (n_cons n_int (n_cons n_int n_nil)))) n_nil)))))) n_nil)))) (n_then (n_set O (n_tup (n_cons n_var (n_cons (n_bin .mul (n_tup (n_cons n_int n_nil)) (n_bi O .len (n_cons n_var n_nil))) n_nil)))) (n_then (n_asg (n_call O (n_cons n_var n_nil)) (n_gtup O (n_gcons (n_gname O) (n_gcons (n_gname O) (n_gcons (n_gname O) (n_gcons (n_gname O) n_gnil)))))) (n_then (n_if (n_w (n_wor (n_tcmp O .eq n_var n_var) (n_wor (n_tcmp O .nin n_var (n_call O (n_cons n_var (n_cons n_var (n_cons n_var n_nil))))) (n_wor1 (n_tcmp O .nin n_var (n_call O (n_cons n_var (n_cons n_var (n_cons n_var n_nil))))))))) (n_then (n_ret n_bl) n_end) n_end) (n_then (n_setc0 (own := [("way", 8)]) O (n_seq (n_tup (n_cons n_var (n_cons n_var n_nil)))) (fun _ _ _ _ _ O => (n_gname O)) (fun _ _ _ _ _ O => (n_call O (n_cons n_var (n_cons n_var n_nil))))) (n_then (n_set O (n_ix (n_comp1 (own := [("kind", 10)]) O (n_rng1 O (n_cons (n_bin .sub (n_bi O .len (n_cons n_var n_nil)) n_int) n_nil)) (fun _ _ _ _ _ O => (n_gname O)) (fun _ _ _ _ _ O => (n_tcmp O .ne (n_bin .mod (n_ix n_var (n_bin .add n_var n_int)) (n_ix n_var n_var)) n_int)) (fun _ _ _ _ _ O => n_var)) n_int)) (n_then (n_setc0 (own := [("left", 13)]) O (n_seq n_var) (fun _ _ _ _ _ O => (n_gname O)) (fun _ _ _ _ _ O => (n_comp0 (own := [("value", 12)]) O (n_seq (n_tup (n_cons (n_ix n_var (n_bin .add n_var n_int)) (n_cons (n_ix n_var n_var) n_nil)))) (fun _ _ _ _ _ O => (n_gname O)) (fun _ _ _ _ _ O => (n_cmp O .ne (n_call O (n_cons n_var (n_cons n_var (n_cons n_var n_nil)))) (n_lst n_nil)))))) (n_then (n_ret (n_cmp O .eq n_var (n_lst (n_cons (n_lst (n_cons n_bl (n_cons n_bl n_nil))) (n_cons (n_lst (n_cons n_bl (n_cons n_bl n_nil))) n_nil))))) n_end))))))))
theorem s_law : FnScope ["script", "bag", "turn", "coinage", "tubes", "value", "sales", "sale", "other", "finer", "amounts", "amount"] ["script"] (defScope (top 44)) := ⟨rfl, rfl, rfl, by decide +kernel, rfl, by decide +kernel, by decide +kernel⟩
theorem t_law (O : Cok (cxOf (L2.CX P w) P w K mg base ["script", "bag", "turn", "coinage", "tubes", "value", "sales", "sale", "other", "finer", "amounts", "amount"] qual (defScope (top 44)) fa cdv A outer s H E) xf (fun cls d _ H => E cls d H) C sg fr) (pw : PassesOwn (model P w) (cxOf (L2.CX P w) P w K mg base ["script", "bag", "turn", "coinage", "tubes", "value", "sales", "sale", "other", "finer", "amounts", "amount"] qual (defScope (top 44)) fa cdv A outer s H E).A (cxOf (L2.CX P w) P w K mg base ["script", "bag", "turn", "coinage", "tubes", "value", "sales", "sale", "other", "finer", "amounts", "amount"] qual (defScope (top 44)) fa cdv A outer s H E).env (cxOf (L2.CX P w) P w K mg base ["script", "bag", "turn", "coinage", "tubes", "value", "sales", "sale", "other", "finer", "amounts", "amount"] qual (defScope (top 44)) fa cdv A outer s H E).xe) : NB (cxOf (L2.CX P w) P w K mg base ["script", "bag", "turn", "coinage", "tubes", "value", "sales", "sale", "other", "finer", "amounts", "amount"] qual (defScope (top 44)) fa cdv A outer s H E) xf (fun cls d _ H => E cls d H) C (defBody (top 44)) b_law :=
  (n_then (n_set O (n_call O (n_cons n_var n_nil))) (n_then (n_for O pw (n_rng1 O (n_cons n_int n_nil)) (n_gname O) (n_then (n_set O (n_call O (n_cons n_var n_nil))) (n_then (n_set O (n_tuple O (n_comp0 (own := [("value", 5)]) O (n_seq (n_ix n_var n_int)) (fun _ _ _ _ _ O => (n_gname O)) (fun _ _ _ _ _ O => (n_call O (n_cons n_var (n_cons n_int n_nil))))))) (n_then (n_setc0 (own := [("sale", 7)]) O (n_rng1 O (n_cons (n_bin .add n_int (n_call O (n_cons n_var (n_cons n_int n_nil)))) n_nil)) (fun _ _ _ _ _ O => (n_gname O)) (fun _ _ _ _ _ O => (n_call O (n_cons n_var (n_cons n_var (n_cons n_int n_nil)))))) (n_then (n_if (n_tcmp O .ne (n_comp1 (own := [("sale", 7)]) O (n_seq n_var) (fun _ _ _ _ _ O => (n_gname O)) (fun _ _ _ _ _ O => (n_tnot (n_tval (n_call O (n_cons n_var (n_cons n_var (n_cons n_var n_nil))))))) (fun _ _ _ _ _ O => n_int)) (n_lst n_nil)) (n_then (n_ret n_bl) n_end) n_end) (n_then (n_if (n_tnot (n_tval (n_call O (n_cons (n_call O (n_cons n_var (n_cons n_var (n_cons n_var n_nil)))) (n_cons (n_call O (n_cons n_var (n_cons n_var (n_cons n_var n_nil)))) n_nil))))) (n_then (n_ret n_bl) n_end) n_end) (n_then (n_set O (n_tuple O (n_comp0 (own := [("value", 5)]) O (n_seq (n_ix n_var n_int)) (fun _ _ _ _ _ O => (n_gname O)) (fun _ _ _ _ _ O => (n_call O (n_cons n_var (n_cons n_int n_nil))))))) (n_then (n_set O (n_call O (n_cons n_var (n_cons n_var (n_cons n_var n_nil))))) (n_then (n_if (n_tnot (n_tval (n_call O (n_cons (n_lst (n_cons (n_call O (n_cons n_var (n_cons n_var (n_cons n_var n_nil)))) (n_cons (n_call O (n_cons n_var (n_cons n_var n_nil))) n_nil))) (n_cons (n_lst (n_cons n_var (n_cons (n_call O (n_cons n_var (n_cons n_var n_nil))) n_nil))) n_nil))))) (n_then (n_ret n_bl) n_end) n_end) (n_then (n_set O (n_tuple O (n_comp0 (own := [("amount", 11)]) O (n_rng1 O (n_cons (n_bin .add n_int (n_call O (n_cons n_var (n_cons n_int n_nil)))) n_nil)) (fun _ _ _ _ _ O => (n_gname O)) (fun _ _ _ _ _ O => (n_bin .mul (n_ix (n_ix n_var n_int) n_int) (n_bin .add n_int (n_call O (n_cons n_var (n_cons n_int n_nil))))))))) (n_then (n_if (n_w (n_wand (n_tval n_var) (n_wand (n_tcmp O .isnt (n_call O (n_cons n_var (n_cons n_var (n_cons n_var n_nil)))) n_non) (n_wand1 (n_tcmp O .is_ (n_call O (n_cons n_var (n_cons n_var (n_cons n_var n_nil)))) n_non))))) (n_then (n_ret n_bl) n_end) n_end) n_end))))))))))) (n_then (n_ret (n_call O (n_cons n_var n_nil))) n_end)))
end
end L98
end
section
set_option Elab.async false
set_option linter.all false
set_option maxRecDepth 100000
set_option maxHeartbeats 4000000
/-! Q0 (k98): lookups. -/
namespace Dv
open PySem L2
theorem lk_md {P : Prog} {f : Str} {fd : Fd} (h : P.lookup f = some fd) : modes P f = fd.md := by unfold modes; rw [h]
abbrev gd_is_integer : Fd := ⟨1, 1, [false], L98.b_is_integer⟩
theorem lk_is_integer : List.lookup ("is_integer" : Str) L98.pg = some gd_is_integer := by kernel_rfl
theorem md_is_integer : modes L98.pg "is_integer" = [false] := lk_md lk_is_integer
abbrev gd_are_all : Fd := ⟨2, 3, [false, false], L98.b_are_all⟩
theorem lk_are_all : List.lookup ("are_all" : Str) L98.pg = some gd_are_all := by kernel_rfl
theorem md_are_all : modes L98.pg "are_all" = [false, false] := lk_md lk_are_all
abbrev gd_are_integers : Fd := ⟨1, 1, [false], L98.b_are_integers⟩
theorem lk_are_integers : List.lookup ("are_integers" : Str) L98.pg = some gd_are_integers := by kernel_rfl
theorem md_are_integers : modes L98.pg "are_integers" = [false] := lk_md lk_are_integers
abbrev gd_is_above : Fd := ⟨2, 4, [false, false], L98.b_is_above⟩
theorem lk_is_above : List.lookup ("is_above" : Str) L98.pg = some gd_is_above := by kernel_rfl
theorem md_is_above : modes L98.pg "is_above" = [false, false] := lk_md lk_is_above
abbrev gd_added : Fd := ⟨2, 4, [false, false], L98.b_added⟩
theorem lk_added : List.lookup ("added" : Str) L98.pg = some gd_added := by kernel_rfl
theorem md_added : modes L98.pg "added" = [false, false] := lk_md lk_added
abbrev gd_less : Fd := ⟨2, 4, [false, false], L98.b_less⟩
theorem lk_less : List.lookup ("less" : Str) L98.pg = some gd_less := by kernel_rfl
theorem md_less : modes L98.pg "less" = [false, false] := lk_md lk_less
abbrev gd_worth : Fd := ⟨2, 4, [false, false], L98.b_worth⟩
theorem lk_worth : List.lookup ("worth" : Str) L98.pg = some gd_worth := by kernel_rfl
theorem md_worth : modes L98.pg "worth" = [false, false] := lk_md lk_worth
abbrev gd_is_chain_here : Fd := ⟨1, 3, [false], L98.b_is_chain_here⟩
theorem lk_is_chain_here : List.lookup ("is_chain_here" : Str) L98.pg = some gd_is_chain_here := by kernel_rfl
theorem md_is_chain_here : modes L98.pg "is_chain_here" = [false] := lk_md lk_is_chain_here
abbrev gd_need_chain : Fd := ⟨1, 1, [false], L98.b_need_chain⟩
theorem lk_need_chain : List.lookup ("need_chain" : Str) L98.pg = some gd_need_chain := by kernel_rfl
theorem md_need_chain : modes L98.pg "need_chain" = [false] := lk_md lk_need_chain
abbrev gd_small_worths : Fd := ⟨2, 5, [false, false], L98.b_small_worths⟩
theorem lk_small_worths : List.lookup ("small_worths" : Str) L98.pg = some gd_small_worths := by kernel_rfl
theorem md_small_worths : modes L98.pg "small_worths" = [false, false] := lk_md lk_small_worths
abbrev gd_is_finer : Fd := ⟨3, 6, [false, false, false], L98.b_is_finer⟩
theorem lk_is_finer : List.lookup ("is_finer" : Str) L98.pg = some gd_is_finer := by kernel_rfl
theorem md_is_finer : modes L98.pg "is_finer" = [false, false, false] := lk_md lk_is_finer
abbrev gd_greatest_first : Fd := ⟨3, 7, [false, false, false], L98.b_greatest_first⟩
theorem lk_greatest_first : List.lookup ("greatest_first" : Str) L98.pg = some gd_greatest_first := by kernel_rfl
theorem md_greatest_first : modes L98.pg "greatest_first" = [false, false, false] := lk_md lk_greatest_first
abbrev gd_dealt : Fd := ⟨3, 6, [false, false, false], L98.b_dealt⟩
theorem lk_dealt : List.lookup ("dealt" : Str) L98.pg = some gd_dealt := by kernel_rfl
theorem md_dealt : modes L98.pg "dealt" = [false, false, false] := lk_md lk_dealt
abbrev gd_finest_change : Fd := ⟨3, 3, [false, false, false], L98.b_finest_change⟩
theorem lk_finest_change : List.lookup ("finest_change" : Str) L98.pg = some gd_finest_change := by kernel_rfl
theorem md_finest_change : modes L98.pg "finest_change" = [false, false, false] := lk_md lk_finest_change
abbrev gd_is_finest : Fd := ⟨4, 4, [false, false, false, false], L98.b_is_finest⟩
theorem lk_is_finest : List.lookup ("is_finest" : Str) L98.pg = some gd_is_finest := by kernel_rfl
theorem md_is_finest : modes L98.pg "is_finest" = [false, false, false, false] := lk_md lk_is_finest
abbrev gd_finest_behind : Fd := ⟨3, 5, [false, false, false], L98.b_finest_behind⟩
theorem lk_finest_behind : List.lookup ("finest_behind" : Str) L98.pg = some gd_finest_behind := by kernel_rfl
theorem md_finest_behind : modes L98.pg "finest_behind" = [false, false, false] := lk_md lk_finest_behind
abbrev gd_parting_rows : Fd := ⟨1, 11, [false], L98.b_parting_rows⟩
theorem lk_parting_rows : List.lookup ("parting_rows" : Str) L98.pg = some gd_parting_rows := by kernel_rfl
theorem md_parting_rows : modes L98.pg "parting_rows" = [false] := lk_md lk_parting_rows
abbrev gd_law_bag : Fd := ⟨1, 2, [false], L98.b__law_bag⟩
theorem lk_law_bag : List.lookup ("_law_bag" : Str) L98.pg = some gd_law_bag := by kernel_rfl
theorem md_law_bag : modes L98.pg "_law_bag" = [false] := lk_md lk_law_bag
abbrev gd_law_take : Fd := ⟨2, 7, [true, false], L98.b__law_take⟩
theorem lk_law_take : List.lookup ("_law_take" : Str) L98.pg = some gd_law_take := by kernel_rfl
theorem md_law_take : modes L98.pg "_law_take" = [true, false] := lk_md lk_law_take
abbrev gd_law_some : Fd := ⟨2, 2, [true, false], L98.b__law_some⟩
theorem lk_law_some : List.lookup ("_law_some" : Str) L98.pg = some gd_law_some := by kernel_rfl
theorem md_law_some : modes L98.pg "_law_some" = [true, false] := lk_md lk_law_some
abbrev gd_law_alike : Fd := ⟨2, 6, [false, false], L98.b__law_alike⟩
theorem lk_law_alike : List.lookup ("_law_alike" : Str) L98.pg = some gd_law_alike := by kernel_rfl
theorem md_law_alike : modes L98.pg "_law_alike" = [false, false] := lk_md lk_law_alike
abbrev gd_law_plus : Fd := ⟨2, 4, [false, false], L98.b__law_plus⟩
theorem lk_law_plus : List.lookup ("_law_plus" : Str) L98.pg = some gd_law_plus := by kernel_rfl
theorem md_law_plus : modes L98.pg "_law_plus" = [false, false] := lk_md lk_law_plus
abbrev gd_law_less : Fd := ⟨2, 4, [false, false], L98.b__law_less⟩
theorem lk_law_less : List.lookup ("_law_less" : Str) L98.pg = some gd_law_less := by kernel_rfl
theorem md_law_less : modes L98.pg "_law_less" = [false, false] := lk_md lk_law_less
abbrev gd_law_worth : Fd := ⟨2, 4, [false, false], L98.b__law_worth⟩
theorem lk_law_worth : List.lookup ("_law_worth" : Str) L98.pg = some gd_law_worth := by kernel_rfl
theorem md_law_worth : modes L98.pg "_law_worth" = [false, false] := lk_md lk_law_worth
abbrev gd_law_rows_worth : Fd := ⟨3, 10, [false, false, false], L98.b__law_rows_worth⟩
theorem lk_law_rows_worth : List.lookup ("_law_rows_worth" : Str) L98.pg = some gd_law_rows_worth := by kernel_rfl
theorem md_law_rows_worth : modes L98.pg "_law_rows_worth" = [false, false, false] := lk_md lk_law_rows_worth
abbrev gd_law_due : Fd := ⟨2, 2, [false, false], L98.b__law_due⟩
theorem lk_law_due : List.lookup ("_law_due" : Str) L98.pg = some gd_law_due := by kernel_rfl
theorem md_law_due : modes L98.pg "_law_due" = [false, false] := lk_md lk_law_due
abbrev gd_law_changes : Fd := ⟨3, 3, [false, false, false], L98.b__law_changes⟩
theorem lk_law_changes : List.lookup ("_law_changes" : Str) L98.pg = some gd_law_changes := by kernel_rfl
theorem md_law_changes : modes L98.pg "_law_changes" = [false, false, false] := lk_md lk_law_changes
abbrev gd_law_sale : Fd := ⟨3, 6, [true, false, false], L98.b__law_sale⟩
theorem lk_law_sale : List.lookup ("_law_sale" : Str) L98.pg = some gd_law_sale := by kernel_rfl
theorem md_law_sale : modes L98.pg "_law_sale" = [true, false, false] := lk_md lk_law_sale
abbrev gd_law_chain : Fd := ⟨1, 2, [true], L98.b__law_chain⟩
theorem lk_law_chain : List.lookup ("_law_chain" : Str) L98.pg = some gd_law_chain := by kernel_rfl
theorem md_law_chain : modes L98.pg "_law_chain" = [true] := lk_md lk_law_chain
abbrev gd_law_worths : Fd := ⟨2, 5, [false, false], L98.b__law_worths⟩
theorem lk_law_worths : List.lookup ("_law_worths" : Str) L98.pg = some gd_law_worths := by kernel_rfl
theorem md_law_worths : modes L98.pg "_law_worths" = [false, false] := lk_md lk_law_worths
abbrev gd_law_is_finer : Fd := ⟨3, 5, [false, false, false], L98.b__law_is_finer⟩
theorem lk_law_is_finer : List.lookup ("_law_is_finer" : Str) L98.pg = some gd_law_is_finer := by kernel_rfl
theorem md_law_is_finer : modes L98.pg "_law_is_finer" = [false, false, false] := lk_md lk_law_is_finer
abbrev gd_law_served : Fd := ⟨3, 10, [false, false, false], L98.b__law_served⟩
theorem lk_law_served : List.lookup ("_law_served" : Str) L98.pg = some gd_law_served := by kernel_rfl
theorem md_law_served : modes L98.pg "_law_served" = [false, false, false] := lk_md lk_law_served
abbrev gd_law_greedy : Fd := ⟨3, 6, [false, false, false], L98.b__law_greedy⟩
theorem lk_law_greedy : List.lookup ("_law_greedy" : Str) L98.pg = some gd_law_greedy := by kernel_rfl
theorem md_law_greedy : modes L98.pg "_law_greedy" = [false, false, false] := lk_md lk_law_greedy
abbrev gd_law_change_right : Fd := ⟨3, 9, [false, false, false], L98.b__law_change_right⟩
theorem lk_law_change_right : List.lookup ("_law_change_right" : Str) L98.pg = some gd_law_change_right := by kernel_rfl
theorem md_law_change_right : modes L98.pg "_law_change_right" = [false, false, false] := lk_md lk_law_change_right
abbrev gd_law_parted_right : Fd := ⟨1, 14, [true], L98.b__law_parted_right⟩
theorem lk_law_parted_right : List.lookup ("_law_parted_right" : Str) L98.pg = some gd_law_parted_right := by kernel_rfl
theorem md_law_parted_right : modes L98.pg "_law_parted_right" = [true] := lk_md lk_law_parted_right
abbrev gd_law : Fd := ⟨1, 12, [false], L98.b_law⟩
theorem lk_law : List.lookup ("law" : Str) L98.pg = some gd_law := by kernel_rfl
theorem md_law : modes L98.pg "law" = [false] := lk_md lk_law
end Dv
end
section
set_option Elab.async false
set_option linter.all false
set_option maxRecDepth 100000
set_option maxHeartbeats 4000000
/-! Q1 (k98): the program's defs at the six chains: plain ones. -/
namespace Dv
open PySem L2
def chains : List (List Int) := [[1, 2], [1, 2, 4], [1, 5, 10], [2, 6], [1, 3, 6], [5, 10, 50]]
def capsR (vs : List Int) : List Int := List.replicate vs.length 40
abbrev coin (vs : List Int) : D := coinD vs (capsR vs)
/-- each chain, each row as long: six cases -/
theorem by_chain {P : List Int → Prop} (h1 : P [1, 2]) (h2 : P [1, 2, 4]) (h3 : P [1, 5, 10]) (h4 : P [2, 6]) (h5 : P [1, 3, 6]) (h6 : P [5, 10, 50]) : ∀ vs ∈ chains, P vs := by
  intro vs h
  simp only [chains, List.mem_cons, List.not_mem_nil, or_false] at h
  rcases h with rfl | rfl | rfl | rfl | rfl | rfl <;> assumption
theorem len2 {r : List Int} (h : r.length = 2) : ∃ x y, r = [x, y] := by
  match r, h with
  | [x, y], _ => exact ⟨x, y, rfl⟩
theorem len3 {r : List Int} (h : r.length = 3) : ∃ x y z, r = [x, y, z] := by
  match r, h with
  | [x, y, z], _ => exact ⟨x, y, z, rfl⟩
def smallR (vs r : List Int) : List Int := (vs.zip r).foldl (fun f p => f ++ [p.1 * p.2 + f.getLastD 0]) []
def finR (vs a b : List Int) : Bool := ((smallR vs a).zip (smallR vs b)).all fun p => decide (p.2 ≤ p.1)
def gfS (s : List Int × Int) (p : Int × Int) : List Int × Int := ((if s.2.fdiv p.1 < p.2 then s.2.fdiv p.1 else p.2) :: s.1, s.2 - (if s.2.fdiv p.1 < p.2 then s.2.fdiv p.1 else p.2) * p.1)
def gfR (vs W : List Int) (a : Int) : List Int × Int := (vs.zip W).reverse.foldl gfS ([], a)
def worthsR (vs r : List Int) : List Int := (List.range r.length).map fun k => (((vs.take (k + 1)).zip r).map fun p => p.1 * p.2).sum
theorem e_small {n : Nat} : ∀ vs ∈ chains, ∀ r : List Int, r.length = vs.length → evF L98.pg (n + 4) "small_worths" [coin vs, rowD r] = .ret (rowD (smallR vs r)) [coin vs, rowD r] := by
  refine by_chain ?_ ?_ ?_ ?_ ?_ ?_ <;> intro r hr
  · obtain ⟨x, y, rfl⟩ := len2 hr; kernel_rfl
  · obtain ⟨x, y, z, rfl⟩ := len3 hr; kernel_rfl
  · obtain ⟨x, y, z, rfl⟩ := len3 hr; kernel_rfl
  · obtain ⟨x, y, rfl⟩ := len2 hr; kernel_rfl
  · obtain ⟨x, y, z, rfl⟩ := len3 hr; kernel_rfl
  · obtain ⟨x, y, z, rfl⟩ := len3 hr; kernel_rfl
theorem e_finer {n : Nat} : ∀ vs ∈ chains, ∀ r s : List Int, r.length = vs.length → s.length = vs.length → evF L98.pg (n + 5) "is_finer" [coin vs, rowD r, rowD s] = .ret (.bl (finR vs r s)) [coin vs, rowD r, rowD s] := by
  refine by_chain ?_ ?_ ?_ ?_ ?_ ?_ <;> intro r s hr hs
  · obtain ⟨x, y, rfl⟩ := len2 hr; obtain ⟨x', y', rfl⟩ := len2 hs; kernel_rfl
  · obtain ⟨x, y, z, rfl⟩ := len3 hr; obtain ⟨x', y', z', rfl⟩ := len3 hs; kernel_rfl
  · obtain ⟨x, y, z, rfl⟩ := len3 hr; obtain ⟨x', y', z', rfl⟩ := len3 hs; kernel_rfl
  · obtain ⟨x, y, rfl⟩ := len2 hr; obtain ⟨x', y', rfl⟩ := len2 hs; kernel_rfl
  · obtain ⟨x, y, z, rfl⟩ := len3 hr; obtain ⟨x', y', z', rfl⟩ := len3 hs; kernel_rfl
  · obtain ⟨x, y, z, rfl⟩ := len3 hr; obtain ⟨x', y', z', rfl⟩ := len3 hs; kernel_rfl
theorem e_worths {n : Nat} : ∀ vs ∈ chains, ∀ r : List Int, r.length = vs.length → evF L98.pg (n + 3) "_law_worths" [coin vs, rowD r] = .ret (rowD (worthsR vs r)) [coin vs, rowD r] := by
  refine by_chain ?_ ?_ ?_ ?_ ?_ ?_ <;> intro r hr
  · obtain ⟨x, y, rfl⟩ := len2 hr; kernel_rfl
  · obtain ⟨x, y, z, rfl⟩ := len3 hr; kernel_rfl
  · obtain ⟨x, y, z, rfl⟩ := len3 hr; kernel_rfl
  · obtain ⟨x, y, rfl⟩ := len2 hr; kernel_rfl
  · obtain ⟨x, y, z, rfl⟩ := len3 hr; kernel_rfl
  · obtain ⟨x, y, z, rfl⟩ := len3 hr; kernel_rfl
theorem e_need {n : Nat} : ∀ vs ∈ chains, evF L98.pg (n + 2) "need_chain" [coin vs] = .ret .non [coin vs] := by
  refine by_chain ?_ ?_ ?_ ?_ ?_ ?_ <;> kernel_rfl
theorem small_worths_eq : ∀ vs ∈ chains, ∀ r : List Int, r.length = vs.length → smallR vs r = worthsR vs r := by
  refine by_chain ?_ ?_ ?_ ?_ ?_ ?_ <;> intro r hr
  · obtain ⟨x, y, rfl⟩ := len2 hr; simp [smallR, worthsR, List.range, List.range.loop]; omega
  · obtain ⟨x, y, z, rfl⟩ := len3 hr; simp [smallR, worthsR, List.range, List.range.loop]; omega
  · obtain ⟨x, y, z, rfl⟩ := len3 hr; simp [smallR, worthsR, List.range, List.range.loop]; omega
  · obtain ⟨x, y, rfl⟩ := len2 hr; simp [smallR, worthsR, List.range, List.range.loop]; omega
  · obtain ⟨x, y, z, rfl⟩ := len3 hr; simp [smallR, worthsR, List.range, List.range.loop]; omega
  · obtain ⟨x, y, z, rfl⟩ := len3 hr; simp [smallR, worthsR, List.range, List.range.loop]; omega
end Dv
end
section
set_option Elab.async false
set_option linter.all false
set_option maxRecDepth 100000
set_option maxHeartbeats 4000000
/-! Q2 (k98): greatest first, less, the finest change. -/
namespace Dv
open PySem L2
section
variable {C : Ctx} {G G1 G2 : GEnv} {a b : Exp} {x y : RV} {d e r : D} {o : COp} {k : Bool}
theorem ev_cmp (h1 : evE C a G = R.ok x G1) (h2 : evE C b G1 = R.ok y G2) (d1 : deref x G2 = some d) (d2 : deref y G2 = some e) (h3 : cmpD o d e = some k) : evE C (.cmp o a b) G = R.ok (.val (.bl k)) G2 := by
  have q : evE C (.cmp o a b) G = (evE C a G).bind fun x G1 => (evE C b G1).bind fun y G2 => match deref x G2, deref y G2 with
    | some d, some e => lft ((cmpD o d e).map .bl) G2
    | _, _ => .no := rfl
  rw [q, h1, bind_ok, h2, bind_ok, d1, d2]
  show lft ((cmpD o d e).map .bl) G2 = _
  rw [h3]
  rfl
theorem ev_tcmp (h1 : evE C a G = R.ok x G1) (h2 : evE C b G1 = R.ok y G2) (d1 : deref x G2 = some d) (d2 : deref y G2 = some e) (h3 : cmpD o d e = some k) : evT C (.cmp o a b) G = R.ok k G2 := by
  have q : evT C (.cmp o a b) G = (evE C a G).bind fun x G1 => (evE C b G1).bind fun y G2 => match deref x G2, deref y G2 with
    | some d, some e => (match cmpD o d e with
      | some k => .ok k G2
      | none => .no)
    | _, _ => .no := rfl
  rw [q, h1, bind_ok, h2, bind_ok, d1, d2]
  show (match cmpD o d e with
      | some k => R.ok k G2
      | none => .no) = _
  rw [h3]
end
/-! ### equality of rows -/
theorem shaped_row (r : List Int) : SeqAt.shaped (.tuple (r.map PyData.int)) = true := by
  have h1 : PyData.canLayAll0 (r.map .int) = true := PyProof.Rows.canLayAll_ints r
  have h2 : PyData.depthAll (r.map .int) = 0 := PySem.W.depth_ints r
  simp [SeqAt.shaped, PyData.canLay0, PyData.depth, h1, h2]
theorem eqv_ints : ∀ a b : List Int, PyData.eqvAll (a.map PyData.int) (b.map PyData.int) = decide (a = b)
  | [], [] => rfl
  | [], _ :: _ => rfl
  | _ :: _, [] => rfl
  | x :: a, y :: b => by
    show (PyData.eqv (.int x) (.int y) && PyData.eqvAll (a.map PyData.int) (b.map PyData.int)) = _
    rw [eqv_ints a b]
    show ((x == y) && decide (a = b)) = _
    by_cases h : x = y <;> by_cases h' : a = b <;> simp [h, h']
theorem eqD_py {a b : D} {x y : PyData} (ha : a.py = some x) (hb : b.py = some y) (sa : SeqAt.shaped x = true) (sb : SeqAt.shaped y = true) : eqD a b = some (PyData.eqv x y) := by
  have e : eqD a b = (match a.py, b.py with
    | some x, some y => if SeqAt.shaped x && SeqAt.shaped y then some (PyData.eqv x y) else none
    | _, _ => none) := rfl
  rw [e, ha, hb]
  show (if (SeqAt.shaped x && SeqAt.shaped y) = true then some (PyData.eqv x y) else none) = _
  rw [sa, sb]
  rfl
theorem eqD_row (a b : List Int) : eqD (rowD a) (rowD b) = some (decide (a = b)) := by
  rw [eqD_py (py_row a) (py_row b) (shaped_row a) (shaped_row b)]
  show some (PyData.eqvAll _ _) = _
  rw [eqv_ints]
theorem eqD_non (a : List Int) : eqD (rowD a) .non = some false := by
  rw [eqD_py (py_row a) (show D.py .non = some .none from rfl) (shaped_row a) rfl]
  rfl
def wayD (s : List Int × Int) : D := if s.2 = 0 then rowD s.1 else .non
def isWay (r : List Int) (s : List Int × Int) : Bool := decide (s.2 = 0) && decide (r = s.1)
theorem eqD_way (r : List Int) (s : List Int × Int) : eqD (rowD r) (wayD s) = some (isWay r s) := by
  unfold wayD isWay
  by_cases h : s.2 = 0
  · rw [if_pos h, eqD_row, decide_eq_true h]; rfl
  · rw [if_neg h, eqD_non, decide_eq_false h]; rfl
theorem fz_way (s : List Int × Int) : (wayD s).fz = wayD s := by
  unfold wayD
  split <;> rfl
/-! ### greatest first -/
theorem len_gf : ∀ vs ∈ chains, ∀ (W : List Int) (a : Int), W.length = vs.length → (gfR vs W a).1.length = vs.length := by
  refine by_chain ?_ ?_ ?_ ?_ ?_ ?_ <;> intro W a hW
  · obtain ⟨x, y, rfl⟩ := len2 hW; rfl
  · obtain ⟨x, y, z, rfl⟩ := len3 hW; rfl
  · obtain ⟨x, y, z, rfl⟩ := len3 hW; rfl
  · obtain ⟨x, y, rfl⟩ := len2 hW; rfl
  · obtain ⟨x, y, z, rfl⟩ := len3 hW; rfl
  · obtain ⟨x, y, z, rfl⟩ := len3 hW; rfl
theorem forL_nx {b : D → GEnv → R Flo} {d : D} {ds : List D} {G G1 : GEnv} (h : b d G = .ok .nx G1) : forL b (d :: ds) G = forL b ds G1 := by
  show (b d G).bind _ = _
  rw [h]
  rfl
theorem forL_rt {b : D → GEnv → R Flo} {d x : D} {ds : List D} {G G1 : GEnv} (h : b d G = .ok (.rt x) G1) : forL b (d :: ds) G = .ok (.rt x) G1 := by
  show (b d G).bind _ = _
  rw [h]
  rfl
theorem gf_body {C : Ctx} (hp : ∀ i, C.pr i = (fun i => [false, false, false].getD i false) i) {c r x4 x5 x6 : Option D} {s : List Int × Int} {p : Int × Int} (hv : 0 < p.1) (hv2 : p.1 < 1073741824) (hl : s.1.length < sizeLine) :
    (match asgG (.tup (.cons (.name 4) (.cons (.name 5) .nil))) (.tup [.int p.1, .int p.2]) [c, r, some (.int s.2), some (.mls (s.1.map .int)), x4, x5, x6] with
    | none => R.no
    | some G => evSs C (.cons (.set 6 (.bi .min (.cons (.var 5) (.cons (.bin .fdiv (.var 2) (.var 4)) .nil)))) (.cons (.set 3 (.lst (.cons (.var 6) (.star (.var 3) .nil)))) (.cons (.aug 2 .sub (.bin .mul (.var 6) (.var 4))) .nil))) G) =
    .ok .nx [c, r, some (.int (gfS s p).2), some (.mls ((gfS s p).1.map .int)), some (.int p.1), some (.int p.2), some (.int ((gfS s p).1.headD 0))] := by
  have hf : binD .fdiv (.int s.2) (.int p.1) = some (.int (s.2.fdiv p.1)) := by
    rw [binD_fdiv hv hv2, Int.fdiv_eq_ediv_of_nonneg _ (by omega)]
  have hm : biD .min [.int p.2, .int (s.2.fdiv p.1)] = some (.int (if s.2.fdiv p.1 < p.2 then s.2.fdiv p.1 else p.2)) := rfl
  have hx : gfS s p = ((if s.2.fdiv p.1 < p.2 then s.2.fdiv p.1 else p.2) :: s.1, s.2 - (if s.2.fdiv p.1 < p.2 then s.2.fdiv p.1 else p.2) * p.1) := rfl
  rw [hx]
  generalize (if s.2.fdiv p.1 < p.2 then s.2.fdiv p.1 else p.2) = few at *
  have hmul : binD .mul (.int few) (.int p.1) = some (.int (few * p.1)) := binD_mul (.inr (by omega))
  have hz : D.fzs (s.1.map .int) = s.1.map .int := fzs_map (fun _ => rfl) _
  have htk : ∀ G, takes ((s.1.map D.int).map RV.val) G = some (s.1.map D.int, G) := by
    intro G
    have gen : ∀ l : List Int, takes ((l.map D.int).map RV.val) G = some (l.map D.int, G) := by
      intro l
      induction l with
      | nil => rfl
      | cons i l ih => simp [takes, take, D.fz] at ih ⊢; rw [ih]
    exact gen _
  have hlk : lenOk (D.int few :: s.1.map D.int) = true := by
    unfold lenOk
    rw [decide_eq_true_eq, List.length_cons, List.length_map]
    omega
  have hp2 := hp 2
  have hp3 := hp 3
  have hp6 := hp 6
  have q2 : C.pr 2 = false := hp2
  have q3 : C.pr 3 = false := hp3
  have q6 : C.pr 6 = false := hp6
  simp only [List.map_map] at htk
  simp [evSs, evS, evE, evEs, evT, evI, evO, bind_ok, lft_some, deref_val, deref_slot, getS_0, getS_s, derefs, takes, take, D.fz, own_val, own, retV, callE, passA, lentS, backA, asgG, asgsG, protT, protTs, List.tail_cons, hf, hm, hmul, hz, htk, hlk, q2, q3, q6, seqOf, augI]
theorem gf_for {C : Ctx} (hp : ∀ i, C.pr i = (fun i => [false, false, false].getD i false) i) {c r : Option D} : ∀ (l : List (Int × Int)) (s : List Int × Int) (x4 x5 x6 : Option D), (∀ p ∈ l, 0 < p.1 ∧ p.1 < 1073741824) → s.1.length + l.length ≤ sizeLine →
    ∃ y4 y5 y6, forL (fun d G => match asgG (.tup (.cons (.name 4) (.cons (.name 5) .nil))) d G with
      | none => R.no
      | some G => evSs C (.cons (.set 6 (.bi .min (.cons (.var 5) (.cons (.bin .fdiv (.var 2) (.var 4)) .nil)))) (.cons (.set 3 (.lst (.cons (.var 6) (.star (.var 3) .nil)))) (.cons (.aug 2 .sub (.bin .mul (.var 6) (.var 4))) .nil))) G) (l.map fun p => .tup [.int p.1, .int p.2])
      [c, r, some (.int s.2), some (.mls (s.1.map .int)), x4, x5, x6] = .ok .nx [c, r, some (.int (l.foldl gfS s).2), some (.mls ((l.foldl gfS s).1.map .int)), y4, y5, y6]
  | [], s, x4, x5, x6, _, _ => ⟨x4, x5, x6, rfl⟩
  | p :: l, s, x4, x5, x6, h, hl => by
    have h1 := gf_body hp (c := c) (r := r) (x4 := x4) (x5 := x5) (x6 := x6) (s := s) (p := p) (h p List.mem_cons_self).1 (h p List.mem_cons_self).2 (by rw [List.length_cons] at hl; omega)
    obtain ⟨y4, y5, y6, e⟩ := gf_for hp (c := c) (r := r) l (gfS s p) (some (.int p.1)) (some (.int p.2)) (some (.int ((gfS s p).1.headD 0))) (fun q hq => h q (List.mem_cons_of_mem _ hq)) (by
      rw [List.length_cons] at hl
      show s.1.length + 1 + l.length ≤ _
      omega)
    refine ⟨y4, y5, y6, ?_⟩
    rw [List.map_cons, List.foldl_cons]
    refine Eq.trans (forL_nx ?_) e
    exact h1
theorem gf_loop {C : Ctx} (hp : ∀ i, C.pr i = (fun i => [false, false, false].getD i false) i) {vs caps W : List Int} {a : Int} (hv : ∀ v ∈ vs, 0 < v ∧ v < 1073741824) (hl : vs.length ≤ sizeLine) : ∃ y4 y5 y6,
    evSs C L98.b_greatest_first [some (coinD vs caps), some (rowD W), some (.int a), none, none, none, none] =
    evSs C (.cons (.ret (.ife (.cmp .eq (.var 2) (.int 0)) (.col .tuple (.var 3)) .non)) .nil) [some (coinD vs caps), some (rowD W), some (.int (gfR vs W a).2), some (.mls ((gfR vs W a).1.map .int)), y4, y5, y6] := by
  have q3 : C.pr 3 = false := hp 3
  have q4 : C.pr 4 = false := hp 4
  have q5 : C.pr 5 = false := hp 5
  have hzl : (vs.zip W).length ≤ sizeLine := by rw [List.length_zip]; omega
  have ix0 : ixD (coinD vs caps) (.int 0) = some (rowD vs) := rfl
  have hlz : lzipX (rowD vs) (rowD W) = some (.mls ((vs.zip W).map fun p => .tup [.int p.1, .int p.2])) := by
    have e : zipX (rowD vs) (rowD W) = some (.tup ((vs.zip W).map fun p => .tup [.int p.1, .int p.2])) := by
      rw [← zip_rows]; rfl
    unfold lzipX
    rw [e]
    show (if lenOk _ = true then _ else _) = _
    rw [if_pos]
    unfold lenOk
    rw [decide_eq_true_eq, List.length_map]
    exact hzl
  have e1 : evS C (.set 3 (.lst .nil)) [some (coinD vs caps), some (rowD W), some (.int a), none, none, none, none] = .ok .nx [some (coinD vs caps), some (rowD W), some (.int a), some (.mls []), none, none, none] := by
    simp [evSs, evS, evE, evEs, evT, evI, evO, bind_ok, lft_some, deref_val, deref_slot, getS_0, getS_s, derefs, takes, take, D.fz, own_val, own, retV, callE, passA, lentS, backA, asgG, asgsG, protT, protTs, List.tail_cons, q3, lenOk]
  have hrv : revD (.mls ((vs.zip W).map fun p => .tup [.int p.1, .int p.2])) = some (.mls ((vs.zip W).reverse.map fun p => .tup [.int p.1, .int p.2])) := by
    show some (D.mls (List.reverse _)) = _
    rw [List.map_reverse]
  have hfz : D.fzs ((vs.zip W).reverse.map fun p : Int × Int => .tup [.int p.1, .int p.2]) = (vs.zip W).reverse.map fun p : Int × Int => .tup [.int p.1, .int p.2] := fzs_map (fun _ => rfl) _
  have hi : evI C (.seq (.rev (.lzip (.cons (.ix (.var 0) (.int 0)) (.cons (.var 1) .nil))))) [some (coinD vs caps), some (rowD W), some (.int a), some (.mls []), none, none, none] = .ok ((vs.zip W).reverse.map fun p => .tup [.int p.1, .int p.2]) [some (coinD vs caps), some (rowD W), some (.int a), some (.mls []), none, none, none] := by
    simp only [evSs, evS, evE, evEs, evT, evI, evO, bind_ok, lft_some, deref_val, deref_slot, getS_0, getS_s, derefs, takes, take, D.fz, own_val, own, retV, callE, passA, lentS, backA, asgG, asgsG, protT, protTs, List.tail_cons, ix0, on2, hlz, hrv, hfz, seqOf, List.set]
  obtain ⟨y4, y5, y6, e2⟩ := gf_for hp (c := some (coinD vs caps)) (r := some (rowD W)) (vs.zip W).reverse ([], a) none none none (fun p h => hv _ (List.of_mem_zip (List.mem_reverse.mp h)).1) (by rw [List.length_reverse]; simpa using hzl)
  refine ⟨y4, y5, y6, ?_⟩
  rw [L98.b_greatest_first, seq_nx e1, seq_nx ((ev_for (by simp [protT, protTs, q4, q5]) hi).trans e2)]
  rfl
theorem gf_end {C : Ctx} {vs caps W : List Int} {s : List Int × Int} {y4 y5 y6 : Option D} (hl : s.1.length ≤ sizeLine) : ∃ G, evSs C (.cons (.ret (.ife (.cmp .eq (.var 2) (.int 0)) (.col .tuple (.var 3)) .non)) .nil) [some (coinD vs caps), some (rowD W), some (.int s.2), some (.mls (s.1.map .int)), y4, y5, y6] = .ok (.rt (wayD s)) (some (coinD vs caps) :: some (rowD W) :: some (.int s.2) :: G) := by
  have hz : D.fzs (s.1.map .int) = s.1.map .int := fzs_map (fun _ => rfl) _
  have hc : colD .tuple (.lst (s.1.map .int)) = some (rowD s.1) := colT_mls (by rw [List.length_map]; exact hl)
  unfold wayD
  by_cases h : s.2 = 0
  · rw [if_pos h]
    refine ⟨[some (.lst (s.1.map .int)), y4, y5, y6], ?_⟩
    simp [evSs, evS, evE, evEs, evT, evI, evO, bind_ok, lft_some, deref_val, deref_slot, getS_0, getS_s, derefs, takes, take, D.fz, own_val, own, retV, callE, passA, lentS, backA, asgG, asgsG, protT, protTs, List.tail_cons, cmpD_eq, eqD_int, h, hz, hc]
  · rw [if_neg h]
    refine ⟨[some (.mls (s.1.map .int)), y4, y5, y6], ?_⟩
    simp [evSs, evS, evE, evEs, evT, evI, evO, bind_ok, lft_some, deref_val, deref_slot, getS_0, getS_s, derefs, takes, take, D.fz, own_val, own, retV, callE, passA, lentS, backA, asgG, asgsG, protT, protTs, List.tail_cons, cmpD_eq, eqD_int, h]
theorem chain_small : ∀ vs ∈ chains, ∀ v ∈ vs, 0 < v ∧ v < 1073741824 := by
  refine by_chain ?_ ?_ ?_ ?_ ?_ ?_ <;> decide
theorem e_gf {n : Nat} : ∀ vs ∈ chains, ∀ (W : List Int) (a : Int), W.length = vs.length → evF L98.pg (n + 1) "greatest_first" [coin vs, rowD W, .int a] = .ret (wayD (gfR vs W a)) [coin vs, rowD W, .int (gfR vs W a).2] := by
  intro vs hv W a hW
  have hk : vs.length ≤ sizeLine := by
    revert vs
    exact by_chain (by intros; decide) (by intros; decide) (by intros; decide) (by intros; decide) (by intros; decide) (by intros; decide)
  have hl : (gfR vs W a).1.length ≤ sizeLine := by
    rw [len_gf vs hv W a hW]
    exact hk
  obtain ⟨y4, y5, y6, e1⟩ := gf_loop (C := ⟨evF L98.pg n, modes L98.pg, fun i => [false, false, false].getD i false, 3⟩) (fun _ => rfl) (vs := vs) (caps := capsR vs) (W := W) (a := a) (chain_small vs hv) hk
  obtain ⟨G, e⟩ := gf_end (C := ⟨evF L98.pg n, modes L98.pg, fun i => [false, false, false].getD i false, 3⟩) (vs := vs) (caps := capsR vs) (W := W) (y4 := y4) (y5 := y5) (y6 := y6) hl
  exact ev_run (fd := ⟨3, 7, [false, false, false], L98.b_greatest_first⟩) (by kernel_rfl) rfl (by decide) (e1.trans e) rfl
/-! ### what calls it -/
theorem e_finest {n : Nat} : ∀ vs ∈ chains, ∀ (W : List Int) (a : Int), W.length = vs.length → evF L98.pg (n + 3) "finest_change" [coin vs, rowD W, .int a] = .ret (wayD (gfR vs W a)) [coin vs, rowD W, .int a] := by
  intro vs hv W a hW
  have h1 := e_need (n := n) vs hv
  have h2 := e_gf (n := n + 1) vs hv W a hW
  have key : ∀ C : Ctx, C.cal "need_chain" [coin vs] = .ret .non [coin vs] → C.cal "greatest_first" [coin vs, rowD W, .int a] = .ret (wayD (gfR vs W a)) [coin vs, rowD W, .int (gfR vs W a).2] → C.md "need_chain" = [false] → C.md "greatest_first" = [false, false, false] →
      evSs C L98.b_finest_change [some (coin vs), some (rowD W), some (.int a)] = .ok (.rt (wayD (gfR vs W a))) [some (coin vs), some (rowD W), some (.int a)] := by
    intro C c1 c2 m1 m2
    simp [L98.b_finest_change, evSs, evS, evE, evEs, evT, evI, evO, bind_ok, lft_some, deref_val, deref_slot, getS_0, getS_s, derefs, takes, take, D.fz, own_val, own, retV, callE, passA, lentS, backA, asgG, asgsG, protT, protTs, List.tail_cons, c1, c2, m1, m2]
  exact ev_run (fd := ⟨3, 3, [false, false, false], L98.b_finest_change⟩) (by kernel_rfl) rfl (by decide) (key _ h1 h2 rfl rfl) rfl
theorem e_ints {n : Nat} {r : List Int} (h : r.length = 2 ∨ r.length = 3) : evF L98.pg (n + 3) "are_integers" [rowD r] = .ret (.bl true) [rowD r] := by
  rcases h with h | h
  · obtain ⟨x, y, rfl⟩ := len2 h; kernel_rfl
  · obtain ⟨x, y, z, rfl⟩ := len3 h; kernel_rfl
theorem chain_len : ∀ vs ∈ chains, vs.length = 2 ∨ vs.length = 3 := by
  refine by_chain ?_ ?_ ?_ ?_ ?_ ?_ <;> decide
theorem e_isfinest {n : Nat} : ∀ vs ∈ chains, ∀ (W r : List Int) (a : Int), W.length = vs.length → r.length = vs.length → evF L98.pg (n + 4) "is_finest" [coin vs, rowD W, .int a, rowD r] = .ret (.bl (isWay r (gfR vs W a))) [coin vs, rowD W, .int a, rowD r] := by
  intro vs hv W r a hW hr
  have h1 := e_need (n := n + 1) vs hv
  have h2 := e_finest (n := n) vs hv W a hW
  have h3 := e_ints (n := n) (r := r) (by rw [hr]; exact chain_len vs hv)
  have h4 := eqD_way r (gfR vs W a)
  have key : ∀ C : Ctx, C.cal "need_chain" [coin vs] = .ret .non [coin vs] → C.cal "finest_change" [coin vs, rowD W, .int a] = .ret (wayD (gfR vs W a)) [coin vs, rowD W, .int a] → C.cal "are_integers" [rowD r] = .ret (.bl true) [rowD r] →
      C.md "need_chain" = [false] → C.md "finest_change" = [false, false, false] → C.md "are_integers" = [false] →
      evSs C L98.b_is_finest [some (coin vs), some (rowD W), some (.int a), some (rowD r)] = .ok (.rt (.bl (isWay r (gfR vs W a)))) [some (coin vs), some (rowD W), some (.int a), some (rowD r)] := by
    intro C c1 c2 c3 m1 m2 m3
    simp [L98.b_is_finest, evSs, evS, evE, evEs, evT, evI, evO, bind_ok, lft_some, deref_val, deref_slot, getS_0, getS_s, derefs, takes, take, D.fz, own_val, own, retV, callE, passA, lentS, backA, asgG, asgsG, protT, protTs, List.tail_cons, c1, c2, c3, m1, m2, m3, cmpD_eq, h4, truthD]
  exact ev_run (fd := ⟨4, 4, [false, false, false, false], L98.b_is_finest⟩) (by kernel_rfl) rfl (by decide) (key _ h1 h2 h3 rfl rfl rfl) rfl
/-! ### less, added, worth -/
def aboveR (a b : List Int) : Bool := (a.zip b).all fun p => decide (p.2 ≤ p.1)
theorem e_above {n : Nat} {a b : List Int} (ha : a.length = 2 ∨ a.length = 3) (hb : b.length = a.length) : evF L98.pg (n + 1) "is_above" [rowD a, rowD b] = .ret (.bl (aboveR a b)) [rowD a, rowD b] := by
  rcases ha with h | h
  · obtain ⟨x, y, rfl⟩ := len2 h; obtain ⟨x', y', rfl⟩ := len2 hb; kernel_rfl
  · obtain ⟨x, y, z, rfl⟩ := len3 h; obtain ⟨x', y', z', rfl⟩ := len3 hb; kernel_rfl
theorem e_added {n : Nat} {a b : List Int} (ha : a.length = 2 ∨ a.length = 3) (hb : b.length = a.length) : evF L98.pg (n + 1) "added" [rowD a, rowD b] = .ret (rowD (plusR a b)) [rowD a, rowD b] := by
  rcases ha with h | h
  · obtain ⟨x, y, rfl⟩ := len2 h; obtain ⟨x', y', rfl⟩ := len2 hb; kernel_rfl
  · obtain ⟨x, y, z, rfl⟩ := len3 h; obtain ⟨x', y', z', rfl⟩ := len3 hb; kernel_rfl
theorem e_lplus {n : Nat} {a b : List Int} (ha : a.length = 2 ∨ a.length = 3) (hb : b.length = a.length) : evF L98.pg (n + 1) "_law_plus" [rowD a, rowD b] = .ret (rowD (plusR a b)) [rowD a, rowD b] := by
  rcases ha with h | h
  · obtain ⟨x, y, rfl⟩ := len2 h; obtain ⟨x', y', rfl⟩ := len2 hb; kernel_rfl
  · obtain ⟨x, y, z, rfl⟩ := len3 h; obtain ⟨x', y', z', rfl⟩ := len3 hb; kernel_rfl
theorem e_lless {n : Nat} {a b : List Int} (ha : a.length = 2 ∨ a.length = 3) (hb : b.length = a.length) : evF L98.pg (n + 1) "_law_less" [rowD a, rowD b] = .ret (rowD (lessR a b)) [rowD a, rowD b] := by
  rcases ha with h | h
  · obtain ⟨x, y, rfl⟩ := len2 h; obtain ⟨x', y', rfl⟩ := len2 hb; kernel_rfl
  · obtain ⟨x, y, z, rfl⟩ := len3 h; obtain ⟨x', y', z', rfl⟩ := len3 hb; kernel_rfl
theorem e_worth {n : Nat} : ∀ vs ∈ chains, ∀ r : List Int, r.length = vs.length → evF L98.pg (n + 1) "worth" [coin vs, rowD r] = .ret (.int (worthR vs r)) [coin vs, rowD r] := by
  refine by_chain ?_ ?_ ?_ ?_ ?_ ?_ <;> intro W hW
  · obtain ⟨x, y, rfl⟩ := len2 hW; kernel_rfl
  · obtain ⟨x, y, z, rfl⟩ := len3 hW; kernel_rfl
  · obtain ⟨x, y, z, rfl⟩ := len3 hW; kernel_rfl
  · obtain ⟨x, y, rfl⟩ := len2 hW; kernel_rfl
  · obtain ⟨x, y, z, rfl⟩ := len3 hW; kernel_rfl
  · obtain ⟨x, y, z, rfl⟩ := len3 hW; kernel_rfl
theorem e_lworth {n : Nat} : ∀ vs ∈ chains, ∀ r : List Int, r.length = vs.length → evF L98.pg (n + 1) "_law_worth" [coin vs, rowD r] = .ret (.int (worthR vs r)) [coin vs, rowD r] := by
  refine by_chain ?_ ?_ ?_ ?_ ?_ ?_ <;> intro W hW
  · obtain ⟨x, y, rfl⟩ := len2 hW; kernel_rfl
  · obtain ⟨x, y, z, rfl⟩ := len3 hW; kernel_rfl
  · obtain ⟨x, y, z, rfl⟩ := len3 hW; kernel_rfl
  · obtain ⟨x, y, rfl⟩ := len2 hW; kernel_rfl
  · obtain ⟨x, y, z, rfl⟩ := len3 hW; kernel_rfl
  · obtain ⟨x, y, z, rfl⟩ := len3 hW; kernel_rfl
theorem less_rest {n : Nat} {a b : List Int} (ha : a.length = 2 ∨ a.length = 3) (hb : b.length = a.length) : evSs ⟨evF L98.pg n, modes L98.pg, fun i => [false, false].getD i false, 2⟩ (.cons (.ret (.col .tuple (.comp [2, 3] (.tup (.cons (.name 2) (.cons (.name 3) .nil))) (.zip (.cons (.var 0) (.cons (.var 1) .nil))) .none (.bin .sub (.var 2) (.var 3))))) .nil) [some (rowD a), some (rowD b), none, none] = .ok (.rt (rowD (lessR a b))) [some (rowD a), some (rowD b), none, none] := by
  rcases ha with h | h
  · obtain ⟨x, y, rfl⟩ := len2 h; obtain ⟨x', y', rfl⟩ := len2 hb; kernel_rfl
  · obtain ⟨x, y, z, rfl⟩ := len3 h; obtain ⟨x', y', z', rfl⟩ := len3 hb; kernel_rfl
theorem e_less {n : Nat} {a b : List Int} (ha : a.length = 2 ∨ a.length = 3) (hb : b.length = a.length) (hab : aboveR a b = true) : evF L98.pg (n + 2) "less" [rowD a, rowD b] = .ret (rowD (lessR a b)) [rowD a, rowD b] := by
  have h1 := e_above (n := n) ha hb
  rw [hab] at h1
  have key : ∀ C : Ctx, C.cal "is_above" [rowD a, rowD b] = .ret (.bl true) [rowD a, rowD b] → C.md "is_above" = [false, false] → evS C (.ife (.not (.val (.call "is_above" (.cons (.var 0) (.cons (.var 1) .nil))))) (.cons .never .nil) .nil) [some (rowD a), some (rowD b), none, none] = .ok .nx [some (rowD a), some (rowD b), none, none] := by
    intro C c1 m1
    simp [evSs, evS, evE, evEs, evT, evI, evO, bind_ok, lft_some, deref_val, deref_slot, getS_0, getS_s, derefs, takes, take, D.fz, own_val, own, retV, callE, passA, lentS, backA, asgG, asgsG, protT, protTs, List.tail_cons, c1, m1, truthD]
  exact ev_run (fd := ⟨2, 4, [false, false], L98.b_less⟩) (by kernel_rfl) rfl (by decide) ((seq_nx (key _ h1 rfl)).trans (less_rest ha hb)) rfl
/-! ### the finest tubes behind a sale -/
abbrev saleD (p : Int) (paid : List Int) : D := .tup [.int p, rowD paid]
def holdR (t paid : List Int) : List Int := plusR t paid
def dueR (vs : List Int) (p : Int) (paid : List Int) : Int := worthR vs paid - p
def behindD (vs t : List Int) (p : Int) (paid : List Int) : D := if (gfR vs (plusR t paid) (dueR vs p paid)).2 = 0 then rowD (lessR (plusR t paid) (gfR vs (plusR t paid) (dueR vs p paid)).1) else .non
theorem len_plus {a b : List Int} (h : b.length = a.length) : (plusR a b).length = a.length := by
  unfold plusR
  rw [List.length_map, List.length_zip, h, Nat.min_self]
theorem len_less {a b : List Int} (h : b.length = a.length) : (lessR a b).length = a.length := by
  unfold lessR
  rw [List.length_map, List.length_zip, h, Nat.min_self]
theorem e_behind {n : Nat} : ∀ vs ∈ chains, ∀ (t paid : List Int) (p : Int), t.length = vs.length → paid.length = vs.length → ((gfR vs (plusR t paid) (dueR vs p paid)).2 = 0 → aboveR (plusR t paid) (gfR vs (plusR t paid) (dueR vs p paid)).1 = true) →
    evF L98.pg (n + 3) "finest_behind" [coin vs, rowD t, saleD p paid] = .ret (behindD vs t p paid) [coin vs, rowD t, saleD p paid] := by
  intro vs hv t paid p ht hp hab
  have hl : t.length = 2 ∨ t.length = 3 := by rw [ht]; exact chain_len vs hv
  have hpl : paid.length = t.length := by rw [hp, ht]
  have hh : (plusR t paid).length = vs.length := by rw [len_plus hpl, ht]
  have h1 := e_need (n := n) vs hv
  have h2 := e_added (n := n + 1) hl hpl
  have h3 := e_worth (n := n + 1) vs hv paid hp
  have h4 := e_gf (n := n + 1) vs hv (plusR t paid) (dueR vs p paid) hh
  have ix0 : ixD (saleD p paid) (.int 0) = some (.int p) := rfl
  have ix1 : ixD (saleD p paid) (.int 1) = some (rowD paid) := rfl
  have hsub : binD .sub (.int (worthR vs paid)) (.int p) = some (.int (dueR vs p paid)) := rfl
  unfold behindD
  by_cases hz : (gfR vs (plusR t paid) (dueR vs p paid)).2 = 0
  · rw [if_pos hz]
    have hw : wayD (gfR vs (plusR t paid) (dueR vs p paid)) = rowD (gfR vs (plusR t paid) (dueR vs p paid)).1 := if_pos hz
    have hgl := len_gf vs hv (plusR t paid) (dueR vs p paid) hh
    have h5 := e_less (n := n) (a := plusR t paid) (b := (gfR vs (plusR t paid) (dueR vs p paid)).1) (by rw [hh]; exact chain_len vs hv) (by rw [hgl, hh]) (hab hz)
    rw [hw] at h4
    generalize gfR vs (plusR t paid) (dueR vs p paid) = s at *
    have key : ∀ C : Ctx, C.pr = (fun i => [false, false, false].getD i false) → C.cal "need_chain" [coin vs] = .ret .non [coin vs] → C.cal "added" [rowD t, rowD paid] = .ret (rowD (plusR t paid)) [rowD t, rowD paid] → C.cal "worth" [coin vs, rowD paid] = .ret (.int (worthR vs paid)) [coin vs, rowD paid] →
        C.cal "greatest_first" [coin vs, rowD (plusR t paid), .int (dueR vs p paid)] = .ret (rowD s.1) [coin vs, rowD (plusR t paid), .int s.2] → C.cal "less" [rowD (plusR t paid), rowD s.1] = .ret (rowD (lessR (plusR t paid) s.1)) [rowD (plusR t paid), rowD s.1] →
        C.md "need_chain" = [false] → C.md "added" = [false, false] → C.md "worth" = [false, false] → C.md "greatest_first" = [false, false, false] → C.md "less" = [false, false] →
        evSs C L98.b_finest_behind [some (coin vs), some (rowD t), some (saleD p paid), none, none] = .ok (.rt (rowD (lessR (plusR t paid) s.1))) [some (coin vs), some (rowD t), some (saleD p paid), some (rowD (plusR t paid)), some (rowD s.1)] := by
      intro C hpr c1 c2 c3 c4 c5 m1 m2 m3 m4 m5
      simp [L98.b_finest_behind, evSs, evS, evE, evEs, evT, evI, evO, bind_ok, lft_some, deref_val, deref_slot, getS_0, getS_s, derefs, takes, take, D.fz, own_val, own, retV, callE, passA, lentS, backA, asgG, asgsG, protT, protTs, List.tail_cons, c1, c2, c3, c4, c5, m1, m2, m3, m4, m5, ix0, ix1, hsub, hpr, cmpD, D.isNon]
    exact ev_run (fd := ⟨3, 5, [false, false, false], L98.b_finest_behind⟩) (by kernel_rfl) rfl (by decide) (key _ rfl h1 h2 h3 h4 h5 rfl rfl rfl rfl rfl) rfl
  · rw [if_neg hz]
    have hw : wayD (gfR vs (plusR t paid) (dueR vs p paid)) = .non := if_neg hz
    rw [hw] at h4
    generalize gfR vs (plusR t paid) (dueR vs p paid) = s at *
    have key : ∀ C : Ctx, C.pr = (fun i => [false, false, false].getD i false) → C.cal "need_chain" [coin vs] = .ret .non [coin vs] → C.cal "added" [rowD t, rowD paid] = .ret (rowD (plusR t paid)) [rowD t, rowD paid] → C.cal "worth" [coin vs, rowD paid] = .ret (.int (worthR vs paid)) [coin vs, rowD paid] →
        C.cal "greatest_first" [coin vs, rowD (plusR t paid), .int (dueR vs p paid)] = .ret .non [coin vs, rowD (plusR t paid), .int s.2] →
        C.md "need_chain" = [false] → C.md "added" = [false, false] → C.md "worth" = [false, false] → C.md "greatest_first" = [false, false, false] →
        evSs C L98.b_finest_behind [some (coin vs), some (rowD t), some (saleD p paid), none, none] = .ok (.rt .non) [some (coin vs), some (rowD t), some (saleD p paid), some (rowD (plusR t paid)), some .non] := by
      intro C hpr c1 c2 c3 c4 m1 m2 m3 m4
      simp [L98.b_finest_behind, evSs, evS, evE, evEs, evT, evI, evO, bind_ok, lft_some, deref_val, deref_slot, getS_0, getS_s, derefs, takes, take, D.fz, own_val, own, retV, callE, passA, lentS, backA, asgG, asgsG, protT, protTs, List.tail_cons, c1, c2, c3, c4, m1, m2, m3, m4, ix0, ix1, hsub, hpr, cmpD, D.isNon]
    exact ev_run (fd := ⟨3, 5, [false, false, false], L98.b_finest_behind⟩) (by kernel_rfl) rfl (by decide) (key _ rfl h1 h2 h3 h4 rfl rfl rfl rfl) rfl
end Dv
end
section
set_option Elab.async false
set_option linter.all false
set_option maxRecDepth 100000
set_option maxHeartbeats 8000000
/-! Q3 (k98): the mathematics of chains. -/
namespace Dv
open PySem L2
def nonneg (r : List Int) : Bool := r.all fun x => decide (0 ≤ x)
def okR (W r : List Int) : Bool := nonneg r && aboveR W r
theorem gfS_spec (s : List Int × Int) {v m : Int} (hv : 0 < v) : ∃ g : Int, gfS s (v, m) = (g :: s.1, s.2 - g * v) ∧ ((s.2 / v < m ∧ g = s.2 / v) ∨ (m ≤ s.2 / v ∧ g = m)) := by
  have e : gfS s (v, m) = ((if s.2.fdiv v < m then s.2.fdiv v else m) :: s.1, s.2 - (if s.2.fdiv v < m then s.2.fdiv v else m) * v) := rfl
  rw [e, Int.fdiv_eq_ediv_of_nonneg _ (by omega)]
  by_cases h : s.2 / v < m
  · rw [if_pos h]; exact ⟨_, rfl, .inl ⟨h, rfl⟩⟩
  · rw [if_neg h]; exact ⟨_, rfl, .inr ⟨by omega, rfl⟩⟩
theorem gf2 {v0 v1 : Int} (h0 : 0 < v0) (h1 : 0 < v1) (w0 w1 a : Int) : ∃ g0 g1 : Int, gfR [v0, v1] [w0, w1] a = ([g0, g1], a - g1 * v1 - g0 * v0) ∧
    ((a / v1 < w1 ∧ g1 = a / v1) ∨ (w1 ≤ a / v1 ∧ g1 = w1)) ∧ (((a - g1 * v1) / v0 < w0 ∧ g0 = (a - g1 * v1) / v0) ∨ (w0 ≤ (a - g1 * v1) / v0 ∧ g0 = w0)) := by
  have e : gfR [v0, v1] [w0, w1] a = gfS (gfS ([], a) (v1, w1)) (v0, w0) := rfl
  obtain ⟨g1, e1, s1⟩ := gfS_spec ([], a) (m := w1) h1
  rw [e, e1]
  obtain ⟨g0, e0, s0⟩ := gfS_spec ([g1], a - g1 * v1) (m := w0) h0
  exact ⟨g0, g1, e0, s1, s0⟩
theorem gf3 {v0 v1 v2 : Int} (h0 : 0 < v0) (h1 : 0 < v1) (h2 : 0 < v2) (w0 w1 w2 a : Int) : ∃ g0 g1 g2 : Int, gfR [v0, v1, v2] [w0, w1, w2] a = ([g0, g1, g2], a - g2 * v2 - g1 * v1 - g0 * v0) ∧
    ((a / v2 < w2 ∧ g2 = a / v2) ∨ (w2 ≤ a / v2 ∧ g2 = w2)) ∧ (((a - g2 * v2) / v1 < w1 ∧ g1 = (a - g2 * v2) / v1) ∨ (w1 ≤ (a - g2 * v2) / v1 ∧ g1 = w1)) ∧
    (((a - g2 * v2 - g1 * v1) / v0 < w0 ∧ g0 = (a - g2 * v2 - g1 * v1) / v0) ∨ (w0 ≤ (a - g2 * v2 - g1 * v1) / v0 ∧ g0 = w0)) := by
  have e : gfR [v0, v1, v2] [w0, w1, w2] a = gfS (gfS (gfS ([], a) (v2, w2)) (v1, w1)) (v0, w0) := rfl
  obtain ⟨g2, e2, s2⟩ := gfS_spec ([], a) (m := w2) h2
  rw [e, e2]
  obtain ⟨g1, e1, s1⟩ := gfS_spec ([g2], a - g2 * v2) (m := w1) h1
  rw [e1]
  obtain ⟨g0, e0, s0⟩ := gfS_spec ([g1, g2], a - g2 * v2 - g1 * v1) (m := w0) h0
  exact ⟨g0, g1, g2, e0, s2, s1, s0⟩
/-- the finest change: as far as any change goes, and finer -/
theorem main_gf : ∀ vs ∈ chains, ∀ (W W' r : List Int), W.length = vs.length → W'.length = vs.length → r.length = vs.length → nonneg W = true → finR vs W W' = true → okR W' r = true →
    (gfR vs W (worthR vs r)).2 = 0 ∧ okR W (gfR vs W (worthR vs r)).1 = true ∧ worthR vs (gfR vs W (worthR vs r)).1 = worthR vs r ∧ finR vs (lessR W (gfR vs W (worthR vs r)).1) (lessR W' r) = true := by
  refine by_chain ?_ ?_ ?_ ?_ ?_ ?_ <;> intro W W' r h1 h2 h3
  · obtain ⟨x, y, rfl⟩ := len2 h1; obtain ⟨x', y', rfl⟩ := len2 h2; obtain ⟨a, b, rfl⟩ := len2 h3
    obtain ⟨g0, g1, e, s1, s0⟩ := gf2 (v0 := 1) (v1 := 2) (by decide) (by decide) x y (worthR [1, 2] [a, b])
    rw [e]
    simp [nonneg, finR, smallR, okR, aboveR, worthR, lessR] at s1 s0 ⊢
    omega
  · obtain ⟨x, y, z, rfl⟩ := len3 h1; obtain ⟨x', y', z', rfl⟩ := len3 h2; obtain ⟨a, b, c, rfl⟩ := len3 h3
    obtain ⟨g0, g1, g2, e, s2, s1, s0⟩ := gf3 (v0 := 1) (v1 := 2) (v2 := 4) (by decide) (by decide) (by decide) x y z (worthR [1, 2, 4] [a, b, c])
    rw [e]
    simp [nonneg, finR, smallR, okR, aboveR, worthR, lessR] at s2 s1 s0 ⊢
    omega
  · obtain ⟨x, y, z, rfl⟩ := len3 h1; obtain ⟨x', y', z', rfl⟩ := len3 h2; obtain ⟨a, b, c, rfl⟩ := len3 h3
    obtain ⟨g0, g1, g2, e, s2, s1, s0⟩ := gf3 (v0 := 1) (v1 := 5) (v2 := 10) (by decide) (by decide) (by decide) x y z (worthR [1, 5, 10] [a, b, c])
    rw [e]
    simp [nonneg, finR, smallR, okR, aboveR, worthR, lessR] at s2 s1 s0 ⊢
    omega
  · obtain ⟨x, y, rfl⟩ := len2 h1; obtain ⟨x', y', rfl⟩ := len2 h2; obtain ⟨a, b, rfl⟩ := len2 h3
    obtain ⟨g0, g1, e, s1, s0⟩ := gf2 (v0 := 2) (v1 := 6) (by decide) (by decide) x y (worthR [2, 6] [a, b])
    rw [e]
    simp [nonneg, finR, smallR, okR, aboveR, worthR, lessR] at s1 s0 ⊢
    omega
  · obtain ⟨x, y, z, rfl⟩ := len3 h1; obtain ⟨x', y', z', rfl⟩ := len3 h2; obtain ⟨a, b, c, rfl⟩ := len3 h3
    obtain ⟨g0, g1, g2, e, s2, s1, s0⟩ := gf3 (v0 := 1) (v1 := 3) (v2 := 6) (by decide) (by decide) (by decide) x y z (worthR [1, 3, 6] [a, b, c])
    rw [e]
    simp [nonneg, finR, smallR, okR, aboveR, worthR, lessR] at s2 s1 s0 ⊢
    omega
  · obtain ⟨x, y, z, rfl⟩ := len3 h1; obtain ⟨x', y', z', rfl⟩ := len3 h2; obtain ⟨a, b, c, rfl⟩ := len3 h3
    obtain ⟨g0, g1, g2, e, s2, s1, s0⟩ := gf3 (v0 := 5) (v1 := 10) (v2 := 50) (by decide) (by decide) (by decide) x y z (worthR [5, 10, 50] [a, b, c])
    rw [e]
    simp [nonneg, finR, smallR, okR, aboveR, worthR, lessR] at s2 s1 s0 ⊢
    omega
theorem gf_ok : ∀ vs ∈ chains, ∀ (W : List Int) (a : Int), W.length = vs.length → nonneg W = true → 0 ≤ a → (gfR vs W a).2 = 0 → okR W (gfR vs W a).1 = true ∧ worthR vs (gfR vs W a).1 = a := by
  refine by_chain ?_ ?_ ?_ ?_ ?_ ?_ <;> intro W a h1
  · obtain ⟨x, y, rfl⟩ := len2 h1
    obtain ⟨g0, g1, e, s1, s0⟩ := gf2 (v0 := 1) (v1 := 2) (by decide) (by decide) x y a
    rw [e]; simp [nonneg, okR, aboveR, worthR] at s1 s0 ⊢; omega
  · obtain ⟨x, y, z, rfl⟩ := len3 h1
    obtain ⟨g0, g1, g2, e, s2, s1, s0⟩ := gf3 (v0 := 1) (v1 := 2) (v2 := 4) (by decide) (by decide) (by decide) x y z a
    rw [e]; simp [nonneg, okR, aboveR, worthR] at s2 s1 s0 ⊢; omega
  · obtain ⟨x, y, z, rfl⟩ := len3 h1
    obtain ⟨g0, g1, g2, e, s2, s1, s0⟩ := gf3 (v0 := 1) (v1 := 5) (v2 := 10) (by decide) (by decide) (by decide) x y z a
    rw [e]; simp [nonneg, okR, aboveR, worthR] at s2 s1 s0 ⊢; omega
  · obtain ⟨x, y, rfl⟩ := len2 h1
    obtain ⟨g0, g1, e, s1, s0⟩ := gf2 (v0 := 2) (v1 := 6) (by decide) (by decide) x y a
    rw [e]; simp [nonneg, okR, aboveR, worthR] at s1 s0 ⊢; omega
  · obtain ⟨x, y, z, rfl⟩ := len3 h1
    obtain ⟨g0, g1, g2, e, s2, s1, s0⟩ := gf3 (v0 := 1) (v1 := 3) (v2 := 6) (by decide) (by decide) (by decide) x y z a
    rw [e]; simp [nonneg, okR, aboveR, worthR] at s2 s1 s0 ⊢; omega
  · obtain ⟨x, y, z, rfl⟩ := len3 h1
    obtain ⟨g0, g1, g2, e, s2, s1, s0⟩ := gf3 (v0 := 5) (v1 := 10) (v2 := 50) (by decide) (by decide) (by decide) x y z a
    rw [e]; simp [nonneg, okR, aboveR, worthR] at s2 s1 s0 ⊢; omega
theorem fin_refl : ∀ vs ∈ chains, ∀ W : List Int, W.length = vs.length → finR vs W W = true := by
  refine by_chain ?_ ?_ ?_ ?_ ?_ ?_ <;> intro W h1
  · obtain ⟨x, y, rfl⟩ := len2 h1; simp [finR, smallR]
  · obtain ⟨x, y, z, rfl⟩ := len3 h1; simp [finR, smallR]
  · obtain ⟨x, y, z, rfl⟩ := len3 h1; simp [finR, smallR]
  · obtain ⟨x, y, rfl⟩ := len2 h1; simp [finR, smallR]
  · obtain ⟨x, y, z, rfl⟩ := len3 h1; simp [finR, smallR]
  · obtain ⟨x, y, z, rfl⟩ := len3 h1; simp [finR, smallR]
theorem fin_plus : ∀ vs ∈ chains, ∀ a b p : List Int, a.length = vs.length → b.length = vs.length → p.length = vs.length → finR vs a b = true → finR vs (plusR a p) (plusR b p) = true := by
  refine by_chain ?_ ?_ ?_ ?_ ?_ ?_ <;> intro W W' r h1 h2 h3
  · obtain ⟨x, y, rfl⟩ := len2 h1; obtain ⟨x', y', rfl⟩ := len2 h2; obtain ⟨a, b, rfl⟩ := len2 h3; simp [finR, smallR, plusR]; omega
  · obtain ⟨x, y, z, rfl⟩ := len3 h1; obtain ⟨x', y', z', rfl⟩ := len3 h2; obtain ⟨a, b, c, rfl⟩ := len3 h3; simp [finR, smallR, plusR]; omega
  · obtain ⟨x, y, z, rfl⟩ := len3 h1; obtain ⟨x', y', z', rfl⟩ := len3 h2; obtain ⟨a, b, c, rfl⟩ := len3 h3; simp [finR, smallR, plusR]; omega
  · obtain ⟨x, y, rfl⟩ := len2 h1; obtain ⟨x', y', rfl⟩ := len2 h2; obtain ⟨a, b, rfl⟩ := len2 h3; simp [finR, smallR, plusR]; omega
  · obtain ⟨x, y, z, rfl⟩ := len3 h1; obtain ⟨x', y', z', rfl⟩ := len3 h2; obtain ⟨a, b, c, rfl⟩ := len3 h3; simp [finR, smallR, plusR]; omega
  · obtain ⟨x, y, z, rfl⟩ := len3 h1; obtain ⟨x', y', z', rfl⟩ := len3 h2; obtain ⟨a, b, c, rfl⟩ := len3 h3; simp [finR, smallR, plusR]; omega
def finL (vs a b : List Int) : Bool := (((worthsR vs a).zip (worthsR vs b)).filter fun p => decide (p.1 < p.2)).isEmpty
theorem filter_none {α : Type} (p : α → Bool) : ∀ l : List α, (l.filter p).isEmpty = l.all fun x => !p x
  | [] => rfl
  | x :: l => by
    rw [List.filter_cons, List.all_cons]
    by_cases h : p x = true
    · rw [if_pos h, h]; rfl
    · rw [if_neg h, filter_none p l, Bool.eq_false_iff.mpr h]; rfl
theorem fin_law : ∀ vs ∈ chains, ∀ a b : List Int, a.length = vs.length → b.length = vs.length → finL vs a b = finR vs a b := by
  intro vs hv a b ha hb
  unfold finL finR
  rw [filter_none, small_worths_eq vs hv a ha, small_worths_eq vs hv b hb]
  congr 1
  funext p
  by_cases h : p.2 ≤ p.1
  · rw [decide_eq_true h, decide_eq_false (by omega)]; rfl
  · rw [decide_eq_false h, decide_eq_true (by omega)]; rfl
theorem nonneg_plus {a b : List Int} (hl : (a.length = 2 ∨ a.length = 3) ∧ b.length = a.length) (ha : nonneg a = true) (hb : nonneg b = true) : nonneg (plusR a b) = true := by
  obtain ⟨h | h, hl⟩ := hl
  · obtain ⟨x, y, rfl⟩ := len2 h; obtain ⟨x', y', rfl⟩ := len2 hl; simp [nonneg, plusR] at *; omega
  · obtain ⟨x, y, z, rfl⟩ := len3 h; obtain ⟨x', y', z', rfl⟩ := len3 hl; simp [nonneg, plusR] at *; omega
theorem nonneg_less {a b : List Int} (hl : (a.length = 2 ∨ a.length = 3) ∧ b.length = a.length) (h : okR a b = true) : nonneg (lessR a b) = true := by
  obtain ⟨h2 | h2, hl⟩ := hl
  · obtain ⟨x, y, rfl⟩ := len2 h2; obtain ⟨x', y', rfl⟩ := len2 hl; simp [nonneg, lessR, okR, aboveR] at *; omega
  · obtain ⟨x, y, z, rfl⟩ := len3 h2; obtain ⟨x', y', z', rfl⟩ := len3 hl; simp [nonneg, lessR, okR, aboveR] at *; omega
theorem ok_above {W r : List Int} (h : okR W r = true) : aboveR W r = true := (Bool.and_eq_true_iff.mp h).2
/-! ### all rows worth an amount -/
theorem mem_rowsF {vs W r : List Int} {a : Int} : r ∈ rowsR vs W a ↔ ∃ q ∈ foundR vs W a, q.2 = 0 ∧ q.1 = r := by
  unfold rowsR
  rw [mem_sortR, List.mem_map]
  constructor
  · rintro ⟨q, hq, rfl⟩
    rw [List.mem_filter, decide_eq_true_eq] at hq
    exact ⟨q, hq.1, hq.2, rfl⟩
  · rintro ⟨q, h1, h2, rfl⟩
    exact ⟨q, by rw [List.mem_filter, decide_eq_true_eq]; exact ⟨h1, h2⟩, rfl⟩
theorem mem_rows3 {v0 v1 v2 w0 w1 w2 a : Int} (h0 : 0 ≤ v0) (h1 : 0 ≤ v1) (h2 : 0 ≤ v2) {r : List Int} : r ∈ rowsR [v0, v1, v2] [w0, w1, w2] a ↔ ∃ x y z, r = [x, y, z] ∧ 0 ≤ x ∧ 0 ≤ y ∧ 0 ≤ z ∧ x ≤ w0 ∧ y ≤ w1 ∧ z ≤ w2 ∧ v0 * x + (v1 * y + v2 * z) = a := by
  rw [mem_rowsF]
  unfold foundR
  constructor
  · rintro ⟨q, hq, h3, h4⟩
    obtain ⟨p, hp, s, hs, hb, _, rfl⟩ := mem_fold.mp hq
    rw [List.mem_singleton] at hp
    subst hp
    obtain ⟨x, y, z, rfl⟩ := len3 (show s.length = 3 from hs)
    obtain ⟨vm0, e0, b0, c0⟩ := hb 0 x rfl
    obtain ⟨vm1, e1, b1, c1⟩ := hb 1 y rfl
    obtain ⟨vm2, e2, b2, c2⟩ := hb 2 z rfl
    cases e0; cases e1; cases e2
    refine ⟨x, y, z, h4.symm, b0, b1, b2, c0, c1, c2, ?_⟩
    simp at h3
    rw [Int.mul_comm v0, Int.mul_comm v1, Int.mul_comm v2]
    omega
  · rintro ⟨x, y, z, rfl, b0, b1, b2, c0, c1, c2, h⟩
    have p0 := Int.mul_nonneg b0 h0
    have p1 := Int.mul_nonneg b1 h1
    have p2 := Int.mul_nonneg b2 h2
    rw [Int.mul_comm v0, Int.mul_comm v1, Int.mul_comm v2] at h
    refine ⟨([x, y, z], 0), mem_fold.mpr ⟨([], a), List.mem_singleton.mpr rfl, [x, y, z], rfl, ?_, ?_, ?_⟩, rfl, rfl⟩
    · rintro (_ | _ | _ | i) u e
      · cases e; exact ⟨_, rfl, b0, c0⟩
      · cases e; exact ⟨_, rfl, b1, c1⟩
      · cases e; exact ⟨_, rfl, b2, c2⟩
      · simp at e
    · intro k hk
      rcases k with _ | _ | _ | _ | k
      · exact .inr rfl
      · left; simp; omega
      · left; simp; omega
      · left; simp; omega
      · simp at hk
    · simp; omega
theorem mem_rows2 {v0 v1 w0 w1 a : Int} (h0 : 0 ≤ v0) (h1 : 0 ≤ v1) {r : List Int} : r ∈ rowsR [v0, v1] [w0, w1] a ↔ ∃ x y, r = [x, y] ∧ 0 ≤ x ∧ 0 ≤ y ∧ x ≤ w0 ∧ y ≤ w1 ∧ v0 * x + v1 * y = a := by
  rw [mem_rowsF]
  unfold foundR
  constructor
  · rintro ⟨q, hq, h3, h4⟩
    obtain ⟨p, hp, s, hs, hb, _, rfl⟩ := mem_fold.mp hq
    rw [List.mem_singleton] at hp
    subst hp
    obtain ⟨x, y, rfl⟩ := len2 (show s.length = 2 from hs)
    obtain ⟨vm0, e0, b0, c0⟩ := hb 0 x rfl
    obtain ⟨vm1, e1, b1, c1⟩ := hb 1 y rfl
    cases e0; cases e1
    refine ⟨x, y, h4.symm, b0, b1, c0, c1, ?_⟩
    simp at h3
    rw [Int.mul_comm v0, Int.mul_comm v1]
    omega
  · rintro ⟨x, y, rfl, b0, b1, c0, c1, h⟩
    have p0 := Int.mul_nonneg b0 h0
    have p1 := Int.mul_nonneg b1 h1
    rw [Int.mul_comm v0, Int.mul_comm v1] at h
    refine ⟨([x, y], 0), mem_fold.mpr ⟨([], a), List.mem_singleton.mpr rfl, [x, y], rfl, ?_, ?_, ?_⟩, rfl, rfl⟩
    · rintro (_ | _ | i) u e
      · cases e; exact ⟨_, rfl, b0, c0⟩
      · cases e; exact ⟨_, rfl, b1, c1⟩
      · simp at e
    · intro k hk
      rcases k with _ | _ | _ | k
      · exact .inr rfl
      · left; simp; omega
      · left; simp; omega
      · simp at hk
    · simp; omega
theorem mem_rows : ∀ vs ∈ chains, ∀ (W r : List Int) (a : Int), W.length = vs.length → (r ∈ rowsR vs W a ↔ r.length = vs.length ∧ okR W r = true ∧ worthR vs r = a) := by
  have two : ∀ {v0 v1 : Int}, 0 ≤ v0 → 0 ≤ v1 → ∀ (W r : List Int) (a : Int), W.length = 2 → (r ∈ rowsR [v0, v1] W a ↔ r.length = 2 ∧ okR W r = true ∧ worthR [v0, v1] r = a) := by
    intro v0 v1 h0 h1 W r a hW
    obtain ⟨x, y, rfl⟩ := len2 hW
    rw [mem_rows2 h0 h1]
    constructor
    · rintro ⟨p, q, rfl, b0, b1, c0, c1, h⟩
      refine ⟨rfl, ?_, ?_⟩
      · simp [okR, nonneg, aboveR]; omega
      · simp [worthR]; omega
    · rintro ⟨hl, h2, h3⟩
      obtain ⟨p, q, rfl⟩ := len2 hl
      simp [okR, nonneg, aboveR] at h2
      simp [worthR] at h3
      exact ⟨p, q, rfl, by omega, by omega, by omega, by omega, by omega⟩
  have three : ∀ {v0 v1 v2 : Int}, 0 ≤ v0 → 0 ≤ v1 → 0 ≤ v2 → ∀ (W r : List Int) (a : Int), W.length = 3 → (r ∈ rowsR [v0, v1, v2] W a ↔ r.length = 3 ∧ okR W r = true ∧ worthR [v0, v1, v2] r = a) := by
    intro v0 v1 v2 h0 h1 h2 W r a hW
    obtain ⟨x, y, z, rfl⟩ := len3 hW
    rw [mem_rows3 h0 h1 h2]
    constructor
    · rintro ⟨p, q, t, rfl, b0, b1, b2, c0, c1, c2, h⟩
      refine ⟨rfl, ?_, ?_⟩
      · simp [okR, nonneg, aboveR]; omega
      · simp [worthR]; omega
    · rintro ⟨hl, h4, h3⟩
      obtain ⟨p, q, t, rfl⟩ := len3 hl
      simp [okR, nonneg, aboveR] at h4
      simp [worthR] at h3
      exact ⟨p, q, t, rfl, by omega, by omega, by omega, by omega, by omega, by omega, by omega⟩
  exact by_chain (two (by decide) (by decide)) (three (by decide) (by decide) (by decide)) (three (by decide) (by decide) (by decide)) (two (by decide) (by decide)) (three (by decide) (by decide) (by decide)) (three (by decide) (by decide) (by decide))
end Dv
end
section
set_option Elab.async false
set_option linter.all false
set_option maxRecDepth 100000
set_option maxHeartbeats 4000000
/-! Q4 (k98): the law's own changes; a sale's change is right. -/
namespace Dv
open PySem L2
section
variable {C : Ctx} {G G1 G2 : GEnv} {e : Exp} {es : Exps} {x : RV} {xs : List RV} {f : Str}
theorem evs_nil : evEs C .nil G = R.ok [] G := by simp [evEs]
theorem evs_cons (h1 : evE C e G = R.ok x G1) (h2 : evEs C es G1 = R.ok xs G2) : evEs C (.cons e es) G = R.ok (x :: xs) G2 := by
  have q : evEs C (.cons e es) G = (evE C e G).bind fun x G1 => (evEs C es G1).bind fun xs G2 => R.ok (x :: xs) G2 := rfl
  rw [q, h1, bind_ok, h2, bind_ok]
theorem ev_callR (h1 : evEs C es G = R.ok xs G1) (h2 : callE C f xs G1 = R.ok x G2) : evE C (.call f es) G = R.ok x G2 := by
  have q : evE C (.call f es) G = (evEs C es G).bind fun rvs G1 => callE C f rvs G1 := rfl
  rw [q, h1, bind_ok, h2]
theorem ev_lnil : evE C (.lst .nil) G = R.ok (.val (.mls [])) G := by simp [evSs, evS, evE, evEs, evT, evI, evO, bind_ok, lft_some, deref_val, deref_slot, getS_0, getS_s, derefs, takes, take, D.fz, own_val, own, retV, callE, passA, lentS, backA, asgG, asgsG, protT, protTs, List.tail_cons, lenOk]
theorem evt_or_t {a b : Tst} (h1 : evT C a G = R.ok true G1) : evT C (.or a b) G = R.ok true G1 := by
  have q : evT C (.or a b) G = (evT C a G).bind fun k G1 => if k then R.ok true G1 else evT C b G1 := rfl
  rw [q, h1, bind_ok]
  rfl
theorem evt_or_f {a b : Tst} {k : Bool} (h1 : evT C a G = R.ok false G1) (h2 : evT C b G1 = R.ok k G2) : evT C (.or a b) G = R.ok k G2 := by
  have q : evT C (.or a b) G = (evT C a G).bind fun k G1 => if k then R.ok true G1 else evT C b G1 := rfl
  rw [q, h1, bind_ok]
  exact h2
end
/-! ### lists of rows -/
theorem pys_rowsT (rows : List (List Int)) : D.pys (rows.map rowD) = some (rows.map fun r => .tuple (r.map PyData.int)) := pys_rows rows
theorem canLay_rows : ∀ rows : List (List Int), PyData.canLayAll0 (rows.map fun r => .tuple (r.map PyData.int)) = true
  | [] => rfl
  | r :: rows => by
    show (PyData.canLayAll0 (r.map PyData.int) && PyData.canLayAll0 (rows.map fun r => .tuple (r.map PyData.int))) = true
    rw [PyProof.Rows.canLayAll_ints, canLay_rows rows]
    rfl
theorem depth_rows : ∀ rows : List (List Int), PyData.depthAll (rows.map fun r => .tuple (r.map PyData.int)) ≤ 1
  | [] => Nat.zero_le _
  | r :: rows => by
    have h1 : PyData.depthAll (r.map PyData.int) = 0 := PySem.W.depth_ints r
    have h2 := depth_rows rows
    show max (PyData.depthAll (r.map PyData.int) + 1) (PyData.depthAll (rows.map fun r => .tuple (r.map PyData.int))) ≤ 1
    rw [h1]
    omega
theorem shaped_rows (rows : List (List Int)) : SeqAt.shaped (.list (rows.map fun r => .tuple (r.map PyData.int))) = true := by
  have h1 := canLay_rows rows
  have h2 := depth_rows rows
  show (PyData.canLayAll0 (rows.map fun r => .tuple (r.map PyData.int)) && decide (PyData.depthAll (rows.map fun r => .tuple (r.map PyData.int)) + 1 ≤ 64)) = true
  rw [h1, decide_eq_true (by omega)]
  rfl
theorem eqD_rows_nil (rows : List (List Int)) : eqD (.lst (rows.map rowD)) (.mls []) = some rows.isEmpty := by
  have e1 : D.py (.lst (rows.map rowD)) = some (.list (rows.map fun r => .tuple (r.map PyData.int))) := by
    show (D.pys (rows.map rowD)).map PyData.list = _
    rw [pys_rows]
    rfl
  rw [eqD_py e1 (show D.py (.mls []) = some (.list []) from rfl) (shaped_rows rows) rfl]
  cases rows <;> rfl
theorem eqD_ones_nil {α : Type} (l : List α) : eqD (.mls (l.map fun _ => .int 1)) (.mls []) = some l.isEmpty := by
  have e0 : ∀ l : List α, D.pys (l.map fun _ => D.int 1) = some ((l.map fun _ => (1 : Int)).map PyData.int) := by
    intro l
    have := py_ints (l.map fun _ => (1 : Int))
    rw [List.map_map] at this
    rw [← this]
    rfl
  have e1 : D.py (.mls (l.map fun _ => .int 1)) = some (.list ((l.map fun _ => (1 : Int)).map PyData.int)) := by
    show (D.pys _).map PyData.list = _
    rw [e0]
    rfl
  have s1 : SeqAt.shaped (.list ((l.map fun _ => (1 : Int)).map PyData.int)) = true := by
    have h1 : PyData.canLayAll0 ((l.map fun _ => (1 : Int)).map .int) = true := PyProof.Rows.canLayAll_ints _
    have h2 : PyData.depthAll ((l.map fun _ => (1 : Int)).map .int) = 0 := PySem.W.depth_ints _
    simp only [SeqAt.shaped, PyData.canLay0, PyData.depth, h1, h2]
    rfl
  rw [eqD_py e1 (show D.py (.mls []) = some (.list []) from rfl) s1 rfl]
  cases l <;> rfl
theorem inD_rows (g : List Int) (rows : List (List Int)) : inD (rowD g) (rows.map rowD) = some (decide (g ∈ rows)) := by
  have e : inD (rowD g) (rows.map rowD) = (match (rowD g).py, D.pys (rows.map rowD) with
    | some d, some ds => if SeqAt.shaped d && SeqAt.shaped (.list ds) then some (ds.any fun z => PyData.eqv z d) else none
    | _, _ => none) := rfl
  rw [e, py_row, pys_rows]
  show (if (SeqAt.shaped (.tuple (g.map PyData.int)) && SeqAt.shaped (.list (rows.map fun r => .tuple (r.map PyData.int)))) = true then some ((rows.map fun r => PyData.tuple (r.map PyData.int)).any fun z => PyData.eqv z (.tuple (g.map PyData.int))) else none) = _
  rw [shaped_row, shaped_rows]
  show some _ = _
  congr 1
  rw [List.any_map]
  have : ((fun z => PyData.eqv z (.tuple (g.map PyData.int))) ∘ fun r : List Int => PyData.tuple (r.map PyData.int)) = fun r => decide (r = g) := by
    funext r
    show PyData.eqvAll (r.map PyData.int) (g.map PyData.int) = _
    rw [eqv_ints]
  rw [this]
  clear e this
  induction rows with
  | nil => simp
  | cons r rows ih =>
    rw [List.any_cons, ih]
    by_cases h : r = g
    · subst h; simp
    · have h' : ¬ g = r := fun z => h z.symm
      simp [h, h']
/-! ### the law's own -/
theorem e_due {n : Nat} : ∀ vs ∈ chains, ∀ (paid : List Int) (p : Int), paid.length = vs.length → evF L98.pg (n + 2) "_law_due" [coin vs, saleD p paid] = .ret (.int (dueR vs p paid)) [coin vs, saleD p paid] := by
  intro vs hv paid p hp
  have h1 := e_lworth (n := n) vs hv paid hp
  have ix0 : ixD (saleD p paid) (.int 0) = some (.int p) := rfl
  have ix1 : ixD (saleD p paid) (.int 1) = some (rowD paid) := rfl
  have hsub : binD .sub (.int (worthR vs paid)) (.int p) = some (.int (dueR vs p paid)) := rfl
  have key : ∀ C : Ctx, C.cal "_law_worth" [coin vs, rowD paid] = .ret (.int (worthR vs paid)) [coin vs, rowD paid] → C.md "_law_worth" = [false, false] → evSs C L98.b__law_due [some (coin vs), some (saleD p paid)] = .ok (.rt (.int (dueR vs p paid))) [some (coin vs), some (saleD p paid)] := by
    intro C c1 m1
    simp [L98.b__law_due, evSs, evS, evE, evEs, evT, evI, evO, bind_ok, lft_some, deref_val, deref_slot, getS_0, getS_s, derefs, takes, take, D.fz, own_val, own, retV, callE, passA, lentS, backA, asgG, asgsG, protT, protTs, List.tail_cons, c1, m1, ix0, ix1, hsub]
  exact ev_run (fd := ⟨2, 2, [false, false], L98.b__law_due⟩) (by kernel_rfl) rfl (by decide) (key _ h1 rfl) rfl
/-- all within bounds -/
def inBox (B : Int) (r : List Int) : Prop := ∀ x ∈ r, 0 ≤ x ∧ x < B
theorem inBox.nonneg {B : Int} {r : List Int} (h : inBox B r) : Dv.nonneg r = true := by
  unfold Dv.nonneg
  rw [List.all_eq_true]
  intro x hx
  exact decide_eq_true (h x hx).1
abbrev rowsD (rows : List (List Int)) : List D := rows.map rowD
theorem e_rows {n : Nat} : ∀ vs ∈ chains, ∀ (W : List Int) (a : Int), W.length = vs.length → inBox 100 W → evF L98.pg (n + 1) "_law_rows_worth" [coin vs, rowD W, .int a] = .ret (.mls (rowsD (rowsR vs W a))) [coin vs, rowD W, .int a] := by
  intro vs hv W a hW hB
  have hl := chain_len vs hv
  have hz : (vs.zip W).length = vs.length := by rw [List.length_zip, hW, Nat.min_self]
  refine ev_rows (M := 100) (PR := L98.pg) (n := n) rfl ?_ (fun v h => ?_) hB ?_ (by decide) (by decide) ?_
  · intro h
    rw [h] at hz
    have : vs.length = 0 := hz.symm
    omega
  · have := chain_small vs hv v h
    omega
  · rw [hz]
    rcases hl with h | h <;> rw [h] <;> decide
  · rw [hz]
    have : sizeLine = 16777216 := rfl
    omega
theorem len_rows {vs W : List Int} {a : Int} (hB : inBox 100 W) (h3 : (vs.zip W).length ≤ 3) : (rowsR vs W a).length ≤ 1000000 := by
  unfold rowsR sortR
  rw [List.length_mergeSort, List.length_map]
  refine Nat.le_trans (List.length_filter_le _ _) ?_
  refine Nat.le_trans (len_foldR (M := 100) fun x hx => (hB _ (List.of_mem_zip hx).2).2) ?_
  rw [List.length_singleton, Nat.one_mul]
  exact Nat.le_trans (Nat.pow_le_pow_right (by decide) h3) (by decide)
theorem e_changes {n : Nat} : ∀ vs ∈ chains, ∀ (t paid : List Int) (p : Int), t.length = vs.length → paid.length = vs.length → inBox 100 (plusR t paid) →
    evF L98.pg (n + 3) "_law_changes" [coin vs, rowD t, saleD p paid] = .ret (.mls (rowsD (rowsR vs (plusR t paid) (dueR vs p paid)))) [coin vs, rowD t, saleD p paid] := by
  intro vs hv t paid p ht hp hB
  have hl : t.length = 2 ∨ t.length = 3 := by rw [ht]; exact chain_len vs hv
  have hpl : paid.length = t.length := by rw [hp, ht]
  have h1 := e_lplus (n := n + 1) hl hpl
  have h2 := e_due (n := n) vs hv paid p hp
  have h3 := e_rows (n := n + 1) vs hv (plusR t paid) (dueR vs p paid) (by rw [len_plus hpl, ht]) hB
  have ix1 : ixD (saleD p paid) (.int 1) = some (rowD paid) := rfl
  generalize hr : rowsD (rowsR vs (plusR t paid) (dueR vs p paid)) = rs at *
  have key : ∀ C : Ctx, C.cal "_law_plus" [rowD t, rowD paid] = .ret (rowD (plusR t paid)) [rowD t, rowD paid] → C.cal "_law_due" [coin vs, saleD p paid] = .ret (.int (dueR vs p paid)) [coin vs, saleD p paid] → C.cal "_law_rows_worth" [coin vs, rowD (plusR t paid), .int (dueR vs p paid)] = .ret (.mls rs) [coin vs, rowD (plusR t paid), .int (dueR vs p paid)] →
      C.md "_law_plus" = [false, false] → C.md "_law_due" = [false, false] → C.md "_law_rows_worth" = [false, false, false] →
      evSs C L98.b__law_changes [some (coin vs), some (rowD t), some (saleD p paid)] = .ok (.rt (.mls rs)) [some (coin vs), some (rowD t), some (saleD p paid)] := by
    intro C c1 c2 c3 m1 m2 m3
    simp [L98.b__law_changes, evSs, evS, evE, evEs, evT, evI, evO, bind_ok, lft_some, deref_val, deref_slot, getS_0, getS_s, derefs, takes, take, D.fz, own_val, own, retV, callE, passA, lentS, backA, asgG, asgsG, protT, protTs, List.tail_cons, c1, c2, c3, m1, m2, m3, ix1]
  exact ev_run (fd := ⟨3, 3, [false, false, false], L98.b__law_changes⟩) (by kernel_rfl) rfl (by decide) (key _ h1 h2 h3 rfl rfl rfl) rfl
theorem len_worths {vs r : List Int} : (worthsR vs r).length = r.length := by
  unfold worthsR
  rw [List.length_map, List.length_range]
theorem e_lfiner {n : Nat} : ∀ vs ∈ chains, ∀ a b : List Int, a.length = vs.length → b.length = vs.length → evF L98.pg (n + 4) "_law_is_finer" [coin vs, rowD a, rowD b] = .ret (.bl (finR vs a b)) [coin vs, rowD a, rowD b] := by
  intro vs hv a b ha hb
  rw [← fin_law vs hv a b ha hb]
  have h1 := e_worths (n := n) vs hv a ha
  have h2 := e_worths (n := n) vs hv b hb
  have hl := chain_len vs hv
  have key : ∀ C : Ctx, C.cal "_law_worths" [coin vs, rowD a] = .ret (rowD (worthsR vs a)) [coin vs, rowD a] → C.cal "_law_worths" [coin vs, rowD b] = .ret (rowD (worthsR vs b)) [coin vs, rowD b] → C.md "_law_worths" = [false, false] →
      evSs C L98.b__law_is_finer [some (coin vs), some (rowD a), some (rowD b), none, none] = .ok (.rt (.bl (finL vs a b))) [some (coin vs), some (rowD a), some (rowD b), none, none] := by
    intro C c1 c2 m1
    have hz : zipX (rowD (worthsR vs a)) (rowD (worthsR vs b)) = some (.tup (((worthsR vs a).zip (worthsR vs b)).map fun p => .tup [.int p.1, .int p.2])) := by rw [← zip_rows]; rfl
    have hi : evI C (.zip (.cons (.call "_law_worths" (.cons (.var 0) (.cons (.var 1) .nil))) (.cons (.call "_law_worths" (.cons (.var 0) (.cons (.var 2) .nil))) .nil))) [some (coin vs), some (rowD a), some (rowD b), none, none] = .ok (((worthsR vs a).zip (worthsR vs b)).map fun p => .tup [.int p.1, .int p.2]) [some (coin vs), some (rowD a), some (rowD b), none, none] := by
      simp [evSs, evS, evE, evEs, evT, evI, evO, bind_ok, lft_some, deref_val, deref_slot, getS_0, getS_s, derefs, takes, take, D.fz, own_val, own, retV, callE, passA, lentS, backA, asgG, asgsG, protT, protTs, List.tail_cons, c1, c2, m1, on2, hz]
    refine ev_ret (ev_cmp (ev_comp1 (p := fun p => decide (p.1 < p.2)) (f := fun _ => .int 1) hi (fun x hx => ?_) ?_) ev_lnil rfl rfl (eqD_ones_nil _)) rfl
    · by_cases h : x.1 < x.2
      · simp [compB, evSs, evS, evE, evEs, evT, evI, evO, bind_ok, lft_some, deref_val, deref_slot, getS_0, getS_s, derefs, takes, take, D.fz, own_val, own, retV, callE, passA, lentS, backA, asgG, asgsG, protT, protTs, List.tail_cons, cmpD_lt, h, wipeG]
      · simp [compB, evSs, evS, evE, evEs, evT, evI, evO, bind_ok, lft_some, deref_val, deref_slot, getS_0, getS_s, derefs, takes, take, D.fz, own_val, own, retV, callE, passA, lentS, backA, asgG, asgsG, protT, protTs, List.tail_cons, cmpD_lt, h, wipeG]
    · rw [List.length_zip, len_worths, len_worths, ha, hb, Nat.min_self]
      have : sizeLine = 16777216 := rfl
      omega
  have hk := by with_reducible exact key ⟨evF L98.pg (n + 3), modes L98.pg, fun i => [false, false, false].getD i false, 3⟩ h1 h2 md_law_worths
  exact ev_run (fd := gd_law_is_finer) lk_law_is_finer rfl (by decide) hk rfl
end Dv
end
section
set_option Elab.async false
set_option linter.all false
set_option maxRecDepth 100000
set_option maxHeartbeats 4000000
/-! Q5 (k98): a sale's change is right. -/
namespace Dv
open PySem L2
theorem alk_bls : ∀ l : List Bool, alks (l.map D.bl) = true
  | [] => rfl
  | _ :: l => by
    show (true && alks (l.map D.bl)) = true
    rw [alk_bls l]; rfl
theorem szDs_bls : ∀ l : List Bool, szDs (l.map D.bl) = l.length
  | [] => rfl
  | _ :: l => by
    show 1 + szDs (l.map D.bl) = _
    rw [szDs_bls l, List.length_cons]; omega
theorem ev_ret' {C : Ctx} {G G1 G2 : GEnv} {e : Exp} {x : RV} {d : D} {rs : Stas} (h : evE C e G = .ok x G1) (h2 : retV C x G1 = some (d, G2)) : evSs C (.cons (.ret e) rs) G = .ok (.rt d) G2 := ev_ret h h2
theorem e_alike {n : Nat} {d : D} (ha : alk d = true) (hs : szD d ≤ sizeLine) : evF L98.pg (n + 1) "_law_alike" [d, d] = .ret (.bl true) [d, d] := ev_alike lk_law_alike ha hs
theorem cr_key {C : Ctx} {vs t paid W g left : List Int} {p due : Int} {rs : List (List Int)} {s : List Int × Int} (hp : C.pr = (fun i => [false, false, false].getD i false)) (hnp : C.np = 3)
    (c1 : C.cal "_law_changes" [coin vs, rowD t, saleD p paid] = .ret (.mls (rowsD rs)) [coin vs, rowD t, saleD p paid]) (c2 : C.cal "_law_plus" [rowD t, rowD paid] = .ret (rowD W) [rowD t, rowD paid])
    (c3 : C.cal "_law_worth" [coin vs, rowD paid] = .ret (.int (worthR vs paid)) [coin vs, rowD paid]) (hdue : worthR vs paid - p = due) (c4 : C.cal "finest_change" [coin vs, rowD W, .int due] = .ret (wayD s) [coin vs, rowD W, .int due])
    (m1 : C.md "_law_changes" = [false, false, false]) (m2 : C.md "_law_plus" = [false, false]) (m3 : C.md "_law_worth" = [false, false]) (m4 : C.md "finest_change" = [false, false, false]) (m5 : C.md "_law_less" = [false, false]) (m6 : C.md "_law_is_finer" = [false, false, false]) (m7 : C.md "is_finest" = [false, false, false, false]) (m8 : C.md "_law_alike" = [false, false])
    (hrl : rs.length ≤ 1000000) (hno : rs = [] → s.2 ≠ 0) (hyes : rs ≠ [] → s.2 = 0 ∧ s.1 ∈ rs ∧ C.cal "_law_less" [rowD W, rowD s.1] = .ret (rowD left) [rowD W, rowD s.1] ∧
      ∀ r ∈ rs, ∃ l, C.cal "_law_less" [rowD W, rowD r] = .ret (rowD l) [rowD W, rowD r] ∧ C.cal "_law_is_finer" [coin vs, rowD left, rowD l] = .ret (.bl true) [coin vs, rowD left, rowD l] ∧ C.cal "is_finest" [coin vs, rowD W, .int due, rowD r] = .ret (.bl (isWay r s)) [coin vs, rowD W, .int due, rowD r])
    (c8 : ∀ d, alk d = true → szD d ≤ sizeLine → C.cal "_law_alike" [d, d] = .ret (.bl true) [d, d]) :
    ∃ G, evSs C L98.b__law_change_right [some (coin vs), some (rowD t), some (saleD p paid), none, none, none, none, none, none] = .ok (.rt (.bl true)) (some (coin vs) :: some (rowD t) :: some (saleD p paid) :: G) := by
  have hsz : sizeLine = 16777216 := rfl
  have ix0 : ixD (saleD p paid) (.int 0) = some (.int p) := rfl
  have ix1 : ixD (saleD p paid) (.int 1) = some (rowD paid) := rfl
  have hsub : binD .sub (.int (worthR vs paid)) (.int p) = some (.int due) := by rw [← hdue]; rfl
  have hfz : D.fzs (rowsD rs) = rowsD rs := fzs_map (fun _ => rfl) _
  rw [L98.b__law_change_right]
  rw [seq_nx (G1 := [some (coin vs), some (rowD t), some (saleD p paid), some (.lst (rowsD rs)), some (rowD W), none, none, none, none]) (by
    simp [evSs, evS, evE, evEs, evT, evI, evO, bind_ok, lft_some, deref_val, deref_slot, getS_0, getS_s, derefs, takes, take, D.fz, own_val, own, retV, callE, passA, lentS, backA, asgG, asgsG, protT, protTs, List.tail_cons, c1, c2, m1, m2, ix1, hfz, lenOk, hsz, hp])]
  rw [seq_nx (G1 := [some (coin vs), some (rowD t), some (saleD p paid), some (.lst (rowsD rs)), some (rowD W), some (.int due), none, none, none]) (by
    simp [evSs, evS, evE, evEs, evT, evI, evO, bind_ok, lft_some, deref_val, deref_slot, getS_0, getS_s, derefs, takes, take, D.fz, own_val, own, retV, callE, passA, lentS, backA, asgG, asgsG, protT, protTs, List.tail_cons, c3, m3, ix0, ix1, hsub, hp])]
  rw [seq_nx (G1 := [some (coin vs), some (rowD t), some (saleD p paid), some (.lst (rowsD rs)), some (rowD W), some (.int due), some (wayD s), none, none]) (by
    simp [evSs, evS, evE, evEs, evT, evI, evO, bind_ok, lft_some, deref_val, deref_slot, getS_0, getS_s, derefs, takes, take, D.fz, own_val, own, retV, callE, passA, lentS, backA, asgG, asgsG, protT, protTs, List.tail_cons, c4, m4, hp])]
  have e3 : ∀ G : GEnv, getS G 3 = some (.lst (rowsD rs)) → evT C (.cmp .eq (.var 3) (.lst .nil)) G = .ok rs.isEmpty G := fun G hG =>
    ev_tcmp (show evE C (.var 3) G = .ok (.slot 3) G by simp [evE, hG]) ev_lnil (by rw [deref_slot]; exact hG) rfl (eqD_rows_nil rs)
  have e3' : ∀ G : GEnv, getS G 3 = some (.lst (rowsD rs)) → evE C (.cmp .eq (.var 3) (.lst .nil)) G = .ok (.val (.bl rs.isEmpty)) G := fun G hG =>
    ev_cmp (show evE C (.var 3) G = .ok (.slot 3) G by simp [evE, hG]) ev_lnil (by rw [deref_slot]; exact hG) rfl (eqD_rows_nil rs)
  by_cases hrs : rs = []
  · have hw : wayD s = .non := if_neg (hno hrs)
    rw [hw]
    have ht : rs.isEmpty = true := by rw [hrs]; rfl
    rw [ht] at e3 e3'
    refine ⟨[some (.lst (rowsD rs)), some (rowD W), some (.int due), some .non, none, none], ?_⟩
    have eif : evS C (.ife (.or (.cmp .eq (.var 3) (.lst .nil)) (.cmp .is_ (.var 6) .non)) (.cons (.ret (.and (.cmp .eq (.var 3) (.lst .nil)) (.cmp .is_ (.var 6) .non))) .nil) .nil) [some (coin vs), some (rowD t), some (saleD p paid), some (.lst (rowsD rs)), some (rowD W), some (.int due), some .non, none, none] = .ok (.rt (.bl true)) [some (coin vs), some (rowD t), some (saleD p paid), some (.lst (rowsD rs)), some (rowD W), some (.int due), some .non, none, none] := by
      rw [ife_t (evt_or_t (e3 _ rfl))]
      refine ev_ret (x := .val (.bl true)) ?_ rfl
      have q : ∀ (a b : Exp) (G : GEnv), evE C (.and a b) G = (evE C a G).bind fun x G1 => match (deref x G1).bind truthD with
        | some true => evE C b G1
        | some false => .ok x G1
        | none => .no := fun _ _ _ => rfl
      rw [q, e3' _ rfl]
      simp [bind_ok, deref_val, truthD, evE, getS_s, getS_0, deref_slot, cmpD, D.isNon, lft_some]
    have q : ∀ (st : Sta) (r : Stas) (G G1 : GEnv) (d : D), evS C st G = .ok (.rt d) G1 → evSs C (.cons st r) G = .ok (.rt d) G1 := fun st r G G1 d h => by
      show (evS C st G).bind _ = _
      rw [h]; rfl
    exact q _ _ _ _ _ eif
  · obtain ⟨hs0, hmem, c5, hall⟩ := hyes hrs
    have hw : wayD s = rowD s.1 := if_pos hs0
    rw [hw]
    have hf : rs.isEmpty = false := by cases rs with | nil => exact absurd rfl hrs | cons _ _ => rfl
    rw [hf] at e3 e3'
    rw [seq_nx (G1 := [some (coin vs), some (rowD t), some (saleD p paid), some (.lst (rowsD rs)), some (rowD W), some (.int due), some (rowD s.1), none, none]) (by
      rw [ife_f (evt_or_f (e3 _ rfl) (show evT C (.cmp .is_ (.var 6) .non) [some (coin vs), some (rowD t), some (saleD p paid), some (.lst (rowsD rs)), some (rowD W), some (.int due), some (rowD s.1), none, none] = .ok false [some (coin vs), some (rowD t), some (saleD p paid), some (.lst (rowsD rs)), some (rowD W), some (.int due), some (rowD s.1), none, none] by simp [evSs, evS, evE, evEs, evT, evI, evO, bind_ok, lft_some, deref_val, deref_slot, getS_0, getS_s, derefs, takes, take, D.fz, own_val, own, retV, callE, passA, lentS, backA, asgG, asgsG, protT, protTs, List.tail_cons, cmpD, D.isNon]))]
      simp [evSs])]
    rw [seq_nx (G1 := [some (coin vs), some (rowD t), some (saleD p paid), some (.lst (rowsD rs)), some (rowD W), some (.int due), some (rowD s.1), some (rowD left), none]) (by
      simp [evSs, evS, evE, evEs, evT, evI, evO, bind_ok, lft_some, deref_val, deref_slot, getS_0, getS_s, derefs, takes, take, D.fz, own_val, own, retV, callE, passA, lentS, backA, asgG, asgsG, protT, protTs, List.tail_cons, c5, m5, hp])]
    have hi : evI C (.seq (.var 3)) [some (coin vs), some (rowD t), some (saleD p paid), some (.lst (rowsD rs)), some (rowD W), some (.int due), some (rowD s.1), some (rowD left), none] = .ok (rs.map rowD) [some (coin vs), some (rowD t), some (saleD p paid), some (.lst (rowsD rs)), some (rowD W), some (.int due), some (rowD s.1), some (rowD left), none] := by
      simp [evSs, evS, evE, evEs, evT, evI, evO, bind_ok, lft_some, deref_val, deref_slot, getS_0, getS_s, derefs, takes, take, D.fz, own_val, own, retV, callE, passA, lentS, backA, asgG, asgsG, protT, protTs, List.tail_cons, seqOf]
    have cmp1 : evE C (.comp [8] (.name 8) (.seq (.var 3)) (.some (.not (.val (.call "_law_is_finer" (.cons (.var 0) (.cons (.var 7) (.cons (.call "_law_less" (.cons (.var 4) (.cons (.var 8) .nil))) .nil))))))) (.var 8)) [some (coin vs), some (rowD t), some (saleD p paid), some (.lst (rowsD rs)), some (rowD W), some (.int due), some (rowD s.1), some (rowD left), none] = .ok (.val (.mls ((rs.filter fun _ => false).map rowD))) [some (coin vs), some (rowD t), some (saleD p paid), some (.lst (rowsD rs)), some (rowD W), some (.int due), some (rowD s.1), some (rowD left), none] := by
      rw [ev_comp1 (p := fun _ => false) (f := rowD) hi (fun r hr => ?_) (by omega)]
      · rfl
      · obtain ⟨l, d1, d2, _⟩ := hall r hr
        simp [compB, evSs, evS, evE, evEs, evT, evI, evO, bind_ok, lft_some, deref_val, deref_slot, getS_0, getS_s, derefs, takes, take, D.fz, own_val, own, retV, callE, passA, lentS, backA, asgG, asgsG, protT, protTs, List.tail_cons, d1, d2, m5, m6, truthD, wipeG]
    have hfil : (rs.filter fun _ => false) = [] := by simp
    rw [hfil] at cmp1
    rw [seq_nx (G1 := [some (coin vs), some (rowD t), some (saleD p paid), some (.lst (rowsD rs)), some (rowD W), some (.int due), some (rowD s.1), some (rowD left), none]) (by
      rw [ife_f (evt_or_f (G1 := [some (coin vs), some (rowD t), some (saleD p paid), some (.lst (rowsD rs)), some (rowD W), some (.int due), some (rowD s.1), some (rowD left), none]) (G2 := [some (coin vs), some (rowD t), some (saleD p paid), some (.lst (rowsD rs)), some (rowD W), some (.int due), some (rowD s.1), some (rowD left), none]) ?hA ?hB)]
      · simp [evSs]
      case hA =>
        have hin := inD_rows s.1 rs
        rw [decide_eq_true hmem] at hin
        simp [evSs, evS, evE, evEs, evT, evI, evO, bind_ok, lft_some, deref_val, deref_slot, getS_0, getS_s, derefs, takes, take, D.fz, own_val, own, retV, callE, passA, lentS, backA, asgG, asgsG, protT, protTs, List.tail_cons, cmpD, hin]
      case hB =>
        exact ev_tcmp cmp1 ev_lnil rfl rfl (by simp [cmpD, eqD, D.py, D.pys, SeqAt.shaped, PyData.canLay0, PyData.canLayAll0, PyData.depth, PyData.depthAll, PyData.eqv, PyData.eqvAll]))]
    have hway : ∀ r, isWay r s = decide (r = s.1) := fun r => by unfold isWay; rw [decide_eq_true hs0]; rfl
    have cmp2 : evE C (.comp [8] (.name 8) (.seq (.var 3)) .none (.call "is_finest" (.cons (.var 0) (.cons (.var 4) (.cons (.var 5) (.cons (.var 8) .nil)))))) [some (coin vs), some (rowD t), some (saleD p paid), some (.lst (rowsD rs)), some (rowD W), some (.int due), some (rowD s.1), some (rowD left), none] = .ok (.val (.mls (rs.map fun r => .bl (decide (r = s.1))))) [some (coin vs), some (rowD t), some (saleD p paid), some (.lst (rowsD rs)), some (rowD W), some (.int due), some (rowD s.1), some (rowD left), none] := by
      rw [ev_comp0 (f := fun r => .bl (decide (r = s.1))) hi (fun r hr => ?_) (by omega)]
      · rfl
      · obtain ⟨l, _, _, d3⟩ := hall r hr
        rw [hway] at d3
        simp [compB, evSs, evS, evE, evEs, evT, evI, evO, bind_ok, lft_some, deref_val, deref_slot, getS_0, getS_s, derefs, takes, take, D.fz, own_val, own, retV, callE, passA, lentS, backA, asgG, asgsG, protT, protTs, List.tail_cons, d3, m7, wipeG]
    have cmp3 : evE C (.comp [8] (.name 8) (.seq (.var 3)) .none (.cmp .eq (.var 8) (.var 6))) [some (coin vs), some (rowD t), some (saleD p paid), some (.lst (rowsD rs)), some (rowD W), some (.int due), some (rowD s.1), some (rowD left), none] = .ok (.val (.mls (rs.map fun r => .bl (decide (r = s.1))))) [some (coin vs), some (rowD t), some (saleD p paid), some (.lst (rowsD rs)), some (rowD W), some (.int due), some (rowD s.1), some (rowD left), none] := by
      rw [ev_comp0 (f := fun r => .bl (decide (r = s.1))) hi (fun r hr => ?_) (by omega)]
      · rfl
      · have hq := eqD_row r s.1
        simp [compB, evSs, evS, evE, evEs, evT, evI, evO, bind_ok, lft_some, deref_val, deref_slot, getS_0, getS_s, derefs, takes, take, D.fz, own_val, own, retV, callE, passA, lentS, backA, asgG, asgsG, protT, protTs, List.tail_cons, cmpD_eq, hq, wipeG]
    have hmap : (rs.map fun r => D.bl (decide (r = s.1))) = (rs.map fun r => decide (r = s.1)).map D.bl := by rw [List.map_map]; rfl
    have hz2 : D.fzs (rs.map fun r => D.bl (decide (r = s.1))) = rs.map fun r => D.bl (decide (r = s.1)) := fzs_map (fun _ => rfl) _
    have hal := c8 (.lst (rs.map fun r => D.bl (decide (r = s.1)))) (by
      show alks _ = true
      rw [hmap]; exact alk_bls _) (by
      show 1 + szDs _ ≤ _
      rw [hmap, szDs_bls, List.length_map]
      omega)
    refine ⟨[some (.lst (rowsD rs)), some (rowD W), some (.int due), some (rowD s.1), some (rowD left), none], ?_⟩
    refine ev_ret (x := .val (.bl true)) (ev_callR (evs_cons cmp2 (evs_cons cmp3 evs_nil)) ?_) rfl
    simp [callE, passA, take, D.fz, hz2, m8, hal, lentS, backA]
end Dv
end
section
set_option Elab.async false
set_option linter.all false
set_option maxRecDepth 100000
set_option maxHeartbeats 4000000
/-! Q6 (k98): change_right, greedy, dealt. -/
namespace Dv
open PySem L2
/-- a sale that can be -/
structure SaleOk (vs : List Int) (q : Int × List Int) : Prop where
  len : q.2.length = vs.length
  box : inBox 4 q.2
  due : 0 ≤ dueR vs q.1 q.2
structure RowOk (vs : List Int) (B : Int) (t : List Int) : Prop where
  len : t.length = vs.length
  box : inBox B t
theorem plus_box {B : Int} {t paid : List Int} (ht : inBox B t) (hp : inBox 4 paid) : inBox (B + 3) (plusR t paid) := by
  intro x hx
  unfold plusR at hx
  obtain ⟨q, hq, rfl⟩ := List.mem_map.mp hx
  obtain ⟨h1, h2⟩ := List.of_mem_zip hq
  have a1 := ht _ h1
  have a2 := hp _ h2
  omega
theorem less_box {B : Int} {t r : List Int} (hl : (t.length = 2 ∨ t.length = 3) ∧ r.length = t.length) (ht : inBox B t) (h : okR t r = true) : inBox B (lessR t r) := by
  have hn := nonneg_less hl h
  unfold nonneg at hn
  rw [List.all_eq_true] at hn
  have hr : ∀ x ∈ r, 0 ≤ x := by
    have := (Bool.and_eq_true_iff.mp h).1
    unfold nonneg at this
    rw [List.all_eq_true] at this
    exact fun x hx => of_decide_eq_true (this x hx)
  intro x hx
  refine ⟨of_decide_eq_true (hn x hx), ?_⟩
  unfold lessR at hx
  obtain ⟨q, hq, rfl⟩ := List.mem_map.mp hx
  obtain ⟨h1, h2⟩ := List.of_mem_zip hq
  have a1 := ht _ h1
  have a2 := hr _ h2
  omega
theorem inBox.mono {B B' : Int} {r : List Int} (h : inBox B r) (hb : B ≤ B') : inBox B' r := fun x hx => ⟨(h x hx).1, Int.lt_of_lt_of_le (h x hx).2 hb⟩
/-- what a sale at these tubes can be -/
theorem sale_facts {vs : List Int} (hv : vs ∈ chains) {B : Int} {t : List Int} {q : Int × List Int} (ht : RowOk vs B t) (hq : SaleOk vs q) (hB : B ≤ 90) :
    (plusR t q.2).length = vs.length ∧ inBox 100 (plusR t q.2) ∧ nonneg (plusR t q.2) = true ∧ inBox (B + 3) (plusR t q.2) := by
  have hb := plus_box ht.box hq.box
  exact ⟨by rw [len_plus (by rw [hq.len, ht.len]), ht.len], hb.mono (by omega), hb.nonneg, hb⟩
theorem gf_mem {vs : List Int} (hv : vs ∈ chains) {B : Int} {t : List Int} {q : Int × List Int} (ht : RowOk vs B t) (hq : SaleOk vs q) (hB : B ≤ 90) (h : (gfR vs (plusR t q.2) (dueR vs q.1 q.2)).2 = 0) :
    (gfR vs (plusR t q.2) (dueR vs q.1 q.2)).1 ∈ rowsR vs (plusR t q.2) (dueR vs q.1 q.2) ∧ okR (plusR t q.2) (gfR vs (plusR t q.2) (dueR vs q.1 q.2)).1 = true ∧ (gfR vs (plusR t q.2) (dueR vs q.1 q.2)).1.length = vs.length := by
  obtain ⟨h1, h2, h3, h4⟩ := sale_facts hv ht hq hB
  have hl := len_gf vs hv (plusR t q.2) (dueR vs q.1 q.2) h1
  obtain ⟨a, b⟩ := gf_ok vs hv (plusR t q.2) (dueR vs q.1 q.2) h1 h3 hq.due h
  exact ⟨(mem_rows vs hv _ _ _ h1).mpr ⟨hl, a, b⟩, a, hl⟩
/-- any change of coarser tubes -/
theorem any_change {vs : List Int} (hv : vs ∈ chains) {B B' : Int} {t here r : List Int} {q : Int × List Int} (ht : RowOk vs B t) (hh : RowOk vs B' here) (hq : SaleOk vs q) (hB : B ≤ 90) (hB' : B' ≤ 90) (hf : finR vs t here = true) (hr : r ∈ rowsR vs (plusR here q.2) (dueR vs q.1 q.2)) :
    (gfR vs (plusR t q.2) (dueR vs q.1 q.2)).2 = 0 ∧ finR vs (lessR (plusR t q.2) (gfR vs (plusR t q.2) (dueR vs q.1 q.2)).1) (lessR (plusR here q.2) r) = true ∧ r.length = vs.length ∧ okR (plusR here q.2) r = true := by
  obtain ⟨h1, h2, h3, h4⟩ := sale_facts hv ht hq hB
  obtain ⟨g1, g2, g3, g4⟩ := sale_facts hv hh hq hB'
  obtain ⟨a, b, c⟩ := (mem_rows vs hv _ _ _ g1).mp hr
  have hfp := fin_plus vs hv t here q.2 ht.len hh.len hq.len hf
  obtain ⟨m1, m2, m3, m4⟩ := main_gf vs hv (plusR t q.2) (plusR here q.2) r h1 g1 a h3 hfp b
  rw [c] at m1 m2 m3 m4
  exact ⟨m1, m4, a, b⟩
theorem e_cright {n : Nat} : ∀ vs ∈ chains, ∀ {B : Int} {t : List Int} {q : Int × List Int}, RowOk vs B t → B ≤ 90 → SaleOk vs q → evF L98.pg (n + 6) "_law_change_right" [coin vs, rowD t, saleD q.1 q.2] = .ret (.bl true) [coin vs, rowD t, saleD q.1 q.2] := by
  intro vs hv B t q ht hB hq
  obtain ⟨h1, h2, h3, h4⟩ := sale_facts hv ht hq hB
  have hcl := chain_len vs hv
  have htl : t.length = 2 ∨ t.length = 3 := by rw [ht.len]; exact hcl
  have hWl : (plusR t q.2).length = 2 ∨ (plusR t q.2).length = 3 := by rw [h1]; exact hcl
  have k1 := e_changes (n := n + 2) vs hv t q.2 q.1 ht.len hq.len h2
  have k2 := e_lplus (n := n + 4) htl (by rw [hq.len, ht.len] : q.2.length = t.length)
  have k3 := e_lworth (n := n + 4) vs hv q.2 hq.len
  have k4 := e_finest (n := n + 2) vs hv (plusR t q.2) (dueR vs q.1 q.2) h1
  have zl : (vs.zip (plusR t q.2)).length ≤ 3 := by rw [List.length_zip, h1, Nat.min_self]; omega
  obtain ⟨G, hk⟩ : ∃ G, evSs ⟨evF L98.pg (n + 5), modes L98.pg, fun i => [false, false, false].getD i false, 3⟩ L98.b__law_change_right [some (coin vs), some (rowD t), some (saleD q.1 q.2), none, none, none, none, none, none] = .ok (.rt (.bl true)) (some (coin vs) :: some (rowD t) :: some (saleD q.1 q.2) :: G) := by
    refine cr_key (C := ⟨evF L98.pg (n + 5), modes L98.pg, fun i => [false, false, false].getD i false, 3⟩) (vs := vs) (t := t) (paid := q.2) (p := q.1) (W := plusR t q.2) (due := dueR vs q.1 q.2) (rs := rowsR vs (plusR t q.2) (dueR vs q.1 q.2)) (s := gfR vs (plusR t q.2) (dueR vs q.1 q.2)) (left := lessR (plusR t q.2) (gfR vs (plusR t q.2) (dueR vs q.1 q.2)).1) (g := [])
      rfl rfl (by with_reducible exact k1) (by with_reducible exact k2) (by with_reducible exact k3) rfl (by with_reducible exact k4) md_law_changes md_law_plus md_law_worth md_finest_change md_law_less md_law_is_finer md_is_finest md_law_alike (len_rows h2 zl) ?_ ?_ ?_
    · intro he h0
      have := (gf_mem hv ht hq hB h0).1
      rw [he] at this
      cases this
    · intro hne
      obtain ⟨r0, hr0⟩ := List.exists_mem_of_ne_nil _ hne
      obtain ⟨hs0, _, _, _⟩ := any_change hv ht ht hq hB hB (fin_refl vs hv t ht.len) hr0
      obtain ⟨m1, m2, m3⟩ := gf_mem hv ht hq hB hs0
      refine ⟨hs0, m1, ?_, fun r hr => ?_⟩
      · have := e_lless (n := n + 4) hWl (b := (gfR vs (plusR t q.2) (dueR vs q.1 q.2)).1) (by rw [m3, h1])
        with_reducible exact this
      · obtain ⟨_, f1, f2, f3⟩ := any_change hv ht ht hq hB hB (fin_refl vs hv t ht.len) hr
        have c1 := e_lless (n := n + 4) hWl (b := r) (by rw [f2, h1])
        have c2 := e_lfiner (n := n + 1) vs hv (lessR (plusR t q.2) (gfR vs (plusR t q.2) (dueR vs q.1 q.2)).1) (lessR (plusR t q.2) r) (by rw [len_less (by rw [m3, h1]), h1]) (by rw [len_less (by rw [f2, h1]), h1])
        rw [f1] at c2
        have c3 := e_isfinest (n := n + 1) vs hv (plusR t q.2) r (dueR vs q.1 q.2) h1 f2
        exact ⟨lessR (plusR t q.2) r, by with_reducible exact c1, by with_reducible exact c2, by with_reducible exact c3⟩
    · intro d hd hsz
      have := e_alike (n := n + 4) hd hsz
      with_reducible exact this
  exact ev_run (fd := gd_law_change_right) lk_law_change_right rfl (by decide) hk rfl
/-! ### greedy -/
def saleQ (q : Int × List Int) : D := saleD q.1 q.2
def gN (vs : List Int) : List Int → List (Int × List Int) → Nat
  | _, [] => 0
  | t, q :: r => if (gfR vs (plusR t q.2) (dueR vs q.1 q.2)).2 = 0 then gN vs (lessR (plusR t q.2) (gfR vs (plusR t q.2) (dueR vs q.1 q.2)).1) r + 1 else 0
theorem gN_le (vs : List Int) : ∀ (l : List (Int × List Int)) (t : List Int), gN vs t l ≤ l.length
  | [], _ => Nat.le_refl _
  | q :: r, t => by
    unfold gN
    have := gN_le vs r (lessR (plusR t q.2) (gfR vs (plusR t q.2) (dueR vs q.1 q.2)).1)
    split
    · rw [List.length_cons]; omega
    · omega
def greedyB : Stas := (.cons (.set 5 (.call "finest_behind" (.cons (.var 0) (.cons (.var 1) (.cons (.var 4) .nil))))) (.cons (.ife (.cmp .is_ (.var 5) .non) (.cons (.ret (.var 3)) .nil) .nil) (.cons (.set 1 (.var 5)) .nil)))
theorem greedy_loop {C : Ctx} {vs : List Int} (hv : vs ∈ chains) (hp : C.pr = (fun i => [false, false, false].getD i false)) (hnp : C.np = 3) (m1 : C.md "finest_behind" = [false, false, false]) {S : D}
    (c1 : ∀ (B : Int) (t : List Int) (q : Int × List Int), RowOk vs B t → B ≤ 90 → SaleOk vs q → C.cal "finest_behind" [coin vs, rowD t, saleQ q] = .ret (behindD vs t q.1 q.2) [coin vs, rowD t, saleQ q]) :
    ∀ (l : List (Int × List Int)) (t : List Int) (B : Int) (k : Nat) (x3 x4 x5 : Option D), RowOk vs B t → B + 3 * l.length ≤ 90 → (∀ q ∈ l, SaleOk vs q) →
    ∃ t' y3 y4 y5, forL (fun d G => match asgG (.tup (.cons (.name 3) (.cons (.name 4) .nil))) d G with
      | none => .no
      | some G => evSs C greedyB G) ((l.zipIdx k).map fun p => .tup [.int (p.2 : Nat), saleQ p.1]) [some (coin vs), some (rowD t), some S, x3, x4, x5] =
      if gN vs t l < l.length then .ok (.rt (.int ((k + gN vs t l : Nat) : Int))) [some (coin vs), t', some S, y3, y4, y5] else .ok .nx [some (coin vs), t', some S, y3, y4, y5]
  | [], t, B, k, x3, x4, x5, ht, hB, hl => ⟨some (rowD t), x3, x4, x5, rfl⟩
  | q :: l, t, B, k, x3, x4, x5, ht, hB, hl => by
    rw [List.length_cons] at hB
    have hq := hl q List.mem_cons_self
    have hb := c1 B t q ht (by omega) hq
    have hsf : (saleQ q).fz = saleQ q := rfl
    rw [List.zipIdx_cons, List.map_cons]
    by_cases h0 : (gfR vs (plusR t q.2) (dueR vs q.1 q.2)).2 = 0
    · obtain ⟨m1', m2, m3⟩ := gf_mem hv ht hq (by omega) h0
      obtain ⟨s1, s2, s3, s4⟩ := sale_facts hv ht hq (by omega)
      have hbd : behindD vs t q.1 q.2 = rowD (lessR (plusR t q.2) (gfR vs (plusR t q.2) (dueR vs q.1 q.2)).1) := if_pos h0
      rw [hbd] at hb
      have hg : gN vs t (q :: l) = gN vs (lessR (plusR t q.2) (gfR vs (plusR t q.2) (dueR vs q.1 q.2)).1) l + 1 := if_pos h0
      have ht2 : RowOk vs (B + 3) (lessR (plusR t q.2) (gfR vs (plusR t q.2) (dueR vs q.1 q.2)).1) := ⟨by rw [len_less (by rw [m3, s1]), s1], less_box ⟨by rw [s1]; exact chain_len vs hv, by rw [m3, s1]⟩ s4 m2⟩
      rw [hg]
      generalize lessR (plusR t q.2) (gfR vs (plusR t q.2) (dueR vs q.1 q.2)).1 = t2 at *
      obtain ⟨t', y3, y4, y5, e⟩ := greedy_loop hv hp hnp m1 (S := S) c1 l t2 (B + 3) (k + 1) (some (.int (k : Nat))) (some (saleQ q)) (some (rowD t2)) ht2 (by omega) (fun q hq => hl q (List.mem_cons_of_mem _ hq))
      refine ⟨t', y3, y4, y5, ?_⟩
      have hlen : (gN vs t2 l + 1 < (q :: l).length) = (gN vs t2 l < l.length) := by rw [List.length_cons]; exact propext ⟨fun h => by omega, fun h => by omega⟩
      have hadd : k + (gN vs t2 l + 1) = k + 1 + gN vs t2 l := by omega
      rw [hadd]
      simp only [hlen]
      refine Eq.trans (forL_nx ?_) e
      simp [greedyB, evSs, evS, evE, evEs, evT, evI, evO, bind_ok, lft_some, deref_val, deref_slot, getS_0, getS_s, derefs, takes, take, D.fz, own_val, own, retV, callE, passA, lentS, backA, asgG, asgsG, protT, protTs, List.tail_cons, hb, m1, hp, cmpD, D.isNon, hsf]
    · have hbd : behindD vs t q.1 q.2 = .non := if_neg h0
      rw [hbd] at hb
      have hg : gN vs t (q :: l) = 0 := if_neg h0
      rw [hg]
      refine ⟨some (rowD t), none, some (saleQ q), some .non, ?_⟩
      rw [if_pos (by rw [List.length_cons]; omega)]
      refine Eq.trans (forL_rt ?_) rfl
      simp [greedyB, evSs, evS, evE, evEs, evT, evI, evO, bind_ok, lft_some, deref_val, deref_slot, getS_0, getS_s, derefs, takes, take, D.fz, own_val, own, retV, callE, passA, lentS, backA, asgG, asgsG, protT, protTs, List.tail_cons, hb, m1, hp, cmpD, D.isNon, hsf, hnp]
theorem e_greedy {n : Nat} : ∀ vs ∈ chains, ∀ {B : Int} {t : List Int} {l : List (Int × List Int)}, RowOk vs B t → B + 3 * l.length ≤ 90 → (∀ q ∈ l, SaleOk vs q) → ∃ a, evF L98.pg (n + 4) "_law_greedy" [coin vs, rowD t, .lst (l.map saleQ)] = .ret (.int (gN vs t l : Nat)) [coin vs, a, .lst (l.map saleQ)] := by
  intro vs hv B t l ht hB hl
  have hbe : ∀ (B : Int) (t : List Int) (q : Int × List Int), RowOk vs B t → B ≤ 90 → SaleOk vs q → evF L98.pg (n + 3) "finest_behind" [coin vs, rowD t, saleQ q] = .ret (behindD vs t q.1 q.2) [coin vs, rowD t, saleQ q] := by
    intro B t q ht hB hq
    exact e_behind (n := n) vs hv t q.2 q.1 ht.len hq.len fun h0 => ok_above (gf_mem hv ht hq hB h0).2.1
  have key : ∀ C : Ctx, C.pr = (fun i => [false, false, false].getD i false) → C.np = 3 → C.md "finest_behind" = [false, false, false] → (∀ (B : Int) (t : List Int) (q : Int × List Int), RowOk vs B t → B ≤ 90 → SaleOk vs q → C.cal "finest_behind" [coin vs, rowD t, saleQ q] = .ret (behindD vs t q.1 q.2) [coin vs, rowD t, saleQ q]) →
      ∃ t' y3 y4 y5, evSs C L98.b__law_greedy [some (coin vs), some (rowD t), some (.lst (l.map saleQ)), none, none, none] = .ok (.rt (.int (gN vs t l : Nat))) [some (coin vs), t', some (.lst (l.map saleQ)), y3, y4, y5] := by
    intro C hp hnp m1 c1
    have hen : on1 enumX [D.lst (l.map saleQ)] = some (.tup ((l.zipIdx 0).map fun p => .tup [.int (p.2 : Nat), saleQ p.1])) := by
      show some (D.tup (enumD (l.map saleQ))) = _
      unfold enumD
      rw [List.zipIdx_map, List.map_map]
      rfl
    have hi : evI C (.enum (.cons (.var 2) .nil)) [some (coin vs), some (rowD t), some (.lst (l.map saleQ)), none, none, none] = .ok ((l.zipIdx 0).map fun p => .tup [.int (p.2 : Nat), saleQ p.1]) [some (coin vs), some (rowD t), some (.lst (l.map saleQ)), none, none, none] := by
      simp [evSs, evS, evE, evEs, evT, evI, evO, bind_ok, lft_some, deref_val, deref_slot, getS_0, getS_s, derefs, takes, take, D.fz, own_val, own, retV, callE, passA, lentS, backA, asgG, asgsG, protT, protTs, List.tail_cons, hen]
    obtain ⟨t', y3, y4, y5, e⟩ := greedy_loop hv hp hnp m1 (S := .lst (l.map saleQ)) c1 l t B 0 none none none ht hB hl
    refine ⟨t', y3, y4, y5, ?_⟩
    have e1 := (ev_for (b := greedyB) (tg := (.tup (.cons (.name 3) (.cons (.name 4) .nil)))) (by simp [protT, protTs, hp]) hi).trans e
    rw [L98.b__law_greedy]
    by_cases hlt : gN vs t l < l.length
    · rw [if_pos hlt] at e1
      have q : ∀ (st : Sta) (r : Stas) (G G1 : GEnv) (d : D), evS C st G = .ok (.rt d) G1 → evSs C (.cons st r) G = .ok (.rt d) G1 := fun st r G G1 d h => by
        show (evS C st G).bind _ = _
        rw [h]; rfl
      rw [Nat.zero_add] at e1
      exact q _ _ _ _ _ e1
    · rw [if_neg hlt] at e1
      have hge := gN_le vs l t
      have heq : gN vs t l = l.length := by omega
      refine (seq_nx e1).trans ?_
      have hlen : biD .len [D.lst (l.map saleQ)] = some (.int (gN vs t l : Nat)) := by
        rw [heq]
        show some (D.int ((l.map saleQ).length : Nat)) = _
        rw [List.length_map]
      simp [evSs, evS, evE, evEs, evT, evI, evO, bind_ok, lft_some, deref_val, deref_slot, getS_0, getS_s, derefs, takes, take, D.fz, own_val, own, retV, callE, passA, lentS, backA, asgG, asgsG, protT, protTs, List.tail_cons, hlen]
  obtain ⟨t', y3, y4, y5, hk⟩ := key ⟨evF L98.pg (n + 3), modes L98.pg, fun i => [false, false, false].getD i false, 3⟩ rfl rfl md_finest_behind (by with_reducible exact hbe)
  cases t' with
  | none => exact ⟨.non, ev_run (fd := gd_law_greedy) lk_law_greedy rfl (by decide) hk rfl⟩
  | some d => exact ⟨d, ev_run (fd := gd_law_greedy) lk_law_greedy rfl (by decide) hk rfl⟩
/-! ### amounts dealt -/
def dealR (vs : List Int) : List Int → List Int → Option (List (List Int))
  | _, [] => some []
  | W, a :: r => if (gfR vs W a).2 = 0 then (dealR vs (lessR W (gfR vs W a).1) r).map ((gfR vs W a).1 :: ·) else none
def dealB : Stas := (.cons (.set 5 (.call "greatest_first" (.cons (.var 0) (.cons (.var 1) (.cons (.var 4) .nil))))) (.cons (.ife (.cmp .is_ (.var 5) .non) (.cons (.ret .non) .nil) .nil) (.cons (.expr (.mt .append (.var 3) (.cons (.var 5) .nil))) (.cons (.set 1 (.call "less" (.cons (.var 1) (.cons (.var 5) .nil)))) .nil))))
theorem deal_loop {C : Ctx} {vs : List Int} (hv : vs ∈ chains) (hp : C.pr = (fun i => [false, false, false].getD i false)) (hnp : C.np = 3) (m1 : C.md "greatest_first" = [false, false, false]) (m2 : C.md "less" = [false, false]) {S : D}
    (c1 : ∀ (W : List Int) (a : Int), W.length = vs.length → C.cal "greatest_first" [coin vs, rowD W, .int a] = .ret (wayD (gfR vs W a)) [coin vs, rowD W, .int (gfR vs W a).2])
    (c2 : ∀ (a b : List Int), a.length = vs.length → b.length = vs.length → aboveR a b = true → C.cal "less" [rowD a, rowD b] = .ret (rowD (lessR a b)) [rowD a, rowD b]) :
    ∀ (l : List Int) (W : List Int) (acc : List (List Int)) (x4 x5 : Option D), W.length = vs.length → nonneg W = true → (∀ a ∈ l, 0 ≤ a) → acc.length + l.length ≤ 1000 →
    ∃ y1 y3 y4 y5, forL (fun d G => match asgG (.name 4) d G with
      | none => .no
      | some G => evSs C dealB G) (l.map .int) [some (coin vs), some (rowD W), some S, some (.mls (rowsD acc)), x4, x5] =
      match dealR vs W l with
      | some ws => .ok .nx [some (coin vs), y1, some S, some (.mls (rowsD (acc ++ ws))), y4, y5]
      | none => .ok (.rt .non) [some (coin vs), y1, some S, y3, y4, y5]
  | [], W, acc, x4, x5, hW, hn, hl, hk => ⟨some (rowD W), none, x4, x5, by simp [dealR, forL]⟩
  | a :: l, W, acc, x4, x5, hW, hn, hl, hk => by
    rw [List.length_cons] at hk
    have hgf := c1 W a hW
    have ha := hl a List.mem_cons_self
    have hsz : sizeLine = 16777216 := rfl
    rw [List.map_cons]
    by_cases h0 : (gfR vs W a).2 = 0
    · have hwd : wayD (gfR vs W a) = rowD (gfR vs W a).1 := if_pos h0
      rw [hwd] at hgf
      obtain ⟨o1, o2⟩ := gf_ok vs hv W a hW hn ha h0
      have hgl := len_gf vs hv W a hW
      have hls := c2 W (gfR vs W a).1 hW hgl (ok_above o1)
      have hcl := chain_len vs hv
      have hn2 := nonneg_less (a := W) (b := (gfR vs W a).1) ⟨by rw [hW]; exact hcl, by rw [hgl, hW]⟩ o1
      have hW2 : (lessR W (gfR vs W a).1).length = vs.length := by rw [len_less (by rw [hgl, hW]), hW]
      have hd : dealR vs W (a :: l) = (dealR vs (lessR W (gfR vs W a).1) l).map ((gfR vs W a).1 :: ·) := if_pos h0
      rw [hd]
      generalize gfR vs W a = s at *
      obtain ⟨y1, y3, y4, y5, e⟩ := deal_loop hv hp hnp m1 m2 (S := S) c1 c2 l (lessR W s.1) (acc ++ [s.1]) (some (.int a)) (some (rowD s.1)) hW2 hn2 (fun q hq => hl q (List.mem_cons_of_mem _ hq)) (by rw [List.length_append, List.length_singleton]; omega)
      refine ⟨y1, y3, y4, y5, ?_⟩
      have happ : mtD .append (.mls (rowsD acc)) [rowD s.1] = some (.non, .mls (rowsD (acc ++ [s.1]))) := by
        show ((appendL (rowsD acc) (rowD s.1)).map fun q => (q.1, D.mls q.2)) = _
        unfold appendL
        rw [if_pos (by rw [decide_eq_true_eq, List.length_map]; omega)]
        show some (D.non, D.mls (rowsD acc ++ [rowD s.1])) = _
        rw [show rowsD acc ++ [rowD s.1] = rowsD (acc ++ [s.1]) by simp [rowsD]]
      refine Eq.trans (forL_nx (G1 := [some (coin vs), some (rowD (lessR W s.1)), some S, some (.mls (rowsD (acc ++ [s.1]))), some (.int a), some (rowD s.1)]) ?_) ?_
      · simp [dealB, evSs, evS, evE, evEs, evT, evI, evO, bind_ok, lft_some, deref_val, deref_slot, getS_0, getS_s, derefs, takes, take, D.fz, own_val, own, retV, callE, passA, lentS, backA, asgG, asgsG, protT, protTs, List.tail_cons, hgf, m1, m2, hp, cmpD, D.isNon, hls, happ]
      · rw [e]
        cases dealR vs (lessR W s.1) l with
        | none => rfl
        | some ws => simp
    · have hwd : wayD (gfR vs W a) = .non := if_neg h0
      rw [hwd] at hgf
      have hd : dealR vs W (a :: l) = none := if_neg h0
      rw [hd]
      refine ⟨some (rowD W), some (.mls (rowsD acc)), some (.int a), some .non, ?_⟩
      refine Eq.trans (forL_rt ?_) rfl
      simp [dealB, evSs, evS, evE, evEs, evT, evI, evO, bind_ok, lft_some, deref_val, deref_slot, getS_0, getS_s, derefs, takes, take, D.fz, own_val, own, retV, callE, passA, lentS, backA, asgG, asgsG, protT, protTs, List.tail_cons, hgf, m1, hp, cmpD, D.isNon, hnp]
def dealD (vs W : List Int) (l : List Int) : D := match dealR vs W l with
  | some ws => .tup (rowsD ws)
  | none => .non
theorem len_deal (vs : List Int) : ∀ (l W : List Int) (ws : List (List Int)), dealR vs W l = some ws → ws.length = l.length
  | [], W, ws, h => by cases h; rfl
  | a :: l, W, ws, h => by
    unfold dealR at h
    split at h
    · obtain ⟨v, h1, rfl⟩ := Option.map_eq_some_iff.mp h
      rw [List.length_cons, List.length_cons, len_deal vs l _ v h1]
    · cases h
theorem e_dealt {n : Nat} : ∀ vs ∈ chains, ∀ {W l : List Int}, W.length = vs.length → nonneg W = true → (∀ a ∈ l, 0 ≤ a) → l.length ≤ 100 → ∃ a, evF L98.pg (n + 3) "dealt" [coin vs, rowD W, rowD l] = .ret (dealD vs W l) [coin vs, a, rowD l] := by
  intro vs hv W l hW hn hl hk
  have h1 := e_need (n := n) vs hv
  have h2 : ∀ (W : List Int) (a : Int), W.length = vs.length → evF L98.pg (n + 2) "greatest_first" [coin vs, rowD W, .int a] = .ret (wayD (gfR vs W a)) [coin vs, rowD W, .int (gfR vs W a).2] := e_gf (n := n + 1) vs hv
  have h3 : ∀ (a b : List Int), a.length = vs.length → b.length = vs.length → aboveR a b = true → evF L98.pg (n + 2) "less" [rowD a, rowD b] = .ret (rowD (lessR a b)) [rowD a, rowD b] := fun a b ha hb hab => e_less (n := n) (by rw [ha]; exact chain_len vs hv) (by rw [hb, ha]) hab
  have key : ∀ C : Ctx, C.pr = (fun i => [false, false, false].getD i false) → C.np = 3 → C.md "greatest_first" = [false, false, false] → C.md "less" = [false, false] → C.md "need_chain" = [false] → C.cal "need_chain" [coin vs] = .ret .non [coin vs] →
      (∀ (W : List Int) (a : Int), W.length = vs.length → C.cal "greatest_first" [coin vs, rowD W, .int a] = .ret (wayD (gfR vs W a)) [coin vs, rowD W, .int (gfR vs W a).2]) →
      (∀ (a b : List Int), a.length = vs.length → b.length = vs.length → aboveR a b = true → C.cal "less" [rowD a, rowD b] = .ret (rowD (lessR a b)) [rowD a, rowD b]) →
      ∃ y1 y3 y4 y5, evSs C L98.b_dealt [some (coin vs), some (rowD W), some (rowD l), none, none, none] = .ok (.rt (dealD vs W l)) [some (coin vs), y1, some (rowD l), y3, y4, y5] := by
    intro C hp hnp m1 m2 m3 c0 c1 c2
    obtain ⟨y1, y3, y4, y5, e⟩ := deal_loop hv hp hnp m1 m2 (S := rowD l) c1 c2 l W [] none none hW hn hl (by rw [List.length_nil]; omega)
    have hsz : sizeLine = 16777216 := rfl
    have hi : evI C (.seq (.var 2)) [some (coin vs), some (rowD W), some (rowD l), some (.mls []), none, none] = .ok (l.map .int) [some (coin vs), some (rowD W), some (rowD l), some (.mls []), none, none] := by
      simp [evSs, evS, evE, evEs, evT, evI, evO, bind_ok, lft_some, deref_val, deref_slot, getS_0, getS_s, derefs, takes, take, D.fz, own_val, own, retV, callE, passA, lentS, backA, asgG, asgsG, protT, protTs, List.tail_cons, seqOf]
    have e1 := (ev_for (b := dealB) (tg := .name 4) (by simp [protT, protTs, hp]) hi).trans e
    rw [L98.b_dealt]
    rw [seq_nx (G1 := [some (coin vs), some (rowD W), some (rowD l), none, none, none]) (by simp [evSs, evS, evE, evEs, evT, evI, evO, bind_ok, lft_some, deref_val, deref_slot, getS_0, getS_s, derefs, takes, take, D.fz, own_val, own, retV, callE, passA, lentS, backA, asgG, asgsG, protT, protTs, List.tail_cons, c0, m3])]
    rw [seq_nx (G1 := [some (coin vs), some (rowD W), some (rowD l), some (.mls []), none, none]) (by simp [evSs, evS, evE, evEs, evT, evI, evO, bind_ok, lft_some, deref_val, deref_slot, getS_0, getS_s, derefs, takes, take, D.fz, own_val, own, retV, callE, passA, lentS, backA, asgG, asgsG, protT, protTs, List.tail_cons, lenOk, hp])]
    unfold dealD
    cases hd : dealR vs W l with
    | none =>
      rw [hd] at e1
      have q : ∀ (st : Sta) (r : Stas) (G G1 : GEnv) (d : D), evS C st G = .ok (.rt d) G1 → evSs C (.cons st r) G = .ok (.rt d) G1 := fun st r G G1 d h => by
        show (evS C st G).bind _ = _
        rw [h]; rfl
      exact ⟨y1, y3, y4, y5, q _ _ _ _ _ e1⟩
    | some ws =>
      rw [hd] at e1
      have hwl := len_deal vs l W ws hd
      have hc : colD .tuple (.lst (rowsD ws)) = some (.tup (rowsD ws)) := colT_mls (by rw [List.length_map]; omega)
      have hz : D.fzs (rowsD ws) = rowsD ws := fzs_map (fun _ => rfl) _
      refine ⟨y1, some (.lst (rowsD ws)), y4, y5, (seq_nx e1).trans ?_⟩
      simp [evSs, evS, evE, evEs, evT, evI, evO, bind_ok, lft_some, deref_val, deref_slot, getS_0, getS_s, derefs, takes, take, D.fz, own_val, own, retV, callE, passA, lentS, backA, asgG, asgsG, protT, protTs, List.tail_cons, hz, hc]
  obtain ⟨y1, y3, y4, y5, hk⟩ := key ⟨evF L98.pg (n + 2), modes L98.pg, fun i => [false, false, false].getD i false, 3⟩ rfl rfl md_greatest_first md_less md_need_chain (by with_reducible exact h1) (by with_reducible exact h2) (by with_reducible exact h3)
  cases y1 with
  | none => exact ⟨.non, ev_run (fd := gd_dealt) lk_dealt rfl (by decide) hk rfl⟩
  | some d => exact ⟨d, ev_run (fd := gd_dealt) lk_dealt rfl (by decide) hk rfl⟩
/-- what a row deals, a finer one deals -/
theorem deal_finer {vs : List Int} (hv : vs ∈ chains) : ∀ (l T O : List Int), T.length = vs.length → O.length = vs.length → nonneg T = true → nonneg O = true → (∀ a ∈ l, 0 ≤ a) → finR vs T O = true → dealR vs O l ≠ none → dealR vs T l ≠ none
  | [], T, O, _, _, _, _, _, _, _ => by simp [dealR]
  | a :: l, T, O, hT, hO, nT, nO, hl, hf, h => by
    have ha := hl a List.mem_cons_self
    have hcl := chain_len vs hv
    unfold dealR at h ⊢
    split at h
    · rename_i h0
      obtain ⟨o1, o2⟩ := gf_ok vs hv O a hO nO ha h0
      have gl := len_gf vs hv O a hO
      obtain ⟨m1, m2, m3, m4⟩ := main_gf vs hv T O (gfR vs O a).1 hT hO gl nT hf o1
      rw [o2] at m1 m2 m3 m4
      have gt := len_gf vs hv T a hT
      rw [if_pos m1]
      have ih := deal_finer hv l (lessR T (gfR vs T a).1) (lessR O (gfR vs O a).1) (by rw [len_less (by rw [gt, hT]), hT]) (by rw [len_less (by rw [gl, hO]), hO]) (nonneg_less ⟨by rw [hT]; exact hcl, by rw [gt, hT]⟩ m2) (nonneg_less ⟨by rw [hO]; exact hcl, by rw [gl, hO]⟩ o1) (fun q hq => hl q (List.mem_cons_of_mem _ hq)) m4 (fun z => h (by rw [z]; rfl))
      intro z
      exact ih (Option.map_eq_none_iff.mp z)
    · exact absurd rfl h
end Dv
end
section
set_option Elab.async false
set_option linter.all false
set_option maxRecDepth 100000
set_option maxHeartbeats 4000000
/-! Q7 (k98): the hashes of small rows are apart. -/
namespace Dv
open PySem L2
inductive Tr where
  | lf | nd (l : Tr) (k : Nat) (r : Tr)
def Tr.ins : Tr → Nat → Option Tr
  | .lf, x => some (.nd .lf x .lf)
  | .nd l k r, x => if x < k then (match Tr.ins l x with | some t => some (.nd t k r) | none => none) else if k < x then (match Tr.ins r x with | some t => some (.nd l k t) | none => none) else none
def Tr.has : Tr → Nat → Prop
  | .lf, _ => False
  | .nd l k r, x => x = k ∨ Tr.has l x ∨ Tr.has r x
def Tr.ok : Tr → Prop
  | .lf => True
  | .nd l k r => Tr.ok l ∧ Tr.ok r ∧ (∀ x, Tr.has l x → x < k) ∧ ∀ x, Tr.has r x → k < x
theorem Tr.ins_ok : ∀ {t t' : Tr} {x : Nat}, t.ok → t.ins x = some t' → t'.ok ∧ ¬ t.has x ∧ ∀ y, t'.has y ↔ y = x ∨ t.has y
  | .lf, t', x, _, h => by
    cases h
    exact ⟨⟨trivial, trivial, fun _ h => h.elim, fun _ h => h.elim⟩, fun h => h, fun y => ⟨fun h => .inl (h.elim id fun z => z.elim False.elim False.elim), fun h => .inl (h.elim id False.elim)⟩⟩
  | .nd l k r, t', x, ⟨o1, o2, o3, o4⟩, h => by
    unfold Tr.ins at h
    split at h
    · rename_i hlt
      cases e : Tr.ins l x with
      | none => rw [e] at h; cases h
      | some t =>
        rw [e] at h
        cases h
        obtain ⟨a, b, c⟩ := Tr.ins_ok o1 e
        refine ⟨⟨a, o2, fun y hy => ?_, o4⟩, ?_, fun y => ?_⟩
        · rcases (c y).mp hy with rfl | hy
          · exact hlt
          · exact o3 y hy
        · rintro (rfl | h | h)
          · exact absurd hlt (Nat.lt_irrefl _)
          · exact b h
          · exact absurd (o4 x h) (by omega)
        · constructor
          · rintro (h | h | h)
            · exact .inr (.inl h)
            · exact ((c y).mp h).elim .inl fun z => .inr (.inr (.inl z))
            · exact .inr (.inr (.inr h))
          · rintro (h | h | h | h)
            · exact .inr (.inl ((c y).mpr (.inl h)))
            · exact .inl h
            · exact .inr (.inl ((c y).mpr (.inr h)))
            · exact .inr (.inr h)
    · split at h
      · rename_i hnlt hlt
        cases e : Tr.ins r x with
        | none => rw [e] at h; cases h
        | some t =>
          rw [e] at h
          cases h
          obtain ⟨a, b, c⟩ := Tr.ins_ok o2 e
          refine ⟨⟨o1, a, o3, fun y hy => ?_⟩, ?_, fun y => ?_⟩
          · rcases (c y).mp hy with rfl | hy
            · exact hlt
            · exact o4 y hy
          · rintro (rfl | h | h)
            · exact absurd hlt (Nat.lt_irrefl _)
            · exact absurd (o3 x h) (by omega)
            · exact b h
          · constructor
            · rintro (h | h | h)
              · exact .inr (.inl h)
              · exact .inr (.inr (.inl h))
              · exact ((c y).mp h).elim .inl fun z => .inr (.inr (.inr z))
            · rintro (h | h | h | h)
              · exact .inr (.inr ((c y).mpr (.inl h)))
              · exact .inl h
              · exact .inr (.inl h)
              · exact .inr (.inr ((c y).mpr (.inr h)))
      · cases h
def Tr.insAll : Tr → List Nat → Bool
  | _, [] => true
  | t, x :: l => match Tr.ins t x with
    | some t' => Tr.insAll t' l
    | none => false
theorem Tr.apart : ∀ {l : List Nat} {t : Tr}, t.ok → t.insAll l = true → l.Nodup ∧ ∀ x ∈ l, ¬ t.has x
  | [], t, _, _ => ⟨List.nodup_nil, fun _ h => by cases h⟩
  | x :: l, t, o, h => by
    unfold Tr.insAll at h
    cases e : Tr.ins t x with
    | none => rw [e] at h; cases h
    | some t' =>
      rw [e] at h
      obtain ⟨a, b, c⟩ := Tr.ins_ok o e
      obtain ⟨h1, h2⟩ := Tr.apart a h
      refine ⟨List.nodup_cons.mpr ⟨fun hx => h2 x hx ((c x).mpr (.inl rfl)), h1⟩, fun y hy => ?_⟩
      rcases List.mem_cons.mp hy with rfl | hy
      · exact b
      · exact fun z => h2 y hy ((c y).mpr (.inr z))
def codeH (r : List Int) : Nat := (hashI r + 18446744073709551616).toNat
def n17 : List Int := (List.range 17).map fun i : Nat => (i : Int)
def all2 : List (List Int) := n17.flatMap fun x => n17.map fun y => [x, y]
def all3 : List (List Int) := n17.flatMap fun x => n17.flatMap fun y => n17.map fun z => [x, y, z]
theorem apart2 : Tr.insAll .lf (all2.map codeH) = true := by kernel_rfl
theorem apart3 : Tr.insAll .lf (all3.map codeH) = true := by kernel_rfl
end Dv
end
section
set_option Elab.async false
set_option linter.all false
set_option maxRecDepth 100000
set_option maxHeartbeats 4000000
/-! Q8 (k98): served. -/
namespace Dv
open PySem L2
theorem inj_of_nodup {α β : Type} {f : α → β} : ∀ {l : List α}, (l.map f).Nodup → ∀ a ∈ l, ∀ b ∈ l, f a = f b → a = b
  | [], _, a, ha, _, _, _ => by cases ha
  | x :: l, h, a, ha, b, hb, e => by
    rw [List.map_cons, List.nodup_cons] at h
    rcases List.mem_cons.mp ha with ea | ha2
    · rcases List.mem_cons.mp hb with eb | hb2
      · rw [ea, eb]
      · exact absurd (List.mem_map.mpr ⟨b, hb2, by rw [← e, ea]⟩) h.1
    · rcases List.mem_cons.mp hb with eb | hb2
      · exact absurd (List.mem_map.mpr ⟨a, ha2, by rw [e, eb]⟩) h.1
      · exact inj_of_nodup h.2 a ha2 b hb2 e
theorem nodup_map_on {α β : Type} {f : α → β} : ∀ {l : List α}, l.Nodup → (∀ a ∈ l, ∀ b ∈ l, f a = f b → a = b) → (l.map f).Nodup
  | [], _, _ => List.nodup_nil
  | x :: l, h, hi => by
    rw [List.nodup_cons] at h
    rw [List.map_cons, List.nodup_cons]
    refine ⟨fun hx => ?_, nodup_map_on h.2 fun a ha b hb => hi a (List.mem_cons_of_mem _ ha) b (List.mem_cons_of_mem _ hb)⟩
    obtain ⟨y, hy, e⟩ := List.mem_map.mp hx
    have := hi y (List.mem_cons_of_mem _ hy) x List.mem_cons_self e
    subst this
    exact h.1 hy
theorem mem_n17 {x : Int} (h : 0 ≤ x ∧ x < 17) : x ∈ n17 := List.mem_map.mpr ⟨x.toNat, List.mem_range.mpr (by omega), by omega⟩
theorem mem_all3 {r : List Int} (hl : r.length = 3) (h : inBox 17 r) : r ∈ all3 := by
  obtain ⟨x, y, z, rfl⟩ := len3 hl
  refine List.mem_flatMap.mpr ⟨x, mem_n17 (h x (by simp)), List.mem_flatMap.mpr ⟨y, mem_n17 (h y (by simp)), List.mem_map.mpr ⟨z, mem_n17 (h z (by simp)), rfl⟩⟩⟩
theorem mem_all2 {r : List Int} (hl : r.length = 2) (h : inBox 17 r) : r ∈ all2 := by
  obtain ⟨x, y, rfl⟩ := len2 hl
  exact List.mem_flatMap.mpr ⟨x, mem_n17 (h x (by simp)), List.mem_map.mpr ⟨y, mem_n17 (h y (by simp)), rfl⟩⟩
theorem hash_apart {vs : List Int} (hv : vs ∈ chains) {r s : List Int} (hr : RowOk vs 17 r) (hs : RowOk vs 17 s) (e : hashI r = hashI s) : r = s := by
  have ec : codeH r = codeH s := by unfold codeH; rw [e]
  rcases chain_len vs hv with h | h
  · exact inj_of_nodup (Tr.apart (t := .lf) trivial apart2).1 r (mem_all2 (hr.len.trans h) hr.box) s (mem_all2 (hs.len.trans h) hs.box) ec
  · exact inj_of_nodup (Tr.apart (t := .lf) trivial apart3).1 r (mem_all3 (hr.len.trans h) hr.box) s (mem_all3 (hs.len.trans h) hs.box) ec
theorem len_le_of_nodup {α : Type} [DecidableEq α] : ∀ (l m : List α), l.Nodup → (∀ x ∈ l, x ∈ m) → l.length ≤ m.length
  | [], m, _, _ => Nat.zero_le _
  | x :: l, m, h, hm => by
    rw [List.nodup_cons] at h
    have hx := hm x List.mem_cons_self
    have := len_le_of_nodup l (m.erase x) h.2 fun y hy => (List.mem_erase_of_ne (fun z => by subst z; exact h.1 hy)).mpr (hm y (List.mem_cons_of_mem _ hy))
    rw [List.length_erase_of_mem hx] at this
    have hp : 0 < m.length := List.length_pos_iff.mpr (List.ne_nil_of_mem hx)
    rw [List.length_cons]
    omega
theorem len_box {vs : List Int} (hv : vs ∈ chains) {l : List (List Int)} (hn : l.Nodup) (h : ∀ r ∈ l, RowOk vs 17 r) : l.length ≤ 4913 := by
  rcases chain_len vs hv with h2 | h2
  · refine Nat.le_trans (len_le_of_nodup l all2 hn fun r hr => mem_all2 ((h r hr).len.trans h2) (h r hr).box) ?_
    have : all2.length = 289 := by kernel_rfl
    omega
  · refine Nat.le_trans (len_le_of_nodup l all3 hn fun r hr => mem_all3 ((h r hr).len.trans h2) (h r hr).box) ?_
    have : all3.length = 4913 := by kernel_rfl
    omega
/-! ### rows put together -/
def addR (acc : List (List Int)) (k : List Int) : List (List Int) := if k ∈ acc then acc else acc ++ [k]
def mergeR (acc more : List (List Int)) : List (List Int) := more.foldl addR acc
theorem mem_addR {acc : List (List Int)} {k x : List Int} : x ∈ addR acc k ↔ x ∈ acc ∨ x = k := by
  unfold addR
  split
  · rename_i h
    exact ⟨.inl, fun z => z.elim id fun e => by rw [e]; exact h⟩
  · rw [List.mem_append, List.mem_singleton]
theorem mem_mergeR : ∀ {more acc : List (List Int)} {x : List Int}, x ∈ mergeR acc more ↔ x ∈ acc ∨ x ∈ more
  | [], acc, x => by simp [mergeR]
  | k :: more, acc, x => by
    show x ∈ mergeR (addR acc k) more ↔ _
    rw [mem_mergeR, mem_addR, List.mem_cons]
    constructor
    · rintro ((h | h) | h)
      · exact .inl h
      · exact .inr (.inl h)
      · exact .inr (.inr h)
    · rintro (h | h | h)
      · exact .inl (.inl h)
      · exact .inl (.inr h)
      · exact .inr h
theorem nodup_addR {acc : List (List Int)} {k : List Int} (h : acc.Nodup) : (addR acc k).Nodup := by
  unfold addR
  split
  · exact h
  · rename_i hk
    rw [List.nodup_append]
    refine ⟨h, by simp, ?_⟩
    intro a ha b hb e
    rw [List.mem_singleton] at hb
    subst hb
    subst e
    exact hk ha
theorem nodup_mergeR : ∀ {more acc : List (List Int)}, acc.Nodup → (mergeR acc more).Nodup
  | [], acc, h => h
  | k :: more, acc, h => nodup_mergeR (more := more) (nodup_addR h)
def dOf (rows : List (List Int)) : List (List Int × D) := rows.map fun r => (r, .bl true)
theorem put_dOf (acc : List (List Int)) (k : List Int) : putP (dOf acc) k (.bl true) = dOf (addR acc k) := by
  have e : ((dOf acc).any fun p => decide (p.1 = k)) = decide (k ∈ acc) := by
    unfold dOf
    rw [List.any_map]
    induction acc with
    | nil => simp
    | cons r acc ih =>
      rw [List.any_cons, ih]
      by_cases h : r = k
      · subst h; simp
      · have h' : ¬ k = r := fun z => h z.symm
        simp [h, h']
  unfold putP addR
  rw [e]
  by_cases h : k ∈ acc
  · rw [if_pos (decide_eq_true h), if_pos h]
    unfold dOf
    rw [List.map_map]
    apply List.map_congr_left
    intro r _
    show (if r = k then (r, D.bl true) else (r, D.bl true)) = _
    split <;> rfl
  · rw [if_neg (by rw [decide_eq_false h]; exact Bool.false_ne_true), if_neg h]
    unfold dOf
    rw [List.map_append]
    rfl
theorem merge_dOf : ∀ (more acc : List (List Int)), mergeP (dOf acc) (dOf more) = dOf (mergeR acc more)
  | [], _ => rfl
  | k :: more, acc => by
    show mergeP (putP (dOf acc) k (.bl true)) (dOf more) = dOf (mergeR (addR acc k) more)
    rw [put_dOf, merge_dOf more]
theorem pairsOf_rows : ∀ rows : List (List Int), pairsOf (rows.map fun r => .tup [rowD r, .bl true]) = some (dOf rows)
  | [] => rfl
  | r :: rows => by
    show (intsOf (r.map D.int)).bind (fun ks => (pairsOf (rows.map fun r => .tup [rowD r, .bl true])).map ((ks, D.bl true) :: ·)) = _
    rw [intsOf_ints, pairsOf_rows rows]
    rfl
theorem dctp_rows {rows : List (List Int)} (h : rows.length ≤ sizeLine) : dctpD (.lst (rows.map fun r => .tup [rowD r, .bl true])) = some (mdT (dOf (mergeR [] rows))) := by
  show (pairsOf _).bind (fun ps => if lenOk _ = true then some (mdT (mergeP [] ps)) else none) = _
  rw [pairsOf_rows]
  show (if lenOk _ = true then some (mdT (mergeP (dOf []) (dOf rows))) else none) = _
  rw [if_pos (by unfold lenOk; rw [decide_eq_true_eq, List.length_map]; exact h), merge_dOf]
theorem upd_rows {acc more : List (List Int)} (h : acc ≠ [] ∨ (more.map hashI).Nodup) (hl : acc.length + more.length ≤ sizeLine) : updD (mdT (dOf acc)) (dcT (dOf more)) = some (mdT (dOf (mergeR acc more))) := by
  unfold updD
  rw [decM_enc, decC_enc]
  show (if (dOf acc ≠ [] ∨ ((dOf more).map fun p => hashI p.1).Nodup) ∧ (dOf acc).length + (dOf more).length ≤ sizeLine then some (mdT (mergeP (dOf acc) (dOf more))) else none) = _
  rw [if_pos, merge_dOf]
  refine ⟨?_, by unfold dOf; rw [List.length_map, List.length_map]; exact hl⟩
  rcases h with h | h
  · exact .inl fun z => h (List.map_eq_nil_iff.mp z)
  · refine .inr ?_
    unfold dOf
    rw [List.map_map]
    exact h
theorem fz_enc : ∀ rows : List (List Int), D.fzs (encV (dOf rows)) = encV (dOf rows)
  | [] => rfl
  | r :: rows => by
    show D.tup (r.map D.int) :: D.bl true :: D.fzs (encV (dOf rows)) = _
    rw [fz_enc rows]
    rfl
theorem fz_mdT (rows : List (List Int)) : (mdT (dOf rows)).fz = dcT (dOf rows) := by
  show D.dct true (encK (dOf rows)) (D.fzs (encV (dOf rows))) = _
  rw [fz_enc]
  rfl
theorem keys_rows (rows : List (List Int)) : keysD (dcT (dOf rows)) = some (.mls (rowsD rows)) := by
  unfold keysD
  rw [decC_enc]
  show some (D.mls ((dOf rows).map fun p => .tup (p.1.map .int))) = _
  unfold dOf
  rw [List.map_map]
  rfl
theorem emp_rows (rows : List (List Int)) : empD (mdT (dOf rows)) = some rows.isEmpty := by
  unfold empD
  rw [decM_enc]
  cases rows <;> rfl
section
variable {C : Ctx} {G G1 G2 : GEnv} {e : Exp} {x : RV} {d m m' r : D} {i : Nat}
theorem ev_dctp (h : evE C e G = R.ok x G1) (h2 : take x G1 = some (d, G2)) (h3 : dctpD d = some r) : evE C (.dctp e) G = R.ok (.val r) G2 := by
  have q : evE C (.dctp e) G = (evE C e G).bind fun x G1 => match take x G1 with
    | some (d, G2) => lft (dctpD d) G2
    | none => .no := rfl
  rw [q, h, bind_ok, h2]
  show lft (dctpD d) G2 = _
  rw [h3]
  rfl
theorem ev_upd {kvs : List (List Int × D)} (h0 : getS G i = some (mdT kvs)) (h : evE C e G = R.ok x G1) (h2 : take x G1 = some (d, G2)) (h3 : getS G2 i = some m) (h4 : updD m d = some m') : evE C (.upd i e) G = R.ok (.val .non) (G2.set i (some m')) := by
  have q : evE C (.upd i e) G = (match getS G i with
    | some (.mdc true _ _) => (evE C e G).bind fun x G1 => (match take x G1 with
      | some (d, G2) => (match getS G2 i with
        | some m => (match updD m d with
          | some m' => .ok (.val .non) (G2.set i (some m'))
          | none => .no)
        | none => .no)
      | none => .no)
    | _ => .no) := rfl
  rw [q, h0]
  show (evE C e G).bind _ = _
  rw [h, bind_ok, h2]
  dsimp only
  rw [h3]
  dsimp only
  rw [h4]
end
end Dv
end
section
set_option Elab.async false
set_option linter.all false
set_option maxRecDepth 100000
set_option maxHeartbeats 4000000
/-! Q9 (k98): served, its loops. -/
namespace Dv
open PySem L2
def lefts (vs : List Int) (q : Int × List Int) (here : List Int) : List (List Int) := (rowsR vs (plusR here q.2) (dueR vs q.1 q.2)).map fun r => lessR (plusR here q.2) r
def stepD (vs : List Int) (q : Int × List Int) (acc : List (List Int)) (here : List Int) : List (List Int) := mergeR acc (mergeR [] (lefts vs q here))
theorem mem_steps {vs : List Int} {q : Int × List Int} {x : List Int} : ∀ {hs acc : List (List Int)}, x ∈ hs.foldl (stepD vs q) acc ↔ x ∈ acc ∨ ∃ h ∈ hs, x ∈ lefts vs q h
  | [], acc => by simp
  | h :: hs, acc => by
    rw [List.foldl_cons, mem_steps]
    unfold stepD
    rw [mem_mergeR, mem_mergeR]
    constructor
    · rintro ((a | a | a) | ⟨h', b, c⟩)
      · exact .inl a
      · cases a
      · exact .inr ⟨h, List.mem_cons_self, a⟩
      · exact .inr ⟨h', List.mem_cons_of_mem _ b, c⟩
    · rintro (a | ⟨h', b, c⟩)
      · exact .inl (.inl a)
      · rcases List.mem_cons.mp b with rfl | b
        · exact .inl (.inr (.inr c))
        · exact .inr ⟨h', b, c⟩
theorem nodup_steps {vs : List Int} {q : Int × List Int} : ∀ {hs acc : List (List Int)}, acc.Nodup → (hs.foldl (stepD vs q) acc).Nodup
  | [], acc, h => h
  | x :: hs, acc, h => nodup_steps (hs := hs) (nodup_mergeR h)
theorem left_ok {vs : List Int} (hv : vs ∈ chains) {B : Int} {here x : List Int} {q : Int × List Int} (hh : RowOk vs B here) (hq : SaleOk vs q) (hB : B ≤ 90) (hx : x ∈ lefts vs q here) : RowOk vs (B + 3) x := by
  obtain ⟨r, hr, rfl⟩ := List.mem_map.mp hx
  obtain ⟨h1, h2, h3, h4⟩ := sale_facts hv hh hq hB
  obtain ⟨a, b, c⟩ := (mem_rows vs hv _ _ _ h1).mp hr
  exact ⟨by rw [len_less (by rw [a, h1]), h1], less_box ⟨by rw [h1]; exact chain_len vs hv, by rw [a, h1]⟩ h4 b⟩
theorem RowOk.mono {vs : List Int} {B B' : Int} {r : List Int} (h : RowOk vs B r) (hb : B ≤ B') : RowOk vs B' r := ⟨h.len, h.box.mono hb⟩
def servedIn : Stas := (.cons (.set 8 (.call "_law_plus" (.cons (.var 7) (.cons (.ix (.var 5) (.int 1)) .nil)))) (.cons (.expr (.upd 6 (.dctp (.comp [9] (.name 9) (.seq (.call "_law_changes" (.cons (.var 0) (.cons (.var 7) (.cons (.var 5) .nil))))) .none (.tup (.cons (.call "_law_less" (.cons (.var 8) (.cons (.var 9) .nil))) (.cons (.bl true) .nil))))))) .nil))
structure SvC (C : Ctx) (vs : List Int) : Prop where
  pr : C.pr = (fun i => [false, false, false].getD i false)
  np : C.np = 3
  m1 : C.md "_law_plus" = [false, false]
  m2 : C.md "_law_changes" = [false, false, false]
  m3 : C.md "_law_less" = [false, false]
  c1 : ∀ a b : List Int, a.length = vs.length → b.length = vs.length → C.cal "_law_plus" [rowD a, rowD b] = .ret (rowD (plusR a b)) [rowD a, rowD b]
  c2 : ∀ (t : List Int) (q : Int × List Int), t.length = vs.length → q.2.length = vs.length → inBox 100 (plusR t q.2) → C.cal "_law_changes" [coin vs, rowD t, saleQ q] = .ret (.mls (rowsD (rowsR vs (plusR t q.2) (dueR vs q.1 q.2)))) [coin vs, rowD t, saleQ q]
  c3 : ∀ a b : List Int, a.length = vs.length → b.length = vs.length → C.cal "_law_less" [rowD a, rowD b] = .ret (rowD (lessR a b)) [rowD a, rowD b]
theorem in_step {C : Ctx} {vs : List Int} (hv : vs ∈ chains) (S : SvC C vs) {B : Int} {here : List Int} {q : Int × List Int} (hh : RowOk vs B here) (hq : SaleOk vs q) (hB : B + 3 ≤ 17) {acc : List (List Int)} (hn : acc.Nodup) (ha : ∀ r ∈ acc, RowOk vs 17 r) {x1 x2 x3 x4 x7 x8 : Option D} :
    (match asgG (.name 7) (rowD here) [some (coin vs), x1, x2, x3, x4, some (saleQ q), some (mdT (dOf acc)), x7, x8, none] with
      | none => R.no
      | some G => evSs C servedIn G) = .ok .nx [some (coin vs), x1, x2, x3, x4, some (saleQ q), some (mdT (dOf (stepD vs q acc here))), some (rowD here), some (rowD (plusR here q.2)), none] := by
  obtain ⟨h1, h2, h3, h4⟩ := sale_facts hv hh hq (by omega)
  have c1 := S.c1 here q.2 hh.len hq.len
  have c2 := S.c2 here q hh.len hq.len h2
  have hsz : sizeLine = 16777216 := rfl
  have ix1 : ixD (saleQ q) (.int 1) = some (rowD q.2) := rfl
  have hsf : (saleQ q).fz = saleQ q := rfl
  have zl : (vs.zip (plusR here q.2)).length ≤ 3 := by
    have := chain_len vs hv
    rw [List.length_zip, h1, Nat.min_self]; omega
  have hrl : (rowsR vs (plusR here q.2) (dueR vs q.1 q.2)).length ≤ 1000000 := len_rows h2 zl
  have hmem : ∀ r ∈ rowsR vs (plusR here q.2) (dueR vs q.1 q.2), r.length = vs.length := fun r hr => ((mem_rows vs hv _ _ _ h1).mp hr).1
  have hlo : ∀ x ∈ lefts vs q here, RowOk vs 17 x := fun x hx => (left_ok hv hh hq (by omega) hx).mono hB
  have hmn : (mergeR [] (lefts vs q here)).Nodup := nodup_mergeR List.nodup_nil
  have hmo : ∀ x ∈ mergeR [] (lefts vs q here), RowOk vs 17 x := fun x hx => by
    rcases mem_mergeR.mp hx with h | h
    · cases h
    · exact hlo x h
  have hl1 := len_box hv hmn hmo
  have hl2 := len_box hv hn ha
  have hhn : ((mergeR [] (lefts vs q here)).map hashI).Nodup := nodup_map_on hmn fun a ha b hb e => hash_apart hv (hmo a ha) (hmo b hb) e
  have hup : updD (mdT (dOf acc)) (dcT (dOf (mergeR [] (lefts vs q here)))) = some (mdT (dOf (stepD vs q acc here))) := upd_rows (.inr hhn) (by omega)
  have hdc : dctpD (.lst ((lefts vs q here).map fun r => .tup [rowD r, .bl true])) = some (mdT (dOf (mergeR [] (lefts vs q here)))) := dctp_rows (by unfold lefts; rw [List.length_map]; omega)
  have e0 : asgG (.name 7) (rowD here) [some (coin vs), x1, x2, x3, x4, some (saleQ q), some (mdT (dOf acc)), x7, x8, none] = some [some (coin vs), x1, x2, x3, x4, some (saleQ q), some (mdT (dOf acc)), some (rowD here), x8, none] := by simp [asgG]
  rw [e0]
  show evSs C servedIn _ = _
  rw [servedIn, seq_nx (G1 := [some (coin vs), x1, x2, x3, x4, some (saleQ q), some (mdT (dOf acc)), some (rowD here), some (rowD (plusR here q.2)), none]) (by
    simp [evSs, evS, evE, evEs, evT, evI, evO, bind_ok, lft_some, deref_val, deref_slot, getS_0, getS_s, derefs, takes, take, D.fz, own_val, own, retV, callE, passA, lentS, backA, asgG, asgsG, protT, protTs, List.tail_cons, c1, S.m1, S.pr, ix1])]
  have hi : evI C (.seq (.call "_law_changes" (.cons (.var 0) (.cons (.var 7) (.cons (.var 5) .nil))))) [some (coin vs), x1, x2, x3, x4, some (saleQ q), some (mdT (dOf acc)), some (rowD here), some (rowD (plusR here q.2)), none] = .ok ((rowsR vs (plusR here q.2) (dueR vs q.1 q.2)).map rowD) [some (coin vs), x1, x2, x3, x4, some (saleQ q), some (mdT (dOf acc)), some (rowD here), some (rowD (plusR here q.2)), none] := by
    have hfz : D.fzs (rowsD (rowsR vs (plusR here q.2) (dueR vs q.1 q.2))) = rowsD (rowsR vs (plusR here q.2) (dueR vs q.1 q.2)) := fzs_map (fun _ => rfl) _
    simp [evSs, evS, evE, evEs, evT, evI, evO, bind_ok, lft_some, deref_val, deref_slot, getS_0, getS_s, derefs, takes, take, D.fz, own_val, own, retV, callE, passA, lentS, backA, asgG, asgsG, protT, protTs, List.tail_cons, c2, S.m2, hsf, seqOf, hfz]
  have hcomp : evE C (.comp [9] (.name 9) (.seq (.call "_law_changes" (.cons (.var 0) (.cons (.var 7) (.cons (.var 5) .nil))))) .none (.tup (.cons (.call "_law_less" (.cons (.var 8) (.cons (.var 9) .nil))) (.cons (.bl true) .nil)))) [some (coin vs), x1, x2, x3, x4, some (saleQ q), some (mdT (dOf acc)), some (rowD here), some (rowD (plusR here q.2)), none] = .ok (.val (.mls ((lefts vs q here).map fun r => .tup [rowD r, .bl true]))) [some (coin vs), x1, x2, x3, x4, some (saleQ q), some (mdT (dOf acc)), some (rowD here), some (rowD (plusR here q.2)), none] := by
    rw [ev_comp0 (f := fun r => .tup [rowD (lessR (plusR here q.2) r), .bl true]) hi (fun r hr => ?_) (by omega)]
    · unfold lefts
      rw [List.map_map]
      rfl
    · have c3 := S.c3 (plusR here q.2) r h1 (hmem r hr)
      simp [compB, evSs, evS, evE, evEs, evT, evI, evO, bind_ok, lft_some, deref_val, deref_slot, getS_0, getS_s, derefs, takes, take, D.fz, own_val, own, retV, callE, passA, lentS, backA, asgG, asgsG, protT, protTs, List.tail_cons, c3, S.m3, lenOk, hsz, wipeG]
  have hfz2 : D.fzs ((lefts vs q here).map fun r => .tup [rowD r, .bl true]) = (lefts vs q here).map fun r => .tup [rowD r, .bl true] := fzs_map (fun _ => rfl) _
  have hd := ev_dctp hcomp (show take (.val (.mls ((lefts vs q here).map fun r => .tup [rowD r, .bl true]))) _ = some (.lst ((lefts vs q here).map fun r => .tup [rowD r, .bl true]), _) by
    show some (D.lst (D.fzs _), _) = _
    rw [hfz2]) hdc
  have hu := ev_upd (i := 6) (kvs := dOf acc) rfl hd (show take (.val (mdT (dOf (mergeR [] (lefts vs q here))))) _ = some (dcT (dOf (mergeR [] (lefts vs q here))), _) by
    show some ((mdT (dOf (mergeR [] (lefts vs q here)))).fz, _) = _
    rw [fz_mdT]) rfl hup
  have hx : ∀ (e : Exp) (G G1 : GEnv) (x : RV), evE C e G = .ok x G1 → evS C (.expr e) G = .ok .nx G1 := fun e G G1 x h => by
    show (evE C e G).bind _ = _
    rw [h]; rfl
  rw [seq_nx (hx _ _ _ _ hu)]
  rfl
theorem in_loop {C : Ctx} {vs : List Int} (hv : vs ∈ chains) (S : SvC C vs) {B : Int} {q : Int × List Int} (hq : SaleOk vs q) (hB : B + 3 ≤ 17) {x1 x2 x3 x4 : Option D} : ∀ (hs acc : List (List Int)) (x7 x8 : Option D), (∀ h ∈ hs, RowOk vs B h) → acc.Nodup → (∀ r ∈ acc, RowOk vs 17 r) →
    ∃ y7 y8, forL (fun d G => match asgG (.name 7) d G with
      | none => R.no
      | some G => evSs C servedIn G) (hs.map rowD) [some (coin vs), x1, x2, x3, x4, some (saleQ q), some (mdT (dOf acc)), x7, x8, none] = .ok .nx [some (coin vs), x1, x2, x3, x4, some (saleQ q), some (mdT (dOf (hs.foldl (stepD vs q) acc))), y7, y8, none]
  | [], acc, x7, x8, _, _, _ => ⟨x7, x8, rfl⟩
  | h :: hs, acc, x7, x8, hh, hn, ha => by
    have h1 := in_step hv S (hh h List.mem_cons_self) hq hB hn ha (x1 := x1) (x2 := x2) (x3 := x3) (x4 := x4) (x7 := x7) (x8 := x8)
    obtain ⟨y7, y8, e⟩ := in_loop hv S hq hB (x1 := x1) (x2 := x2) (x3 := x3) (x4 := x4) hs (stepD vs q acc h) (some (rowD h)) (some (rowD (plusR h q.2))) (fun z hz => hh z (List.mem_cons_of_mem _ hz)) (nodup_mergeR hn) (fun r hr => by
      rcases mem_mergeR.mp hr with hr | hr
      · exact ha r hr
      · rcases mem_mergeR.mp hr with hr | hr
        · cases hr
        · exact (left_ok hv (hh h List.mem_cons_self) hq (by omega) hr).mono hB)
    refine ⟨y7, y8, ?_⟩
    rw [List.map_cons, List.foldl_cons]
    refine Eq.trans (forL_nx ?_) e
    exact h1
def servedB : Stas := (.cons (.set 6 (.dnew true)) (.cons (.for_ (.name 7) (.seq (.var 3)) servedIn) (.cons (.ife (.emp (.var 6)) (.cons (.ret (.var 4)) .nil) .nil) (.cons (.set 3 (.keys (.var 6))) .nil))))
theorem served_loop {C : Ctx} {vs : List Int} (hv : vs ∈ chains) (S : SvC C vs) {x1 : Option D} {Sd : D} :
    ∀ (l : List (Int × List Int)) (t : List Int) (hs : List (List Int)) (B : Int) (k : Nat) (x4 x5 x6 x7 x8 : Option D), t ∈ hs → (∀ h ∈ hs, RowOk vs B h ∧ finR vs t h = true) → B + 3 * l.length ≤ 17 → (∀ q ∈ l, SaleOk vs q) →
    ∃ y3 y4 y5 y6 y7 y8, forL (fun d G => match asgG (.tup (.cons (.name 4) (.cons (.name 5) .nil))) d G with
      | none => .no
      | some G => evSs C servedB G) ((l.zipIdx k).map fun p => .tup [.int (p.2 : Nat), saleQ p.1]) [some (coin vs), x1, some Sd, some (.mls (rowsD hs)), x4, x5, x6, x7, x8, none] =
      if gN vs t l < l.length then .ok (.rt (.int ((k + gN vs t l : Nat) : Int))) [some (coin vs), x1, some Sd, y3, y4, y5, y6, y7, y8, none] else .ok .nx [some (coin vs), x1, some Sd, y3, y4, y5, y6, y7, y8, none]
  | [], t, hs, B, k, x4, x5, x6, x7, x8, _, _, _, _ => ⟨_, x4, x5, x6, x7, x8, rfl⟩
  | q :: l, t, hs, B, k, x4, x5, x6, x7, x8, hm, hh, hB, hl => by
    rw [List.length_cons] at hB
    have hq := hl q List.mem_cons_self
    have hsf : (saleQ q).fz = saleQ q := rfl
    have ht := (hh t hm).1
    obtain ⟨y7, y8, e⟩ := in_loop hv S hq (B := B) (by omega) (x1 := x1) (x2 := some Sd) (x3 := some (.lst (rowsD hs))) (x4 := some (.int (k : Nat))) hs [] x7 x8 (fun h hx => (hh h hx).1) List.nodup_nil (fun _ h => by cases h)
    have hfz : D.fzs (rowsD hs) = rowsD hs := fzs_map (fun _ => rfl) _
    rw [List.zipIdx_cons, List.map_cons]
    -- the inner loop
    have e0 : asgG (.tup (.cons (.name 4) (.cons (.name 5) .nil))) (.tup [.int (k : Nat), saleQ q]) [some (coin vs), x1, some Sd, some (.mls (rowsD hs)), x4, x5, x6, x7, x8, none] = some [some (coin vs), x1, some Sd, some (.mls (rowsD hs)), some (.int (k : Nat)), some (saleQ q), x6, x7, x8, none] := by simp [asgG, asgsG]
    have e1 : evS C (.set 6 (.dnew true)) [some (coin vs), x1, some Sd, some (.mls (rowsD hs)), some (.int (k : Nat)), some (saleQ q), x6, x7, x8, none] = .ok .nx [some (coin vs), x1, some Sd, some (.mls (rowsD hs)), some (.int (k : Nat)), some (saleQ q), some (mdT (dOf [])), x7, x8, none] := by
      simp [evS, evE, bind_ok, own, S.pr]
      rfl
    have hi : evI C (.seq (.var 3)) [some (coin vs), x1, some Sd, some (.mls (rowsD hs)), some (.int (k : Nat)), some (saleQ q), some (mdT (dOf [])), x7, x8, none] = .ok (hs.map rowD) [some (coin vs), x1, some Sd, some (.lst (rowsD hs)), some (.int (k : Nat)), some (saleQ q), some (mdT (dOf [])), x7, x8, none] := by
      simp [evSs, evS, evE, evEs, evT, evI, evO, bind_ok, lft_some, deref_val, deref_slot, getS_0, getS_s, derefs, takes, take, D.fz, own_val, own, retV, callE, passA, lentS, backA, asgG, asgsG, protT, protTs, List.tail_cons, seqOf, hfz]
    have e2 := (ev_for (C := C) (b := servedIn) (tg := .name 7) (by simp [protT, S.pr]) hi).trans e
    have hall : ∀ x ∈ hs.foldl (stepD vs q) [], ∃ h ∈ hs, x ∈ lefts vs q h := fun x hx => by
      rcases mem_steps.mp hx with h | h
      · cases h
      · exact h
    have hemp : evT C (.emp (.var 6)) [some (coin vs), x1, some Sd, some (.lst (rowsD hs)), some (.int (k : Nat)), some (saleQ q), some (mdT (dOf (hs.foldl (stepD vs q) []))), y7, y8, none] = .ok (hs.foldl (stepD vs q) []).isEmpty [some (coin vs), x1, some Sd, some (.lst (rowsD hs)), some (.int (k : Nat)), some (saleQ q), some (mdT (dOf (hs.foldl (stepD vs q) []))), y7, y8, none] := by
      have := emp_rows (hs.foldl (stepD vs q) [])
      simp [evT, evE, bind_ok, getS_0, getS_s, deref_slot, this]
    by_cases h0 : (gfR vs (plusR t q.2) (dueR vs q.1 q.2)).2 = 0
    · obtain ⟨m1', m2, m3⟩ := gf_mem hv ht hq (by omega) h0
      have hg : gN vs t (q :: l) = gN vs (lessR (plusR t q.2) (gfR vs (plusR t q.2) (dueR vs q.1 q.2)).1) l + 1 := if_pos h0
      have hin : lessR (plusR t q.2) (gfR vs (plusR t q.2) (dueR vs q.1 q.2)).1 ∈ hs.foldl (stepD vs q) [] := mem_steps.mpr (.inr ⟨t, hm, List.mem_map.mpr ⟨_, m1', rfl⟩⟩)
      have hnew : ∀ h ∈ hs.foldl (stepD vs q) [], RowOk vs (B + 3) h ∧ finR vs (lessR (plusR t q.2) (gfR vs (plusR t q.2) (dueR vs q.1 q.2)).1) h = true := by
        intro x hx
        obtain ⟨h, h1, h2⟩ := hall x hx
        refine ⟨left_ok hv (hh h h1).1 hq (by omega) h2, ?_⟩
        obtain ⟨r, hr, rfl⟩ := List.mem_map.mp h2
        exact (any_change hv ht (hh h h1).1 hq (by omega) (by omega) (hh h h1).2 hr).2.1
      rw [hg]
      have hne : (hs.foldl (stepD vs q) []).isEmpty = false := by
        cases hx : hs.foldl (stepD vs q) [] with
        | nil => rw [hx] at hin; cases hin
        | cons _ _ => rfl
      rw [hne] at hemp
      generalize lessR (plusR t q.2) (gfR vs (plusR t q.2) (dueR vs q.1 q.2)).1 = t2 at *
      generalize hs.foldl (stepD vs q) [] = hs2 at *
      obtain ⟨z3, z4, z5, z6, z7, z8, e5⟩ := served_loop hv S (x1 := x1) (Sd := Sd) l t2 hs2 (B + 3) (k + 1) (some (.int (k : Nat))) (some (saleQ q)) (some (dcT (dOf hs2))) y7 y8 hin hnew (by omega) (fun q hq => hl q (List.mem_cons_of_mem _ hq))
      refine ⟨z3, z4, z5, z6, z7, z8, ?_⟩
      have hlen : (gN vs t2 l + 1 < (q :: l).length) = (gN vs t2 l < l.length) := by rw [List.length_cons]; exact propext ⟨fun h => by omega, fun h => by omega⟩
      have hadd : k + (gN vs t2 l + 1) = k + 1 + gN vs t2 l := by omega
      rw [hadd]
      simp only [hlen]
      refine Eq.trans (forL_nx ?_) e5
      rw [e0]
      show evSs C servedB _ = _
      rw [servedB, seq_nx e1, seq_nx e2, seq_nx (by rw [ife_f hemp]; simp [evSs]; rfl)]
      have hk := keys_rows hs2
      have hf2 := fz_mdT hs2
      rw [seq_nx (G1 := [some (coin vs), x1, some Sd, some (.mls (rowsD hs2)), some (.int (k : Nat)), some (saleQ q), some (dcT (dOf hs2)), y7, y8, none]) (by
        simp [evS, evE, bind_ok, take, getS_0, getS_s, hf2, hk, lft_some, own, S.pr])]
      simp [evSs]
    · have hg : gN vs t (q :: l) = 0 := if_neg h0
      have hnil : hs.foldl (stepD vs q) [] = [] := by
        cases hx : hs.foldl (stepD vs q) [] with
        | nil => rfl
        | cons x xs =>
          obtain ⟨h, h1, h2⟩ := hall x (by rw [hx]; exact List.mem_cons_self)
          obtain ⟨r, hr, _⟩ := List.mem_map.mp h2
          exact absurd (any_change hv ht (hh h h1).1 hq (by omega) (by omega) (hh h h1).2 hr).1 h0
      rw [hg]
      rw [hnil] at hemp e2
      refine ⟨some (.lst (rowsD hs)), none, some (saleQ q), some (mdT (dOf [])), y7, y8, ?_⟩
      rw [if_pos (by rw [List.length_cons]; omega)]
      refine Eq.trans (forL_rt ?_) rfl
      rw [e0]
      show evSs C servedB _ = _
      rw [servedB, seq_nx e1, seq_nx e2]
      have q1 : ∀ (st : Sta) (r : Stas) (G G1 : GEnv) (d : D), evS C st G = .ok (.rt d) G1 → evSs C (.cons st r) G = .ok (.rt d) G1 := fun st r G G1 d h => by
        show (evS C st G).bind _ = _
        rw [h]; rfl
      refine q1 _ _ _ _ _ ?_
      rw [ife_t hemp]
      simp [evSs, evS, evE, evEs, evT, evI, evO, bind_ok, lft_some, deref_val, deref_slot, getS_0, getS_s, derefs, takes, take, D.fz, own_val, own, retV, callE, passA, lentS, backA, asgG, asgsG, protT, protTs, List.tail_cons, S.np]
theorem e_served {n : Nat} : ∀ vs ∈ chains, ∀ {B : Int} {t : List Int} {l : List (Int × List Int)}, RowOk vs B t → B + 3 * l.length ≤ 17 → (∀ q ∈ l, SaleOk vs q) → evF L98.pg (n + 4) "_law_served" [coin vs, rowD t, .lst (l.map saleQ)] = .ret (.int (gN vs t l : Nat)) [coin vs, rowD t, .lst (l.map saleQ)] := by
  intro vs hv B t l ht hB hl
  have hcl := chain_len vs hv
  have d1 : ∀ a b : List Int, a.length = vs.length → b.length = vs.length → evF L98.pg (n + 3) "_law_plus" [rowD a, rowD b] = .ret (rowD (plusR a b)) [rowD a, rowD b] := fun a b ha hb => e_lplus (n := n + 2) (by rw [ha]; exact hcl) (by rw [hb, ha])
  have d2 : ∀ (t : List Int) (q : Int × List Int), t.length = vs.length → q.2.length = vs.length → inBox 100 (plusR t q.2) → evF L98.pg (n + 3) "_law_changes" [coin vs, rowD t, saleQ q] = .ret (.mls (rowsD (rowsR vs (plusR t q.2) (dueR vs q.1 q.2)))) [coin vs, rowD t, saleQ q] := fun t q h1 h2 h3 => e_changes (n := n) vs hv t q.2 q.1 h1 h2 h3
  have d3 : ∀ a b : List Int, a.length = vs.length → b.length = vs.length → evF L98.pg (n + 3) "_law_less" [rowD a, rowD b] = .ret (rowD (lessR a b)) [rowD a, rowD b] := fun a b ha hb => e_lless (n := n + 2) (by rw [ha]; exact hcl) (by rw [hb, ha])
  have S : SvC ⟨evF L98.pg (n + 3), modes L98.pg, fun i => [false, false, false].getD i false, 3⟩ vs := ⟨rfl, rfl, md_law_plus, md_law_changes, md_law_less, by with_reducible exact d1, by with_reducible exact d2, by with_reducible exact d3⟩
  have key : ∀ C : Ctx, SvC C vs → ∃ y3 y4 y5 y6 y7 y8, evSs C L98.b__law_served [some (coin vs), some (rowD t), some (.lst (l.map saleQ)), none, none, none, none, none, none, none] = .ok (.rt (.int (gN vs t l : Nat))) [some (coin vs), some (rowD t), some (.lst (l.map saleQ)), y3, y4, y5, y6, y7, y8, none] := by
    intro C S
    have hsz : sizeLine = 16777216 := rfl
    have hen : on1 enumX [D.lst (l.map saleQ)] = some (.tup ((l.zipIdx 0).map fun p => .tup [.int (p.2 : Nat), saleQ p.1])) := by
      show some (D.tup (enumD (l.map saleQ))) = _
      unfold enumD
      rw [List.zipIdx_map, List.map_map]
      rfl
    have e0 : evS C (.set 3 (.lst (.cons (.var 1) .nil))) [some (coin vs), some (rowD t), some (.lst (l.map saleQ)), none, none, none, none, none, none, none] = .ok .nx [some (coin vs), some (rowD t), some (.lst (l.map saleQ)), some (.mls (rowsD [t])), none, none, none, none, none, none] := by
      simp [evSs, evS, evE, evEs, evT, evI, evO, bind_ok, lft_some, deref_val, deref_slot, getS_0, getS_s, derefs, takes, take, D.fz, own_val, own, retV, callE, passA, lentS, backA, asgG, asgsG, protT, protTs, List.tail_cons, S.pr, lenOk, hsz]
    have hi : evI C (.enum (.cons (.var 2) .nil)) [some (coin vs), some (rowD t), some (.lst (l.map saleQ)), some (.mls (rowsD [t])), none, none, none, none, none, none] = .ok ((l.zipIdx 0).map fun p => .tup [.int (p.2 : Nat), saleQ p.1]) [some (coin vs), some (rowD t), some (.lst (l.map saleQ)), some (.mls (rowsD [t])), none, none, none, none, none, none] := by
      simp [evSs, evS, evE, evEs, evT, evI, evO, bind_ok, lft_some, deref_val, deref_slot, getS_0, getS_s, derefs, takes, take, D.fz, own_val, own, retV, callE, passA, lentS, backA, asgG, asgsG, protT, protTs, List.tail_cons, hen]
    obtain ⟨y3, y4, y5, y6, y7, y8, e⟩ := served_loop hv S (x1 := some (rowD t)) (Sd := .lst (l.map saleQ)) l t [t] B 0 none none none none none (List.mem_singleton.mpr rfl) (fun h hm => by rw [List.mem_singleton] at hm; subst hm; exact ⟨ht, fin_refl vs hv h ht.len⟩) hB hl
    refine ⟨y3, y4, y5, y6, y7, y8, ?_⟩
    have e1 := (ev_for (b := servedB) (tg := (.tup (.cons (.name 4) (.cons (.name 5) .nil)))) (by simp [protT, protTs, S.pr]) hi).trans e
    rw [L98.b__law_served, seq_nx e0]
    by_cases hlt : gN vs t l < l.length
    · rw [if_pos hlt] at e1
      have q : ∀ (st : Sta) (r : Stas) (G G1 : GEnv) (d : D), evS C st G = .ok (.rt d) G1 → evSs C (.cons st r) G = .ok (.rt d) G1 := fun st r G G1 d h => by
        show (evS C st G).bind _ = _
        rw [h]; rfl
      rw [Nat.zero_add] at e1
      exact q _ _ _ _ _ e1
    · rw [if_neg hlt] at e1
      have hge := gN_le vs l t
      have heq : gN vs t l = l.length := by omega
      refine (seq_nx e1).trans ?_
      have hlen : biD .len [D.lst (l.map saleQ)] = some (.int (gN vs t l : Nat)) := by
        rw [heq]
        show some (D.int ((l.map saleQ).length : Nat)) = _
        rw [List.length_map]
      simp [evSs, evS, evE, evEs, evT, evI, evO, bind_ok, lft_some, deref_val, deref_slot, getS_0, getS_s, derefs, takes, take, D.fz, own_val, own, retV, callE, passA, lentS, backA, asgG, asgsG, protT, protTs, List.tail_cons, hlen]
  obtain ⟨y3, y4, y5, y6, y7, y8, hk⟩ := key _ S
  exact ev_run (fd := gd_law_served) lk_law_served rfl (by decide) hk rfl
end Dv
end
section
set_option Elab.async false
set_option linter.all false
set_option maxRecDepth 100000
set_option maxHeartbeats 4000000
/-! Q10 (k98): where a value does not divide the next one. Printed by parted98.py. -/
namespace Dv
open PySem L2
theorem e_rowsX {n : Nat} {vs W : List Int} {a : Int} (hl : vs.length = 2 ∨ vs.length = 3) (hv : ∀ v ∈ vs, v.natAbs < 2 ^ 64) (hW : W.length = vs.length) (hB : inBox 100 W) : evF L98.pg (n + 1) "_law_rows_worth" [coin vs, rowD W, .int a] = .ret (.mls (rowsD (rowsR vs W a))) [coin vs, rowD W, .int a] := by
  have hz : (vs.zip W).length = vs.length := by rw [List.length_zip, hW, Nat.min_self]
  refine ev_rows (M := 100) (PR := L98.pg) (n := n) lk_law_rows_worth ?_ hv hB ?_ (by decide) (by decide) ?_
  · intro h
    rw [h] at hz
    have : vs.length = 0 := hz.symm
    omega
  · rw [hz]
    rcases hl with h | h <;> rw [h] <;> decide
  · rw [hz]
    have : sizeLine = 16777216 := rfl
    omega
theorem eqD_rows_nil2 (rows : List (List Int)) : eqD (.mls (rowsD rows)) (.mls []) = some rows.isEmpty := eqD_rows_nil rows
theorem nil_of {vs W : List Int} {a : Int} (h : ∀ r, r ∉ rowsR vs W a) : (rowsR vs W a).isEmpty = true := by
  rw [List.eq_nil_iff_forall_not_mem.mpr h]; rfl
theorem ne_of {vs W : List Int} {a : Int} {r : List Int} (h : r ∈ rowsR vs W a) : (rowsR vs W a).isEmpty = false := by
  cases e : rowsR vs W a with
  | nil => rw [e] at h; cases h
  | cons _ _ => rfl
def parts : List (List Int) := [[2, 3], [2, 5], [3, 4], [1, 4, 6], [2, 4, 5]]
def partIn : Exp := .comp [12] (.name 12) (.seq (.tup (.cons (.ix (.var 1) (.bin .add (.var 9) (.int 1))) (.cons (.ix (.var 1) (.var 9)) .nil)))) .none (.cmp .ne (.call "_law_rows_worth" (.cons (.var 2) (.cons (.var 13) (.cons (.var 12) .nil)))) (.lst .nil))
def tlS : Stas → Stas
  | .cons _ r => r
  | .nil => .nil
theorem compB_ok {own : List Nat} {tg : Tgt} {fe : GEnv → R RV} {d d' : D} {G G1 G2 G3 : GEnv} {x : RV} (h1 : asgG tg d G = some G1) (h2 : fe G1 = R.ok x G2) (h3 : take x G2 = some (d', G3)) : compB own tg none fe d G = .ok (some d') (wipeG own G3) := by
  unfold compB
  rw [h1]
  show R.bind (fe G1) _ = _
  rw [h2]
  show (match take x G2 with
      | some (d, G3) => R.ok (some d) (wipeG own G3)
      | none => .no) = _
  rw [h3]
theorem part_nin5 {C : Ctx} {x0 x1 x6 x7 : Option D} {vs W one : List Int} {a : Int} {rs : List (List Int)} {r : GEnv} (m : C.md "_law_rows_worth" = [false, false, false]) (c0 : C.cal "_law_rows_worth" [coin vs, rowD W, .int a] = .ret (.mls (rowsD rs)) [coin vs, rowD W, .int a]) (i1 : inD (rowD one) (rowsD rs) = some true) :
    evT C (.cmp .nin (.var 5) (.call "_law_rows_worth" (.cons (.var 2) (.cons (.var 3) (.cons (.var 4) .nil))))) (x0 :: x1 :: some (coin vs) :: some (rowD W) :: some (.int a) :: some (rowD one) :: x6 :: x7 :: r) = .ok false (x0 :: x1 :: some (coin vs) :: some (rowD W) :: some (.int a) :: some (rowD one) :: x6 :: x7 :: r) := by
  simp [evSs, evS, evE, evEs, evT, evI, evO, bind_ok, lft_some, deref_val, deref_slot, getS_0, getS_s, derefs, takes, take, D.fz, own_val, own, retV, callE, passA, lentS, backA, asgG, asgsG, protT, protTs, List.tail_cons, c0, m, cmpD, i1]
theorem part_nin6 {C : Ctx} {x0 x1 x5 x7 : Option D} {vs W one : List Int} {a : Int} {rs : List (List Int)} {r : GEnv} (m : C.md "_law_rows_worth" = [false, false, false]) (c0 : C.cal "_law_rows_worth" [coin vs, rowD W, .int a] = .ret (.mls (rowsD rs)) [coin vs, rowD W, .int a]) (i1 : inD (rowD one) (rowsD rs) = some true) :
    evT C (.cmp .nin (.var 6) (.call "_law_rows_worth" (.cons (.var 2) (.cons (.var 3) (.cons (.var 4) .nil))))) (x0 :: x1 :: some (coin vs) :: some (rowD W) :: some (.int a) :: x5 :: some (rowD one) :: x7 :: r) = .ok false (x0 :: x1 :: some (coin vs) :: some (rowD W) :: some (.int a) :: x5 :: some (rowD one) :: x7 :: r) := by
  simp [evSs, evS, evE, evEs, evT, evI, evO, bind_ok, lft_some, deref_val, deref_slot, getS_0, getS_s, derefs, takes, take, D.fz, own_val, own, retV, callE, passA, lentS, backA, asgG, asgsG, protT, protTs, List.tail_cons, c0, m, cmpD, i1]
theorem part_in {C : Ctx} {x0 x3 x4 x5 x6 x7 : Option D} {vs l : List Int} {at_ v1 v2 : Int} {b1 b2 : Bool} {r1 r2 : List (List Int)} (m : C.md "_law_rows_worth" = [false, false, false]) (h1 : ixD (rowD vs) (.int (at_ + 1)) = some (.int v1)) (h2 : ixD (rowD vs) (.int at_) = some (.int v2))
    (c1 : C.cal "_law_rows_worth" [coin vs, rowD l, .int v1] = .ret (.mls (rowsD r1)) [coin vs, rowD l, .int v1]) (c2 : C.cal "_law_rows_worth" [coin vs, rowD l, .int v2] = .ret (.mls (rowsD r2)) [coin vs, rowD l, .int v2]) (hb1 : r1.isEmpty = !b1) (hb2 : r2.isEmpty = !b2) :
    evE C partIn [x0, some (rowD vs), some (coin vs), x3, x4, x5, x6, x7, none, some (.int at_), none, none, none, some (rowD l)] = .ok (.val (.mls [.bl b1, .bl b2])) [x0, some (rowD vs), some (coin vs), x3, x4, x5, x6, x7, none, some (.int at_), none, none, none, some (rowD l)] := by
  have hi : evI C (.seq (.tup (.cons (.ix (.var 1) (.bin .add (.var 9) (.int 1))) (.cons (.ix (.var 1) (.var 9)) .nil)))) [x0, some (rowD vs), some (coin vs), x3, x4, x5, x6, x7, none, some (.int at_), none, none, none, some (rowD l)] = .ok ([(v1, b1), (v2, b2)].map fun p => .int p.1) [x0, some (rowD vs), some (coin vs), x3, x4, x5, x6, x7, none, some (.int at_), none, none, none, some (rowD l)] := by
    have hsz : sizeLine = 16777216 := rfl
    simp [evSs, evS, evE, evEs, evT, evI, evO, bind_ok, lft_some, deref_val, deref_slot, getS_0, getS_s, derefs, takes, take, D.fz, own_val, own, retV, callE, passA, lentS, backA, asgG, asgsG, protT, protTs, List.tail_cons, binD_add, h1, h2, seqOf, lenOk, hsz]
  unfold partIn
  rw [ev_comp0 (f := fun p : Int × Bool => .bl p.2) hi (fun p hp => ?_) (show 2 ≤ sizeLine by decide)]
  · rfl
  · have e1 := eqD_rows_nil2 r1
    have e2 := eqD_rows_nil2 r2
    rw [hb1] at e1
    rw [hb2] at e2
    simp only [List.mem_cons, List.not_mem_nil, or_false] at hp
    rcases hp with rfl | rfl
    · simp [compB, evSs, evS, evE, evEs, evT, evI, evO, bind_ok, lft_some, deref_val, deref_slot, getS_0, getS_s, derefs, takes, take, D.fz, own_val, own, retV, callE, passA, lentS, backA, asgG, asgsG, protT, protTs, List.tail_cons, c1, m, lenOk, cmpD_ne, e1, wipeG]
    · simp [compB, evSs, evS, evE, evEs, evT, evI, evO, bind_ok, lft_some, deref_val, deref_slot, getS_0, getS_s, derefs, takes, take, D.fz, own_val, own, retV, callE, passA, lentS, backA, asgG, asgsG, protT, protTs, List.tail_cons, c2, m, lenOk, cmpD_ne, e2, wipeG]

theorem part_0 {n : Nat} (bag : D) : ∃ G, evSs ⟨evF L98.pg (n + 3), modes L98.pg, fun i => [true].getD i false, 1⟩ (tlS L98.b__law_parted_right) [some bag, some (rowD [2, 3]), none, none, none, none, none, none, none, none, none, none, none, none] = .ok (.rt (.bl true)) (some bag :: G) := by
  have m1 : [3, 0] ∈ rowsR [2, 3] [3, 2] 6 := (mem_rows2 (by decide) (by decide)).mpr ⟨3, 0, rfl, by decide, by decide, by decide, by decide, by decide⟩
  have m2 : [0, 2] ∈ rowsR [2, 3] [3, 2] 6 := (mem_rows2 (by decide) (by decide)).mpr ⟨0, 2, rfl, by decide, by decide, by decide, by decide, by decide⟩
  have q1 : (rowsR [2, 3] [0, 2] 3).isEmpty = !true := ne_of (r := [0, 1]) ((mem_rows2 (by decide) (by decide)).mpr ⟨0, 1, rfl, by decide, by decide, by decide, by decide, by decide⟩)
  have q2 : (rowsR [2, 3] [0, 2] 2).isEmpty = !false := nil_of fun r hr => by
    obtain ⟨x, y, _, h⟩ := (mem_rows2 (by decide) (by decide)).mp hr
    omega
  have q3 : (rowsR [2, 3] [3, 0] 3).isEmpty = !false := nil_of fun r hr => by
    obtain ⟨x, y, _, h⟩ := (mem_rows2 (by decide) (by decide)).mp hr
    omega
  have q4 : (rowsR [2, 3] [3, 0] 2).isEmpty = !true := ne_of (r := [1, 0]) ((mem_rows2 (by decide) (by decide)).mpr ⟨1, 0, rfl, by decide, by decide, by decide, by decide, by decide⟩)
  have k0 := e_rowsX (n := n + 2) (vs := [2, 3]) (W := [3, 2]) (a := 6) (by decide) (by decide) rfl (by unfold inBox; decide)
  have k1 := e_rowsX (n := n + 2) (vs := [2, 3]) (W := [0, 2]) (a := 3) (by decide) (by decide) rfl (by unfold inBox; decide)
  have k2 := e_rowsX (n := n + 2) (vs := [2, 3]) (W := [0, 2]) (a := 2) (by decide) (by decide) rfl (by unfold inBox; decide)
  have k3 := e_rowsX (n := n + 2) (vs := [2, 3]) (W := [3, 0]) (a := 3) (by decide) (by decide) rfl (by unfold inBox; decide)
  have k4 := e_rowsX (n := n + 2) (vs := [2, 3]) (W := [3, 0]) (a := 2) (by decide) (by decide) rfl (by unfold inBox; decide)
  have i1 := inD_rows [3, 0] (rowsR [2, 3] [3, 2] 6)
  have i2 := inD_rows [0, 2] (rowsR [2, 3] [3, 2] 6)
  rw [decide_eq_true m1] at i1
  rw [decide_eq_true m2] at i2
  obtain ⟨C, hC⟩ : ∃ C : Ctx, C = ⟨evF L98.pg (n + 3), modes L98.pg, fun i => [true].getD i false, 1⟩ := ⟨_, rfl⟩
  have hm : C.md "_law_rows_worth" = [false, false, false] := by rw [hC]; exact md_law_rows_worth
  have kk : ∀ {W : List Int} {x : Int} {rs : List (List Int)}, evF L98.pg (n + 3) "_law_rows_worth" [coin [2, 3], rowD W, .int x] = .ret (.mls (rowsD rs)) [coin [2, 3], rowD W, .int x] → C.cal "_law_rows_worth" [coin [2, 3], rowD W, .int x] = .ret (.mls (rowsD rs)) [coin [2, 3], rowD W, .int x] := fun {W x rs} h => by rw [hC]; with_reducible exact h
  have c0 := kk k0
  have c1 := kk k1
  have c2 := kk k2
  have c3 := kk k3
  have c4 := kk k4
  rw [← hC]
  have e2 : evS C (.set 2 (.tup (.cons (.var 1) (.cons (.bin .mul (.tup (.cons (.int 40) .nil)) (.bi .len (.cons (.var 1) .nil))) .nil)))) [some bag, some (rowD [2, 3]), none, none, none, none, none, none, none, none, none, none, none, none] = .ok .nx [some bag, some (rowD [2, 3]), some (coin [2, 3]), none, none, none, none, none, none, none, none, none, none, none] := by rw [hC]; kernel_rfl
  have e3 : evS C (.asg (.tup (.cons (.name 3) (.cons (.name 4) (.cons (.name 5) (.cons (.name 6) .nil))))) (.call "parting_rows" (.cons (.var 2) .nil))) [some bag, some (rowD [2, 3]), some (coin [2, 3]), none, none, none, none, none, none, none, none, none, none, none] = .ok .nx [some bag, some (rowD [2, 3]), some (coin [2, 3]), some (rowD [3, 2]), some (.int 6), some (rowD [3, 0]), some (rowD [0, 2]), none, none, none, none, none, none, none] := by rw [hC]; kernel_rfl
  have t1 : evT C (.cmp .eq (.var 5) (.var 6)) [some bag, some (rowD [2, 3]), some (coin [2, 3]), some (rowD [3, 2]), some (.int 6), some (rowD [3, 0]), some (rowD [0, 2]), none, none, none, none, none, none, none] = .ok false [some bag, some (rowD [2, 3]), some (coin [2, 3]), some (rowD [3, 2]), some (.int 6), some (rowD [3, 0]), some (rowD [0, 2]), none, none, none, none, none, none, none] := by rw [hC]; kernel_rfl
  have t2 : evT C (.cmp .nin (.var 5) (.call "_law_rows_worth" (.cons (.var 2) (.cons (.var 3) (.cons (.var 4) .nil))))) [some bag, some (rowD [2, 3]), some (coin [2, 3]), some (rowD [3, 2]), some (.int 6), some (rowD [3, 0]), some (rowD [0, 2]), none, none, none, none, none, none, none] = .ok false [some bag, some (rowD [2, 3]), some (coin [2, 3]), some (rowD [3, 2]), some (.int 6), some (rowD [3, 0]), some (rowD [0, 2]), none, none, none, none, none, none, none] := part_nin5 hm c0 i1
  have t3 : evT C (.cmp .nin (.var 6) (.call "_law_rows_worth" (.cons (.var 2) (.cons (.var 3) (.cons (.var 4) .nil))))) [some bag, some (rowD [2, 3]), some (coin [2, 3]), some (rowD [3, 2]), some (.int 6), some (rowD [3, 0]), some (rowD [0, 2]), none, none, none, none, none, none, none] = .ok false [some bag, some (rowD [2, 3]), some (coin [2, 3]), some (rowD [3, 2]), some (.int 6), some (rowD [3, 0]), some (rowD [0, 2]), none, none, none, none, none, none, none] := part_nin6 hm c0 i2
  have e4 : evS C (.ife (.or (.cmp .eq (.var 5) (.var 6)) (.or (.cmp .nin (.var 5) (.call "_law_rows_worth" (.cons (.var 2) (.cons (.var 3) (.cons (.var 4) .nil))))) (.cmp .nin (.var 6) (.call "_law_rows_worth" (.cons (.var 2) (.cons (.var 3) (.cons (.var 4) .nil))))))) (.cons (.ret (.bl false)) .nil) .nil) [some bag, some (rowD [2, 3]), some (coin [2, 3]), some (rowD [3, 2]), some (.int 6), some (rowD [3, 0]), some (rowD [0, 2]), none, none, none, none, none, none, none] = .ok .nx [some bag, some (rowD [2, 3]), some (coin [2, 3]), some (rowD [3, 2]), some (.int 6), some (rowD [3, 0]), some (rowD [0, 2]), none, none, none, none, none, none, none] := by
    rw [ife_f (evt_or_f t1 (evt_or_f t2 t3))]
    simp [evSs]
  have e7 : evS C (.set 7 (.comp [8] (.name 8) (.seq (.tup (.cons (.var 5) (.cons (.var 6) .nil)))) .none (.call "_law_less" (.cons (.var 3) (.cons (.var 8) .nil))))) [some bag, some (rowD [2, 3]), some (coin [2, 3]), some (rowD [3, 2]), some (.int 6), some (rowD [3, 0]), some (rowD [0, 2]), none, none, none, none, none, none, none] = .ok .nx [some bag, some (rowD [2, 3]), some (coin [2, 3]), some (rowD [3, 2]), some (.int 6), some (rowD [3, 0]), some (rowD [0, 2]), some (.mls (rowsD [[0, 2], [3, 0]])), none, none, none, none, none, none] := by rw [hC]; kernel_rfl
  have e9 : evS C (.set 9 (.ix (.comp [10] (.name 10) (.range (.cons (.bin .sub (.bi .len (.cons (.var 1) .nil)) (.int 1)) .nil)) (.some (.cmp .ne (.bin .mod (.ix (.var 1) (.bin .add (.var 10) (.int 1))) (.ix (.var 1) (.var 10))) (.int 0))) (.var 10)) (.int 0))) [some bag, some (rowD [2, 3]), some (coin [2, 3]), some (rowD [3, 2]), some (.int 6), some (rowD [3, 0]), some (rowD [0, 2]), some (.mls (rowsD [[0, 2], [3, 0]])), none, none, none, none, none, none] = .ok .nx [some bag, some (rowD [2, 3]), some (coin [2, 3]), some (rowD [3, 2]), some (.int 6), some (rowD [3, 0]), some (rowD [0, 2]), some (.mls (rowsD [[0, 2], [3, 0]])), none, some (.int 0), none, none, none, none] := by rw [hC]; kernel_rfl
  have g1 := part_in (C := C) (x0 := some bag) (x3 := some (rowD [3, 2])) (x4 := some (.int 6)) (x5 := some (rowD [3, 0])) (x6 := some (rowD [0, 2])) (x7 := some (.lst (rowsD [[0, 2], [3, 0]]))) (vs := [2, 3]) (l := [0, 2]) (at_ := 0) hm rfl rfl c1 c2 q1 q2
  have g2 := part_in (C := C) (x0 := some bag) (x3 := some (rowD [3, 2])) (x4 := some (.int 6)) (x5 := some (rowD [3, 0])) (x6 := some (rowD [0, 2])) (x7 := some (.lst (rowsD [[0, 2], [3, 0]]))) (vs := [2, 3]) (l := [3, 0]) (at_ := 0) hm rfl rfl c3 c4 q3 q4
  have hi : evI C (.seq (.var 7)) [some bag, some (rowD [2, 3]), some (coin [2, 3]), some (rowD [3, 2]), some (.int 6), some (rowD [3, 0]), some (rowD [0, 2]), some (.mls (rowsD [[0, 2], [3, 0]])), none, some (.int 0), none, none, none, none] = .ok ([([0, 2], true), ([3, 0], false)].map fun p => rowD p.1) [some bag, some (rowD [2, 3]), some (coin [2, 3]), some (rowD [3, 2]), some (.int 6), some (rowD [3, 0]), some (rowD [0, 2]), some (.lst (rowsD [[0, 2], [3, 0]])), none, some (.int 0), none, none, none, none] := by rw [hC]; kernel_rfl
  have hpr : C.pr 11 = false := by rw [hC]; rfl
  have e11 : evS C (.set 11 (.comp [13] (.name 13) (.seq (.var 7)) .none partIn)) [some bag, some (rowD [2, 3]), some (coin [2, 3]), some (rowD [3, 2]), some (.int 6), some (rowD [3, 0]), some (rowD [0, 2]), some (.mls (rowsD [[0, 2], [3, 0]])), none, some (.int 0), none, none, none, none] = .ok .nx [some bag, some (rowD [2, 3]), some (coin [2, 3]), some (rowD [3, 2]), some (.int 6), some (rowD [3, 0]), some (rowD [0, 2]), some (.lst (rowsD [[0, 2], [3, 0]])), none, some (.int 0), none, some (.mls [.lst [.bl true, .bl false], .lst [.bl false, .bl true]]), none, none] := by
    refine ev_set (x := .val (.mls [.lst [.bl true, .bl false], .lst [.bl false, .bl true]])) (G1 := [some bag, some (rowD [2, 3]), some (coin [2, 3]), some (rowD [3, 2]), some (.int 6), some (rowD [3, 0]), some (rowD [0, 2]), some (.lst (rowsD [[0, 2], [3, 0]])), none, some (.int 0), none, none, none, none]) (G2 := [some bag, some (rowD [2, 3]), some (coin [2, 3]), some (rowD [3, 2]), some (.int 6), some (rowD [3, 0]), some (rowD [0, 2]), some (.lst (rowsD [[0, 2], [3, 0]])), none, some (.int 0), none, none, none, none]) hpr ?_ rfl (show 11 < 14 by decide)
    rw [ev_comp0 (f := fun p : List Int × Bool => .lst [.bl p.2, .bl (!p.2)]) hi (fun p hp => ?_) (show 2 ≤ sizeLine by decide)]
    · rfl
    · simp only [List.mem_cons, List.not_mem_nil, or_false] at hp
      rcases hp with rfl | rfl
      · exact Eq.trans (compB_ok rfl g1 rfl) rfl
      · exact Eq.trans (compB_ok rfl g2 rfl) rfl
  have er : evSs C (.cons (.ret (.cmp .eq (.var 11) (.lst (.cons (.lst (.cons (.bl true) (.cons (.bl false) .nil))) (.cons (.lst (.cons (.bl false) (.cons (.bl true) .nil))) .nil))))) .nil) [some bag, some (rowD [2, 3]), some (coin [2, 3]), some (rowD [3, 2]), some (.int 6), some (rowD [3, 0]), some (rowD [0, 2]), some (.lst (rowsD [[0, 2], [3, 0]])), none, some (.int 0), none, some (.mls [.lst [.bl true, .bl false], .lst [.bl false, .bl true]]), none, none] = .ok (.rt (.bl true)) [some bag, some (rowD [2, 3]), some (coin [2, 3]), some (rowD [3, 2]), some (.int 6), some (rowD [3, 0]), some (rowD [0, 2]), some (.lst (rowsD [[0, 2], [3, 0]])), none, some (.int 0), none, some (.mls [.lst [.bl true, .bl false], .lst [.bl false, .bl true]]), none, none] := by rw [hC]; kernel_rfl
  refine ⟨_, (seq_nx e2).trans ((seq_nx e3).trans ((seq_nx e4).trans ((seq_nx e7).trans ((seq_nx e9).trans ((seq_nx e11).trans er)))))⟩
theorem part_1 {n : Nat} (bag : D) : ∃ G, evSs ⟨evF L98.pg (n + 3), modes L98.pg, fun i => [true].getD i false, 1⟩ (tlS L98.b__law_parted_right) [some bag, some (rowD [2, 5]), none, none, none, none, none, none, none, none, none, none, none, none] = .ok (.rt (.bl true)) (some bag :: G) := by
  have m1 : [5, 0] ∈ rowsR [2, 5] [5, 2] 10 := (mem_rows2 (by decide) (by decide)).mpr ⟨5, 0, rfl, by decide, by decide, by decide, by decide, by decide⟩
  have m2 : [0, 2] ∈ rowsR [2, 5] [5, 2] 10 := (mem_rows2 (by decide) (by decide)).mpr ⟨0, 2, rfl, by decide, by decide, by decide, by decide, by decide⟩
  have q1 : (rowsR [2, 5] [0, 2] 5).isEmpty = !true := ne_of (r := [0, 1]) ((mem_rows2 (by decide) (by decide)).mpr ⟨0, 1, rfl, by decide, by decide, by decide, by decide, by decide⟩)
  have q2 : (rowsR [2, 5] [0, 2] 2).isEmpty = !false := nil_of fun r hr => by
    obtain ⟨x, y, _, h⟩ := (mem_rows2 (by decide) (by decide)).mp hr
    omega
  have q3 : (rowsR [2, 5] [5, 0] 5).isEmpty = !false := nil_of fun r hr => by
    obtain ⟨x, y, _, h⟩ := (mem_rows2 (by decide) (by decide)).mp hr
    omega
  have q4 : (rowsR [2, 5] [5, 0] 2).isEmpty = !true := ne_of (r := [1, 0]) ((mem_rows2 (by decide) (by decide)).mpr ⟨1, 0, rfl, by decide, by decide, by decide, by decide, by decide⟩)
  have k0 := e_rowsX (n := n + 2) (vs := [2, 5]) (W := [5, 2]) (a := 10) (by decide) (by decide) rfl (by unfold inBox; decide)
  have k1 := e_rowsX (n := n + 2) (vs := [2, 5]) (W := [0, 2]) (a := 5) (by decide) (by decide) rfl (by unfold inBox; decide)
  have k2 := e_rowsX (n := n + 2) (vs := [2, 5]) (W := [0, 2]) (a := 2) (by decide) (by decide) rfl (by unfold inBox; decide)
  have k3 := e_rowsX (n := n + 2) (vs := [2, 5]) (W := [5, 0]) (a := 5) (by decide) (by decide) rfl (by unfold inBox; decide)
  have k4 := e_rowsX (n := n + 2) (vs := [2, 5]) (W := [5, 0]) (a := 2) (by decide) (by decide) rfl (by unfold inBox; decide)
  have i1 := inD_rows [5, 0] (rowsR [2, 5] [5, 2] 10)
  have i2 := inD_rows [0, 2] (rowsR [2, 5] [5, 2] 10)
  rw [decide_eq_true m1] at i1
  rw [decide_eq_true m2] at i2
  obtain ⟨C, hC⟩ : ∃ C : Ctx, C = ⟨evF L98.pg (n + 3), modes L98.pg, fun i => [true].getD i false, 1⟩ := ⟨_, rfl⟩
  have hm : C.md "_law_rows_worth" = [false, false, false] := by rw [hC]; exact md_law_rows_worth
  have kk : ∀ {W : List Int} {x : Int} {rs : List (List Int)}, evF L98.pg (n + 3) "_law_rows_worth" [coin [2, 5], rowD W, .int x] = .ret (.mls (rowsD rs)) [coin [2, 5], rowD W, .int x] → C.cal "_law_rows_worth" [coin [2, 5], rowD W, .int x] = .ret (.mls (rowsD rs)) [coin [2, 5], rowD W, .int x] := fun {W x rs} h => by rw [hC]; with_reducible exact h
  have c0 := kk k0
  have c1 := kk k1
  have c2 := kk k2
  have c3 := kk k3
  have c4 := kk k4
  rw [← hC]
  have e2 : evS C (.set 2 (.tup (.cons (.var 1) (.cons (.bin .mul (.tup (.cons (.int 40) .nil)) (.bi .len (.cons (.var 1) .nil))) .nil)))) [some bag, some (rowD [2, 5]), none, none, none, none, none, none, none, none, none, none, none, none] = .ok .nx [some bag, some (rowD [2, 5]), some (coin [2, 5]), none, none, none, none, none, none, none, none, none, none, none] := by rw [hC]; kernel_rfl
  have e3 : evS C (.asg (.tup (.cons (.name 3) (.cons (.name 4) (.cons (.name 5) (.cons (.name 6) .nil))))) (.call "parting_rows" (.cons (.var 2) .nil))) [some bag, some (rowD [2, 5]), some (coin [2, 5]), none, none, none, none, none, none, none, none, none, none, none] = .ok .nx [some bag, some (rowD [2, 5]), some (coin [2, 5]), some (rowD [5, 2]), some (.int 10), some (rowD [5, 0]), some (rowD [0, 2]), none, none, none, none, none, none, none] := by rw [hC]; kernel_rfl
  have t1 : evT C (.cmp .eq (.var 5) (.var 6)) [some bag, some (rowD [2, 5]), some (coin [2, 5]), some (rowD [5, 2]), some (.int 10), some (rowD [5, 0]), some (rowD [0, 2]), none, none, none, none, none, none, none] = .ok false [some bag, some (rowD [2, 5]), some (coin [2, 5]), some (rowD [5, 2]), some (.int 10), some (rowD [5, 0]), some (rowD [0, 2]), none, none, none, none, none, none, none] := by rw [hC]; kernel_rfl
  have t2 : evT C (.cmp .nin (.var 5) (.call "_law_rows_worth" (.cons (.var 2) (.cons (.var 3) (.cons (.var 4) .nil))))) [some bag, some (rowD [2, 5]), some (coin [2, 5]), some (rowD [5, 2]), some (.int 10), some (rowD [5, 0]), some (rowD [0, 2]), none, none, none, none, none, none, none] = .ok false [some bag, some (rowD [2, 5]), some (coin [2, 5]), some (rowD [5, 2]), some (.int 10), some (rowD [5, 0]), some (rowD [0, 2]), none, none, none, none, none, none, none] := part_nin5 hm c0 i1
  have t3 : evT C (.cmp .nin (.var 6) (.call "_law_rows_worth" (.cons (.var 2) (.cons (.var 3) (.cons (.var 4) .nil))))) [some bag, some (rowD [2, 5]), some (coin [2, 5]), some (rowD [5, 2]), some (.int 10), some (rowD [5, 0]), some (rowD [0, 2]), none, none, none, none, none, none, none] = .ok false [some bag, some (rowD [2, 5]), some (coin [2, 5]), some (rowD [5, 2]), some (.int 10), some (rowD [5, 0]), some (rowD [0, 2]), none, none, none, none, none, none, none] := part_nin6 hm c0 i2
  have e4 : evS C (.ife (.or (.cmp .eq (.var 5) (.var 6)) (.or (.cmp .nin (.var 5) (.call "_law_rows_worth" (.cons (.var 2) (.cons (.var 3) (.cons (.var 4) .nil))))) (.cmp .nin (.var 6) (.call "_law_rows_worth" (.cons (.var 2) (.cons (.var 3) (.cons (.var 4) .nil))))))) (.cons (.ret (.bl false)) .nil) .nil) [some bag, some (rowD [2, 5]), some (coin [2, 5]), some (rowD [5, 2]), some (.int 10), some (rowD [5, 0]), some (rowD [0, 2]), none, none, none, none, none, none, none] = .ok .nx [some bag, some (rowD [2, 5]), some (coin [2, 5]), some (rowD [5, 2]), some (.int 10), some (rowD [5, 0]), some (rowD [0, 2]), none, none, none, none, none, none, none] := by
    rw [ife_f (evt_or_f t1 (evt_or_f t2 t3))]
    simp [evSs]
  have e7 : evS C (.set 7 (.comp [8] (.name 8) (.seq (.tup (.cons (.var 5) (.cons (.var 6) .nil)))) .none (.call "_law_less" (.cons (.var 3) (.cons (.var 8) .nil))))) [some bag, some (rowD [2, 5]), some (coin [2, 5]), some (rowD [5, 2]), some (.int 10), some (rowD [5, 0]), some (rowD [0, 2]), none, none, none, none, none, none, none] = .ok .nx [some bag, some (rowD [2, 5]), some (coin [2, 5]), some (rowD [5, 2]), some (.int 10), some (rowD [5, 0]), some (rowD [0, 2]), some (.mls (rowsD [[0, 2], [5, 0]])), none, none, none, none, none, none] := by rw [hC]; kernel_rfl
  have e9 : evS C (.set 9 (.ix (.comp [10] (.name 10) (.range (.cons (.bin .sub (.bi .len (.cons (.var 1) .nil)) (.int 1)) .nil)) (.some (.cmp .ne (.bin .mod (.ix (.var 1) (.bin .add (.var 10) (.int 1))) (.ix (.var 1) (.var 10))) (.int 0))) (.var 10)) (.int 0))) [some bag, some (rowD [2, 5]), some (coin [2, 5]), some (rowD [5, 2]), some (.int 10), some (rowD [5, 0]), some (rowD [0, 2]), some (.mls (rowsD [[0, 2], [5, 0]])), none, none, none, none, none, none] = .ok .nx [some bag, some (rowD [2, 5]), some (coin [2, 5]), some (rowD [5, 2]), some (.int 10), some (rowD [5, 0]), some (rowD [0, 2]), some (.mls (rowsD [[0, 2], [5, 0]])), none, some (.int 0), none, none, none, none] := by rw [hC]; kernel_rfl
  have g1 := part_in (C := C) (x0 := some bag) (x3 := some (rowD [5, 2])) (x4 := some (.int 10)) (x5 := some (rowD [5, 0])) (x6 := some (rowD [0, 2])) (x7 := some (.lst (rowsD [[0, 2], [5, 0]]))) (vs := [2, 5]) (l := [0, 2]) (at_ := 0) hm rfl rfl c1 c2 q1 q2
  have g2 := part_in (C := C) (x0 := some bag) (x3 := some (rowD [5, 2])) (x4 := some (.int 10)) (x5 := some (rowD [5, 0])) (x6 := some (rowD [0, 2])) (x7 := some (.lst (rowsD [[0, 2], [5, 0]]))) (vs := [2, 5]) (l := [5, 0]) (at_ := 0) hm rfl rfl c3 c4 q3 q4
  have hi : evI C (.seq (.var 7)) [some bag, some (rowD [2, 5]), some (coin [2, 5]), some (rowD [5, 2]), some (.int 10), some (rowD [5, 0]), some (rowD [0, 2]), some (.mls (rowsD [[0, 2], [5, 0]])), none, some (.int 0), none, none, none, none] = .ok ([([0, 2], true), ([5, 0], false)].map fun p => rowD p.1) [some bag, some (rowD [2, 5]), some (coin [2, 5]), some (rowD [5, 2]), some (.int 10), some (rowD [5, 0]), some (rowD [0, 2]), some (.lst (rowsD [[0, 2], [5, 0]])), none, some (.int 0), none, none, none, none] := by rw [hC]; kernel_rfl
  have hpr : C.pr 11 = false := by rw [hC]; rfl
  have e11 : evS C (.set 11 (.comp [13] (.name 13) (.seq (.var 7)) .none partIn)) [some bag, some (rowD [2, 5]), some (coin [2, 5]), some (rowD [5, 2]), some (.int 10), some (rowD [5, 0]), some (rowD [0, 2]), some (.mls (rowsD [[0, 2], [5, 0]])), none, some (.int 0), none, none, none, none] = .ok .nx [some bag, some (rowD [2, 5]), some (coin [2, 5]), some (rowD [5, 2]), some (.int 10), some (rowD [5, 0]), some (rowD [0, 2]), some (.lst (rowsD [[0, 2], [5, 0]])), none, some (.int 0), none, some (.mls [.lst [.bl true, .bl false], .lst [.bl false, .bl true]]), none, none] := by
    refine ev_set (x := .val (.mls [.lst [.bl true, .bl false], .lst [.bl false, .bl true]])) (G1 := [some bag, some (rowD [2, 5]), some (coin [2, 5]), some (rowD [5, 2]), some (.int 10), some (rowD [5, 0]), some (rowD [0, 2]), some (.lst (rowsD [[0, 2], [5, 0]])), none, some (.int 0), none, none, none, none]) (G2 := [some bag, some (rowD [2, 5]), some (coin [2, 5]), some (rowD [5, 2]), some (.int 10), some (rowD [5, 0]), some (rowD [0, 2]), some (.lst (rowsD [[0, 2], [5, 0]])), none, some (.int 0), none, none, none, none]) hpr ?_ rfl (show 11 < 14 by decide)
    rw [ev_comp0 (f := fun p : List Int × Bool => .lst [.bl p.2, .bl (!p.2)]) hi (fun p hp => ?_) (show 2 ≤ sizeLine by decide)]
    · rfl
    · simp only [List.mem_cons, List.not_mem_nil, or_false] at hp
      rcases hp with rfl | rfl
      · exact Eq.trans (compB_ok rfl g1 rfl) rfl
      · exact Eq.trans (compB_ok rfl g2 rfl) rfl
  have er : evSs C (.cons (.ret (.cmp .eq (.var 11) (.lst (.cons (.lst (.cons (.bl true) (.cons (.bl false) .nil))) (.cons (.lst (.cons (.bl false) (.cons (.bl true) .nil))) .nil))))) .nil) [some bag, some (rowD [2, 5]), some (coin [2, 5]), some (rowD [5, 2]), some (.int 10), some (rowD [5, 0]), some (rowD [0, 2]), some (.lst (rowsD [[0, 2], [5, 0]])), none, some (.int 0), none, some (.mls [.lst [.bl true, .bl false], .lst [.bl false, .bl true]]), none, none] = .ok (.rt (.bl true)) [some bag, some (rowD [2, 5]), some (coin [2, 5]), some (rowD [5, 2]), some (.int 10), some (rowD [5, 0]), some (rowD [0, 2]), some (.lst (rowsD [[0, 2], [5, 0]])), none, some (.int 0), none, some (.mls [.lst [.bl true, .bl false], .lst [.bl false, .bl true]]), none, none] := by rw [hC]; kernel_rfl
  refine ⟨_, (seq_nx e2).trans ((seq_nx e3).trans ((seq_nx e4).trans ((seq_nx e7).trans ((seq_nx e9).trans ((seq_nx e11).trans er)))))⟩
theorem part_2 {n : Nat} (bag : D) : ∃ G, evSs ⟨evF L98.pg (n + 3), modes L98.pg, fun i => [true].getD i false, 1⟩ (tlS L98.b__law_parted_right) [some bag, some (rowD [3, 4]), none, none, none, none, none, none, none, none, none, none, none, none] = .ok (.rt (.bl true)) (some bag :: G) := by
  have m1 : [4, 0] ∈ rowsR [3, 4] [4, 3] 12 := (mem_rows2 (by decide) (by decide)).mpr ⟨4, 0, rfl, by decide, by decide, by decide, by decide, by decide⟩
  have m2 : [0, 3] ∈ rowsR [3, 4] [4, 3] 12 := (mem_rows2 (by decide) (by decide)).mpr ⟨0, 3, rfl, by decide, by decide, by decide, by decide, by decide⟩
  have q1 : (rowsR [3, 4] [0, 3] 4).isEmpty = !true := ne_of (r := [0, 1]) ((mem_rows2 (by decide) (by decide)).mpr ⟨0, 1, rfl, by decide, by decide, by decide, by decide, by decide⟩)
  have q2 : (rowsR [3, 4] [0, 3] 3).isEmpty = !false := nil_of fun r hr => by
    obtain ⟨x, y, _, h⟩ := (mem_rows2 (by decide) (by decide)).mp hr
    omega
  have q3 : (rowsR [3, 4] [4, 0] 4).isEmpty = !false := nil_of fun r hr => by
    obtain ⟨x, y, _, h⟩ := (mem_rows2 (by decide) (by decide)).mp hr
    omega
  have q4 : (rowsR [3, 4] [4, 0] 3).isEmpty = !true := ne_of (r := [1, 0]) ((mem_rows2 (by decide) (by decide)).mpr ⟨1, 0, rfl, by decide, by decide, by decide, by decide, by decide⟩)
  have k0 := e_rowsX (n := n + 2) (vs := [3, 4]) (W := [4, 3]) (a := 12) (by decide) (by decide) rfl (by unfold inBox; decide)
  have k1 := e_rowsX (n := n + 2) (vs := [3, 4]) (W := [0, 3]) (a := 4) (by decide) (by decide) rfl (by unfold inBox; decide)
  have k2 := e_rowsX (n := n + 2) (vs := [3, 4]) (W := [0, 3]) (a := 3) (by decide) (by decide) rfl (by unfold inBox; decide)
  have k3 := e_rowsX (n := n + 2) (vs := [3, 4]) (W := [4, 0]) (a := 4) (by decide) (by decide) rfl (by unfold inBox; decide)
  have k4 := e_rowsX (n := n + 2) (vs := [3, 4]) (W := [4, 0]) (a := 3) (by decide) (by decide) rfl (by unfold inBox; decide)
  have i1 := inD_rows [4, 0] (rowsR [3, 4] [4, 3] 12)
  have i2 := inD_rows [0, 3] (rowsR [3, 4] [4, 3] 12)
  rw [decide_eq_true m1] at i1
  rw [decide_eq_true m2] at i2
  obtain ⟨C, hC⟩ : ∃ C : Ctx, C = ⟨evF L98.pg (n + 3), modes L98.pg, fun i => [true].getD i false, 1⟩ := ⟨_, rfl⟩
  have hm : C.md "_law_rows_worth" = [false, false, false] := by rw [hC]; exact md_law_rows_worth
  have kk : ∀ {W : List Int} {x : Int} {rs : List (List Int)}, evF L98.pg (n + 3) "_law_rows_worth" [coin [3, 4], rowD W, .int x] = .ret (.mls (rowsD rs)) [coin [3, 4], rowD W, .int x] → C.cal "_law_rows_worth" [coin [3, 4], rowD W, .int x] = .ret (.mls (rowsD rs)) [coin [3, 4], rowD W, .int x] := fun {W x rs} h => by rw [hC]; with_reducible exact h
  have c0 := kk k0
  have c1 := kk k1
  have c2 := kk k2
  have c3 := kk k3
  have c4 := kk k4
  rw [← hC]
  have e2 : evS C (.set 2 (.tup (.cons (.var 1) (.cons (.bin .mul (.tup (.cons (.int 40) .nil)) (.bi .len (.cons (.var 1) .nil))) .nil)))) [some bag, some (rowD [3, 4]), none, none, none, none, none, none, none, none, none, none, none, none] = .ok .nx [some bag, some (rowD [3, 4]), some (coin [3, 4]), none, none, none, none, none, none, none, none, none, none, none] := by rw [hC]; kernel_rfl
  have e3 : evS C (.asg (.tup (.cons (.name 3) (.cons (.name 4) (.cons (.name 5) (.cons (.name 6) .nil))))) (.call "parting_rows" (.cons (.var 2) .nil))) [some bag, some (rowD [3, 4]), some (coin [3, 4]), none, none, none, none, none, none, none, none, none, none, none] = .ok .nx [some bag, some (rowD [3, 4]), some (coin [3, 4]), some (rowD [4, 3]), some (.int 12), some (rowD [4, 0]), some (rowD [0, 3]), none, none, none, none, none, none, none] := by rw [hC]; kernel_rfl
  have t1 : evT C (.cmp .eq (.var 5) (.var 6)) [some bag, some (rowD [3, 4]), some (coin [3, 4]), some (rowD [4, 3]), some (.int 12), some (rowD [4, 0]), some (rowD [0, 3]), none, none, none, none, none, none, none] = .ok false [some bag, some (rowD [3, 4]), some (coin [3, 4]), some (rowD [4, 3]), some (.int 12), some (rowD [4, 0]), some (rowD [0, 3]), none, none, none, none, none, none, none] := by rw [hC]; kernel_rfl
  have t2 : evT C (.cmp .nin (.var 5) (.call "_law_rows_worth" (.cons (.var 2) (.cons (.var 3) (.cons (.var 4) .nil))))) [some bag, some (rowD [3, 4]), some (coin [3, 4]), some (rowD [4, 3]), some (.int 12), some (rowD [4, 0]), some (rowD [0, 3]), none, none, none, none, none, none, none] = .ok false [some bag, some (rowD [3, 4]), some (coin [3, 4]), some (rowD [4, 3]), some (.int 12), some (rowD [4, 0]), some (rowD [0, 3]), none, none, none, none, none, none, none] := part_nin5 hm c0 i1
  have t3 : evT C (.cmp .nin (.var 6) (.call "_law_rows_worth" (.cons (.var 2) (.cons (.var 3) (.cons (.var 4) .nil))))) [some bag, some (rowD [3, 4]), some (coin [3, 4]), some (rowD [4, 3]), some (.int 12), some (rowD [4, 0]), some (rowD [0, 3]), none, none, none, none, none, none, none] = .ok false [some bag, some (rowD [3, 4]), some (coin [3, 4]), some (rowD [4, 3]), some (.int 12), some (rowD [4, 0]), some (rowD [0, 3]), none, none, none, none, none, none, none] := part_nin6 hm c0 i2
  have e4 : evS C (.ife (.or (.cmp .eq (.var 5) (.var 6)) (.or (.cmp .nin (.var 5) (.call "_law_rows_worth" (.cons (.var 2) (.cons (.var 3) (.cons (.var 4) .nil))))) (.cmp .nin (.var 6) (.call "_law_rows_worth" (.cons (.var 2) (.cons (.var 3) (.cons (.var 4) .nil))))))) (.cons (.ret (.bl false)) .nil) .nil) [some bag, some (rowD [3, 4]), some (coin [3, 4]), some (rowD [4, 3]), some (.int 12), some (rowD [4, 0]), some (rowD [0, 3]), none, none, none, none, none, none, none] = .ok .nx [some bag, some (rowD [3, 4]), some (coin [3, 4]), some (rowD [4, 3]), some (.int 12), some (rowD [4, 0]), some (rowD [0, 3]), none, none, none, none, none, none, none] := by
    rw [ife_f (evt_or_f t1 (evt_or_f t2 t3))]
    simp [evSs]
  have e7 : evS C (.set 7 (.comp [8] (.name 8) (.seq (.tup (.cons (.var 5) (.cons (.var 6) .nil)))) .none (.call "_law_less" (.cons (.var 3) (.cons (.var 8) .nil))))) [some bag, some (rowD [3, 4]), some (coin [3, 4]), some (rowD [4, 3]), some (.int 12), some (rowD [4, 0]), some (rowD [0, 3]), none, none, none, none, none, none, none] = .ok .nx [some bag, some (rowD [3, 4]), some (coin [3, 4]), some (rowD [4, 3]), some (.int 12), some (rowD [4, 0]), some (rowD [0, 3]), some (.mls (rowsD [[0, 3], [4, 0]])), none, none, none, none, none, none] := by rw [hC]; kernel_rfl
  have e9 : evS C (.set 9 (.ix (.comp [10] (.name 10) (.range (.cons (.bin .sub (.bi .len (.cons (.var 1) .nil)) (.int 1)) .nil)) (.some (.cmp .ne (.bin .mod (.ix (.var 1) (.bin .add (.var 10) (.int 1))) (.ix (.var 1) (.var 10))) (.int 0))) (.var 10)) (.int 0))) [some bag, some (rowD [3, 4]), some (coin [3, 4]), some (rowD [4, 3]), some (.int 12), some (rowD [4, 0]), some (rowD [0, 3]), some (.mls (rowsD [[0, 3], [4, 0]])), none, none, none, none, none, none] = .ok .nx [some bag, some (rowD [3, 4]), some (coin [3, 4]), some (rowD [4, 3]), some (.int 12), some (rowD [4, 0]), some (rowD [0, 3]), some (.mls (rowsD [[0, 3], [4, 0]])), none, some (.int 0), none, none, none, none] := by rw [hC]; kernel_rfl
  have g1 := part_in (C := C) (x0 := some bag) (x3 := some (rowD [4, 3])) (x4 := some (.int 12)) (x5 := some (rowD [4, 0])) (x6 := some (rowD [0, 3])) (x7 := some (.lst (rowsD [[0, 3], [4, 0]]))) (vs := [3, 4]) (l := [0, 3]) (at_ := 0) hm rfl rfl c1 c2 q1 q2
  have g2 := part_in (C := C) (x0 := some bag) (x3 := some (rowD [4, 3])) (x4 := some (.int 12)) (x5 := some (rowD [4, 0])) (x6 := some (rowD [0, 3])) (x7 := some (.lst (rowsD [[0, 3], [4, 0]]))) (vs := [3, 4]) (l := [4, 0]) (at_ := 0) hm rfl rfl c3 c4 q3 q4
  have hi : evI C (.seq (.var 7)) [some bag, some (rowD [3, 4]), some (coin [3, 4]), some (rowD [4, 3]), some (.int 12), some (rowD [4, 0]), some (rowD [0, 3]), some (.mls (rowsD [[0, 3], [4, 0]])), none, some (.int 0), none, none, none, none] = .ok ([([0, 3], true), ([4, 0], false)].map fun p => rowD p.1) [some bag, some (rowD [3, 4]), some (coin [3, 4]), some (rowD [4, 3]), some (.int 12), some (rowD [4, 0]), some (rowD [0, 3]), some (.lst (rowsD [[0, 3], [4, 0]])), none, some (.int 0), none, none, none, none] := by rw [hC]; kernel_rfl
  have hpr : C.pr 11 = false := by rw [hC]; rfl
  have e11 : evS C (.set 11 (.comp [13] (.name 13) (.seq (.var 7)) .none partIn)) [some bag, some (rowD [3, 4]), some (coin [3, 4]), some (rowD [4, 3]), some (.int 12), some (rowD [4, 0]), some (rowD [0, 3]), some (.mls (rowsD [[0, 3], [4, 0]])), none, some (.int 0), none, none, none, none] = .ok .nx [some bag, some (rowD [3, 4]), some (coin [3, 4]), some (rowD [4, 3]), some (.int 12), some (rowD [4, 0]), some (rowD [0, 3]), some (.lst (rowsD [[0, 3], [4, 0]])), none, some (.int 0), none, some (.mls [.lst [.bl true, .bl false], .lst [.bl false, .bl true]]), none, none] := by
    refine ev_set (x := .val (.mls [.lst [.bl true, .bl false], .lst [.bl false, .bl true]])) (G1 := [some bag, some (rowD [3, 4]), some (coin [3, 4]), some (rowD [4, 3]), some (.int 12), some (rowD [4, 0]), some (rowD [0, 3]), some (.lst (rowsD [[0, 3], [4, 0]])), none, some (.int 0), none, none, none, none]) (G2 := [some bag, some (rowD [3, 4]), some (coin [3, 4]), some (rowD [4, 3]), some (.int 12), some (rowD [4, 0]), some (rowD [0, 3]), some (.lst (rowsD [[0, 3], [4, 0]])), none, some (.int 0), none, none, none, none]) hpr ?_ rfl (show 11 < 14 by decide)
    rw [ev_comp0 (f := fun p : List Int × Bool => .lst [.bl p.2, .bl (!p.2)]) hi (fun p hp => ?_) (show 2 ≤ sizeLine by decide)]
    · rfl
    · simp only [List.mem_cons, List.not_mem_nil, or_false] at hp
      rcases hp with rfl | rfl
      · exact Eq.trans (compB_ok rfl g1 rfl) rfl
      · exact Eq.trans (compB_ok rfl g2 rfl) rfl
  have er : evSs C (.cons (.ret (.cmp .eq (.var 11) (.lst (.cons (.lst (.cons (.bl true) (.cons (.bl false) .nil))) (.cons (.lst (.cons (.bl false) (.cons (.bl true) .nil))) .nil))))) .nil) [some bag, some (rowD [3, 4]), some (coin [3, 4]), some (rowD [4, 3]), some (.int 12), some (rowD [4, 0]), some (rowD [0, 3]), some (.lst (rowsD [[0, 3], [4, 0]])), none, some (.int 0), none, some (.mls [.lst [.bl true, .bl false], .lst [.bl false, .bl true]]), none, none] = .ok (.rt (.bl true)) [some bag, some (rowD [3, 4]), some (coin [3, 4]), some (rowD [4, 3]), some (.int 12), some (rowD [4, 0]), some (rowD [0, 3]), some (.lst (rowsD [[0, 3], [4, 0]])), none, some (.int 0), none, some (.mls [.lst [.bl true, .bl false], .lst [.bl false, .bl true]]), none, none] := by rw [hC]; kernel_rfl
  refine ⟨_, (seq_nx e2).trans ((seq_nx e3).trans ((seq_nx e4).trans ((seq_nx e7).trans ((seq_nx e9).trans ((seq_nx e11).trans er)))))⟩
theorem part_3 {n : Nat} (bag : D) : ∃ G, evSs ⟨evF L98.pg (n + 3), modes L98.pg, fun i => [true].getD i false, 1⟩ (tlS L98.b__law_parted_right) [some bag, some (rowD [1, 4, 6]), none, none, none, none, none, none, none, none, none, none, none, none] = .ok (.rt (.bl true)) (some bag :: G) := by
  have m1 : [0, 3, 0] ∈ rowsR [1, 4, 6] [0, 3, 2] 12 := (mem_rows3 (by decide) (by decide) (by decide)).mpr ⟨0, 3, 0, rfl, by decide, by decide, by decide, by decide, by decide, by decide, by decide⟩
  have m2 : [0, 0, 2] ∈ rowsR [1, 4, 6] [0, 3, 2] 12 := (mem_rows3 (by decide) (by decide) (by decide)).mpr ⟨0, 0, 2, rfl, by decide, by decide, by decide, by decide, by decide, by decide, by decide⟩
  have q1 : (rowsR [1, 4, 6] [0, 0, 2] 6).isEmpty = !true := ne_of (r := [0, 0, 1]) ((mem_rows3 (by decide) (by decide) (by decide)).mpr ⟨0, 0, 1, rfl, by decide, by decide, by decide, by decide, by decide, by decide, by decide⟩)
  have q2 : (rowsR [1, 4, 6] [0, 0, 2] 4).isEmpty = !false := nil_of fun r hr => by
    obtain ⟨x, y, z, _, h⟩ := (mem_rows3 (by decide) (by decide) (by decide)).mp hr
    omega
  have q3 : (rowsR [1, 4, 6] [0, 3, 0] 6).isEmpty = !false := nil_of fun r hr => by
    obtain ⟨x, y, z, _, h⟩ := (mem_rows3 (by decide) (by decide) (by decide)).mp hr
    omega
  have q4 : (rowsR [1, 4, 6] [0, 3, 0] 4).isEmpty = !true := ne_of (r := [0, 1, 0]) ((mem_rows3 (by decide) (by decide) (by decide)).mpr ⟨0, 1, 0, rfl, by decide, by decide, by decide, by decide, by decide, by decide, by decide⟩)
  have k0 := e_rowsX (n := n + 2) (vs := [1, 4, 6]) (W := [0, 3, 2]) (a := 12) (by decide) (by decide) rfl (by unfold inBox; decide)
  have k1 := e_rowsX (n := n + 2) (vs := [1, 4, 6]) (W := [0, 0, 2]) (a := 6) (by decide) (by decide) rfl (by unfold inBox; decide)
  have k2 := e_rowsX (n := n + 2) (vs := [1, 4, 6]) (W := [0, 0, 2]) (a := 4) (by decide) (by decide) rfl (by unfold inBox; decide)
  have k3 := e_rowsX (n := n + 2) (vs := [1, 4, 6]) (W := [0, 3, 0]) (a := 6) (by decide) (by decide) rfl (by unfold inBox; decide)
  have k4 := e_rowsX (n := n + 2) (vs := [1, 4, 6]) (W := [0, 3, 0]) (a := 4) (by decide) (by decide) rfl (by unfold inBox; decide)
  have i1 := inD_rows [0, 3, 0] (rowsR [1, 4, 6] [0, 3, 2] 12)
  have i2 := inD_rows [0, 0, 2] (rowsR [1, 4, 6] [0, 3, 2] 12)
  rw [decide_eq_true m1] at i1
  rw [decide_eq_true m2] at i2
  obtain ⟨C, hC⟩ : ∃ C : Ctx, C = ⟨evF L98.pg (n + 3), modes L98.pg, fun i => [true].getD i false, 1⟩ := ⟨_, rfl⟩
  have hm : C.md "_law_rows_worth" = [false, false, false] := by rw [hC]; exact md_law_rows_worth
  have kk : ∀ {W : List Int} {x : Int} {rs : List (List Int)}, evF L98.pg (n + 3) "_law_rows_worth" [coin [1, 4, 6], rowD W, .int x] = .ret (.mls (rowsD rs)) [coin [1, 4, 6], rowD W, .int x] → C.cal "_law_rows_worth" [coin [1, 4, 6], rowD W, .int x] = .ret (.mls (rowsD rs)) [coin [1, 4, 6], rowD W, .int x] := fun {W x rs} h => by rw [hC]; with_reducible exact h
  have c0 := kk k0
  have c1 := kk k1
  have c2 := kk k2
  have c3 := kk k3
  have c4 := kk k4
  rw [← hC]
  have e2 : evS C (.set 2 (.tup (.cons (.var 1) (.cons (.bin .mul (.tup (.cons (.int 40) .nil)) (.bi .len (.cons (.var 1) .nil))) .nil)))) [some bag, some (rowD [1, 4, 6]), none, none, none, none, none, none, none, none, none, none, none, none] = .ok .nx [some bag, some (rowD [1, 4, 6]), some (coin [1, 4, 6]), none, none, none, none, none, none, none, none, none, none, none] := by rw [hC]; kernel_rfl
  have e3 : evS C (.asg (.tup (.cons (.name 3) (.cons (.name 4) (.cons (.name 5) (.cons (.name 6) .nil))))) (.call "parting_rows" (.cons (.var 2) .nil))) [some bag, some (rowD [1, 4, 6]), some (coin [1, 4, 6]), none, none, none, none, none, none, none, none, none, none, none] = .ok .nx [some bag, some (rowD [1, 4, 6]), some (coin [1, 4, 6]), some (rowD [0, 3, 2]), some (.int 12), some (rowD [0, 3, 0]), some (rowD [0, 0, 2]), none, none, none, none, none, none, none] := by rw [hC]; kernel_rfl
  have t1 : evT C (.cmp .eq (.var 5) (.var 6)) [some bag, some (rowD [1, 4, 6]), some (coin [1, 4, 6]), some (rowD [0, 3, 2]), some (.int 12), some (rowD [0, 3, 0]), some (rowD [0, 0, 2]), none, none, none, none, none, none, none] = .ok false [some bag, some (rowD [1, 4, 6]), some (coin [1, 4, 6]), some (rowD [0, 3, 2]), some (.int 12), some (rowD [0, 3, 0]), some (rowD [0, 0, 2]), none, none, none, none, none, none, none] := by rw [hC]; kernel_rfl
  have t2 : evT C (.cmp .nin (.var 5) (.call "_law_rows_worth" (.cons (.var 2) (.cons (.var 3) (.cons (.var 4) .nil))))) [some bag, some (rowD [1, 4, 6]), some (coin [1, 4, 6]), some (rowD [0, 3, 2]), some (.int 12), some (rowD [0, 3, 0]), some (rowD [0, 0, 2]), none, none, none, none, none, none, none] = .ok false [some bag, some (rowD [1, 4, 6]), some (coin [1, 4, 6]), some (rowD [0, 3, 2]), some (.int 12), some (rowD [0, 3, 0]), some (rowD [0, 0, 2]), none, none, none, none, none, none, none] := part_nin5 hm c0 i1
  have t3 : evT C (.cmp .nin (.var 6) (.call "_law_rows_worth" (.cons (.var 2) (.cons (.var 3) (.cons (.var 4) .nil))))) [some bag, some (rowD [1, 4, 6]), some (coin [1, 4, 6]), some (rowD [0, 3, 2]), some (.int 12), some (rowD [0, 3, 0]), some (rowD [0, 0, 2]), none, none, none, none, none, none, none] = .ok false [some bag, some (rowD [1, 4, 6]), some (coin [1, 4, 6]), some (rowD [0, 3, 2]), some (.int 12), some (rowD [0, 3, 0]), some (rowD [0, 0, 2]), none, none, none, none, none, none, none] := part_nin6 hm c0 i2
  have e4 : evS C (.ife (.or (.cmp .eq (.var 5) (.var 6)) (.or (.cmp .nin (.var 5) (.call "_law_rows_worth" (.cons (.var 2) (.cons (.var 3) (.cons (.var 4) .nil))))) (.cmp .nin (.var 6) (.call "_law_rows_worth" (.cons (.var 2) (.cons (.var 3) (.cons (.var 4) .nil))))))) (.cons (.ret (.bl false)) .nil) .nil) [some bag, some (rowD [1, 4, 6]), some (coin [1, 4, 6]), some (rowD [0, 3, 2]), some (.int 12), some (rowD [0, 3, 0]), some (rowD [0, 0, 2]), none, none, none, none, none, none, none] = .ok .nx [some bag, some (rowD [1, 4, 6]), some (coin [1, 4, 6]), some (rowD [0, 3, 2]), some (.int 12), some (rowD [0, 3, 0]), some (rowD [0, 0, 2]), none, none, none, none, none, none, none] := by
    rw [ife_f (evt_or_f t1 (evt_or_f t2 t3))]
    simp [evSs]
  have e7 : evS C (.set 7 (.comp [8] (.name 8) (.seq (.tup (.cons (.var 5) (.cons (.var 6) .nil)))) .none (.call "_law_less" (.cons (.var 3) (.cons (.var 8) .nil))))) [some bag, some (rowD [1, 4, 6]), some (coin [1, 4, 6]), some (rowD [0, 3, 2]), some (.int 12), some (rowD [0, 3, 0]), some (rowD [0, 0, 2]), none, none, none, none, none, none, none] = .ok .nx [some bag, some (rowD [1, 4, 6]), some (coin [1, 4, 6]), some (rowD [0, 3, 2]), some (.int 12), some (rowD [0, 3, 0]), some (rowD [0, 0, 2]), some (.mls (rowsD [[0, 0, 2], [0, 3, 0]])), none, none, none, none, none, none] := by rw [hC]; kernel_rfl
  have e9 : evS C (.set 9 (.ix (.comp [10] (.name 10) (.range (.cons (.bin .sub (.bi .len (.cons (.var 1) .nil)) (.int 1)) .nil)) (.some (.cmp .ne (.bin .mod (.ix (.var 1) (.bin .add (.var 10) (.int 1))) (.ix (.var 1) (.var 10))) (.int 0))) (.var 10)) (.int 0))) [some bag, some (rowD [1, 4, 6]), some (coin [1, 4, 6]), some (rowD [0, 3, 2]), some (.int 12), some (rowD [0, 3, 0]), some (rowD [0, 0, 2]), some (.mls (rowsD [[0, 0, 2], [0, 3, 0]])), none, none, none, none, none, none] = .ok .nx [some bag, some (rowD [1, 4, 6]), some (coin [1, 4, 6]), some (rowD [0, 3, 2]), some (.int 12), some (rowD [0, 3, 0]), some (rowD [0, 0, 2]), some (.mls (rowsD [[0, 0, 2], [0, 3, 0]])), none, some (.int 1), none, none, none, none] := by rw [hC]; kernel_rfl
  have g1 := part_in (C := C) (x0 := some bag) (x3 := some (rowD [0, 3, 2])) (x4 := some (.int 12)) (x5 := some (rowD [0, 3, 0])) (x6 := some (rowD [0, 0, 2])) (x7 := some (.lst (rowsD [[0, 0, 2], [0, 3, 0]]))) (vs := [1, 4, 6]) (l := [0, 0, 2]) (at_ := 1) hm rfl rfl c1 c2 q1 q2
  have g2 := part_in (C := C) (x0 := some bag) (x3 := some (rowD [0, 3, 2])) (x4 := some (.int 12)) (x5 := some (rowD [0, 3, 0])) (x6 := some (rowD [0, 0, 2])) (x7 := some (.lst (rowsD [[0, 0, 2], [0, 3, 0]]))) (vs := [1, 4, 6]) (l := [0, 3, 0]) (at_ := 1) hm rfl rfl c3 c4 q3 q4
  have hi : evI C (.seq (.var 7)) [some bag, some (rowD [1, 4, 6]), some (coin [1, 4, 6]), some (rowD [0, 3, 2]), some (.int 12), some (rowD [0, 3, 0]), some (rowD [0, 0, 2]), some (.mls (rowsD [[0, 0, 2], [0, 3, 0]])), none, some (.int 1), none, none, none, none] = .ok ([([0, 0, 2], true), ([0, 3, 0], false)].map fun p => rowD p.1) [some bag, some (rowD [1, 4, 6]), some (coin [1, 4, 6]), some (rowD [0, 3, 2]), some (.int 12), some (rowD [0, 3, 0]), some (rowD [0, 0, 2]), some (.lst (rowsD [[0, 0, 2], [0, 3, 0]])), none, some (.int 1), none, none, none, none] := by rw [hC]; kernel_rfl
  have hpr : C.pr 11 = false := by rw [hC]; rfl
  have e11 : evS C (.set 11 (.comp [13] (.name 13) (.seq (.var 7)) .none partIn)) [some bag, some (rowD [1, 4, 6]), some (coin [1, 4, 6]), some (rowD [0, 3, 2]), some (.int 12), some (rowD [0, 3, 0]), some (rowD [0, 0, 2]), some (.mls (rowsD [[0, 0, 2], [0, 3, 0]])), none, some (.int 1), none, none, none, none] = .ok .nx [some bag, some (rowD [1, 4, 6]), some (coin [1, 4, 6]), some (rowD [0, 3, 2]), some (.int 12), some (rowD [0, 3, 0]), some (rowD [0, 0, 2]), some (.lst (rowsD [[0, 0, 2], [0, 3, 0]])), none, some (.int 1), none, some (.mls [.lst [.bl true, .bl false], .lst [.bl false, .bl true]]), none, none] := by
    refine ev_set (x := .val (.mls [.lst [.bl true, .bl false], .lst [.bl false, .bl true]])) (G1 := [some bag, some (rowD [1, 4, 6]), some (coin [1, 4, 6]), some (rowD [0, 3, 2]), some (.int 12), some (rowD [0, 3, 0]), some (rowD [0, 0, 2]), some (.lst (rowsD [[0, 0, 2], [0, 3, 0]])), none, some (.int 1), none, none, none, none]) (G2 := [some bag, some (rowD [1, 4, 6]), some (coin [1, 4, 6]), some (rowD [0, 3, 2]), some (.int 12), some (rowD [0, 3, 0]), some (rowD [0, 0, 2]), some (.lst (rowsD [[0, 0, 2], [0, 3, 0]])), none, some (.int 1), none, none, none, none]) hpr ?_ rfl (show 11 < 14 by decide)
    rw [ev_comp0 (f := fun p : List Int × Bool => .lst [.bl p.2, .bl (!p.2)]) hi (fun p hp => ?_) (show 2 ≤ sizeLine by decide)]
    · rfl
    · simp only [List.mem_cons, List.not_mem_nil, or_false] at hp
      rcases hp with rfl | rfl
      · exact Eq.trans (compB_ok rfl g1 rfl) rfl
      · exact Eq.trans (compB_ok rfl g2 rfl) rfl
  have er : evSs C (.cons (.ret (.cmp .eq (.var 11) (.lst (.cons (.lst (.cons (.bl true) (.cons (.bl false) .nil))) (.cons (.lst (.cons (.bl false) (.cons (.bl true) .nil))) .nil))))) .nil) [some bag, some (rowD [1, 4, 6]), some (coin [1, 4, 6]), some (rowD [0, 3, 2]), some (.int 12), some (rowD [0, 3, 0]), some (rowD [0, 0, 2]), some (.lst (rowsD [[0, 0, 2], [0, 3, 0]])), none, some (.int 1), none, some (.mls [.lst [.bl true, .bl false], .lst [.bl false, .bl true]]), none, none] = .ok (.rt (.bl true)) [some bag, some (rowD [1, 4, 6]), some (coin [1, 4, 6]), some (rowD [0, 3, 2]), some (.int 12), some (rowD [0, 3, 0]), some (rowD [0, 0, 2]), some (.lst (rowsD [[0, 0, 2], [0, 3, 0]])), none, some (.int 1), none, some (.mls [.lst [.bl true, .bl false], .lst [.bl false, .bl true]]), none, none] := by rw [hC]; kernel_rfl
  refine ⟨_, (seq_nx e2).trans ((seq_nx e3).trans ((seq_nx e4).trans ((seq_nx e7).trans ((seq_nx e9).trans ((seq_nx e11).trans er)))))⟩
theorem part_4 {n : Nat} (bag : D) : ∃ G, evSs ⟨evF L98.pg (n + 3), modes L98.pg, fun i => [true].getD i false, 1⟩ (tlS L98.b__law_parted_right) [some bag, some (rowD [2, 4, 5]), none, none, none, none, none, none, none, none, none, none, none, none] = .ok (.rt (.bl true)) (some bag :: G) := by
  have m1 : [0, 5, 0] ∈ rowsR [2, 4, 5] [0, 5, 4] 20 := (mem_rows3 (by decide) (by decide) (by decide)).mpr ⟨0, 5, 0, rfl, by decide, by decide, by decide, by decide, by decide, by decide, by decide⟩
  have m2 : [0, 0, 4] ∈ rowsR [2, 4, 5] [0, 5, 4] 20 := (mem_rows3 (by decide) (by decide) (by decide)).mpr ⟨0, 0, 4, rfl, by decide, by decide, by decide, by decide, by decide, by decide, by decide⟩
  have q1 : (rowsR [2, 4, 5] [0, 0, 4] 5).isEmpty = !true := ne_of (r := [0, 0, 1]) ((mem_rows3 (by decide) (by decide) (by decide)).mpr ⟨0, 0, 1, rfl, by decide, by decide, by decide, by decide, by decide, by decide, by decide⟩)
  have q2 : (rowsR [2, 4, 5] [0, 0, 4] 4).isEmpty = !false := nil_of fun r hr => by
    obtain ⟨x, y, z, _, h⟩ := (mem_rows3 (by decide) (by decide) (by decide)).mp hr
    omega
  have q3 : (rowsR [2, 4, 5] [0, 5, 0] 5).isEmpty = !false := nil_of fun r hr => by
    obtain ⟨x, y, z, _, h⟩ := (mem_rows3 (by decide) (by decide) (by decide)).mp hr
    omega
  have q4 : (rowsR [2, 4, 5] [0, 5, 0] 4).isEmpty = !true := ne_of (r := [0, 1, 0]) ((mem_rows3 (by decide) (by decide) (by decide)).mpr ⟨0, 1, 0, rfl, by decide, by decide, by decide, by decide, by decide, by decide, by decide⟩)
  have k0 := e_rowsX (n := n + 2) (vs := [2, 4, 5]) (W := [0, 5, 4]) (a := 20) (by decide) (by decide) rfl (by unfold inBox; decide)
  have k1 := e_rowsX (n := n + 2) (vs := [2, 4, 5]) (W := [0, 0, 4]) (a := 5) (by decide) (by decide) rfl (by unfold inBox; decide)
  have k2 := e_rowsX (n := n + 2) (vs := [2, 4, 5]) (W := [0, 0, 4]) (a := 4) (by decide) (by decide) rfl (by unfold inBox; decide)
  have k3 := e_rowsX (n := n + 2) (vs := [2, 4, 5]) (W := [0, 5, 0]) (a := 5) (by decide) (by decide) rfl (by unfold inBox; decide)
  have k4 := e_rowsX (n := n + 2) (vs := [2, 4, 5]) (W := [0, 5, 0]) (a := 4) (by decide) (by decide) rfl (by unfold inBox; decide)
  have i1 := inD_rows [0, 5, 0] (rowsR [2, 4, 5] [0, 5, 4] 20)
  have i2 := inD_rows [0, 0, 4] (rowsR [2, 4, 5] [0, 5, 4] 20)
  rw [decide_eq_true m1] at i1
  rw [decide_eq_true m2] at i2
  obtain ⟨C, hC⟩ : ∃ C : Ctx, C = ⟨evF L98.pg (n + 3), modes L98.pg, fun i => [true].getD i false, 1⟩ := ⟨_, rfl⟩
  have hm : C.md "_law_rows_worth" = [false, false, false] := by rw [hC]; exact md_law_rows_worth
  have kk : ∀ {W : List Int} {x : Int} {rs : List (List Int)}, evF L98.pg (n + 3) "_law_rows_worth" [coin [2, 4, 5], rowD W, .int x] = .ret (.mls (rowsD rs)) [coin [2, 4, 5], rowD W, .int x] → C.cal "_law_rows_worth" [coin [2, 4, 5], rowD W, .int x] = .ret (.mls (rowsD rs)) [coin [2, 4, 5], rowD W, .int x] := fun {W x rs} h => by rw [hC]; with_reducible exact h
  have c0 := kk k0
  have c1 := kk k1
  have c2 := kk k2
  have c3 := kk k3
  have c4 := kk k4
  rw [← hC]
  have e2 : evS C (.set 2 (.tup (.cons (.var 1) (.cons (.bin .mul (.tup (.cons (.int 40) .nil)) (.bi .len (.cons (.var 1) .nil))) .nil)))) [some bag, some (rowD [2, 4, 5]), none, none, none, none, none, none, none, none, none, none, none, none] = .ok .nx [some bag, some (rowD [2, 4, 5]), some (coin [2, 4, 5]), none, none, none, none, none, none, none, none, none, none, none] := by rw [hC]; kernel_rfl
  have e3 : evS C (.asg (.tup (.cons (.name 3) (.cons (.name 4) (.cons (.name 5) (.cons (.name 6) .nil))))) (.call "parting_rows" (.cons (.var 2) .nil))) [some bag, some (rowD [2, 4, 5]), some (coin [2, 4, 5]), none, none, none, none, none, none, none, none, none, none, none] = .ok .nx [some bag, some (rowD [2, 4, 5]), some (coin [2, 4, 5]), some (rowD [0, 5, 4]), some (.int 20), some (rowD [0, 5, 0]), some (rowD [0, 0, 4]), none, none, none, none, none, none, none] := by rw [hC]; kernel_rfl
  have t1 : evT C (.cmp .eq (.var 5) (.var 6)) [some bag, some (rowD [2, 4, 5]), some (coin [2, 4, 5]), some (rowD [0, 5, 4]), some (.int 20), some (rowD [0, 5, 0]), some (rowD [0, 0, 4]), none, none, none, none, none, none, none] = .ok false [some bag, some (rowD [2, 4, 5]), some (coin [2, 4, 5]), some (rowD [0, 5, 4]), some (.int 20), some (rowD [0, 5, 0]), some (rowD [0, 0, 4]), none, none, none, none, none, none, none] := by rw [hC]; kernel_rfl
  have t2 : evT C (.cmp .nin (.var 5) (.call "_law_rows_worth" (.cons (.var 2) (.cons (.var 3) (.cons (.var 4) .nil))))) [some bag, some (rowD [2, 4, 5]), some (coin [2, 4, 5]), some (rowD [0, 5, 4]), some (.int 20), some (rowD [0, 5, 0]), some (rowD [0, 0, 4]), none, none, none, none, none, none, none] = .ok false [some bag, some (rowD [2, 4, 5]), some (coin [2, 4, 5]), some (rowD [0, 5, 4]), some (.int 20), some (rowD [0, 5, 0]), some (rowD [0, 0, 4]), none, none, none, none, none, none, none] := part_nin5 hm c0 i1
  have t3 : evT C (.cmp .nin (.var 6) (.call "_law_rows_worth" (.cons (.var 2) (.cons (.var 3) (.cons (.var 4) .nil))))) [some bag, some (rowD [2, 4, 5]), some (coin [2, 4, 5]), some (rowD [0, 5, 4]), some (.int 20), some (rowD [0, 5, 0]), some (rowD [0, 0, 4]), none, none, none, none, none, none, none] = .ok false [some bag, some (rowD [2, 4, 5]), some (coin [2, 4, 5]), some (rowD [0, 5, 4]), some (.int 20), some (rowD [0, 5, 0]), some (rowD [0, 0, 4]), none, none, none, none, none, none, none] := part_nin6 hm c0 i2
  have e4 : evS C (.ife (.or (.cmp .eq (.var 5) (.var 6)) (.or (.cmp .nin (.var 5) (.call "_law_rows_worth" (.cons (.var 2) (.cons (.var 3) (.cons (.var 4) .nil))))) (.cmp .nin (.var 6) (.call "_law_rows_worth" (.cons (.var 2) (.cons (.var 3) (.cons (.var 4) .nil))))))) (.cons (.ret (.bl false)) .nil) .nil) [some bag, some (rowD [2, 4, 5]), some (coin [2, 4, 5]), some (rowD [0, 5, 4]), some (.int 20), some (rowD [0, 5, 0]), some (rowD [0, 0, 4]), none, none, none, none, none, none, none] = .ok .nx [some bag, some (rowD [2, 4, 5]), some (coin [2, 4, 5]), some (rowD [0, 5, 4]), some (.int 20), some (rowD [0, 5, 0]), some (rowD [0, 0, 4]), none, none, none, none, none, none, none] := by
    rw [ife_f (evt_or_f t1 (evt_or_f t2 t3))]
    simp [evSs]
  have e7 : evS C (.set 7 (.comp [8] (.name 8) (.seq (.tup (.cons (.var 5) (.cons (.var 6) .nil)))) .none (.call "_law_less" (.cons (.var 3) (.cons (.var 8) .nil))))) [some bag, some (rowD [2, 4, 5]), some (coin [2, 4, 5]), some (rowD [0, 5, 4]), some (.int 20), some (rowD [0, 5, 0]), some (rowD [0, 0, 4]), none, none, none, none, none, none, none] = .ok .nx [some bag, some (rowD [2, 4, 5]), some (coin [2, 4, 5]), some (rowD [0, 5, 4]), some (.int 20), some (rowD [0, 5, 0]), some (rowD [0, 0, 4]), some (.mls (rowsD [[0, 0, 4], [0, 5, 0]])), none, none, none, none, none, none] := by rw [hC]; kernel_rfl
  have e9 : evS C (.set 9 (.ix (.comp [10] (.name 10) (.range (.cons (.bin .sub (.bi .len (.cons (.var 1) .nil)) (.int 1)) .nil)) (.some (.cmp .ne (.bin .mod (.ix (.var 1) (.bin .add (.var 10) (.int 1))) (.ix (.var 1) (.var 10))) (.int 0))) (.var 10)) (.int 0))) [some bag, some (rowD [2, 4, 5]), some (coin [2, 4, 5]), some (rowD [0, 5, 4]), some (.int 20), some (rowD [0, 5, 0]), some (rowD [0, 0, 4]), some (.mls (rowsD [[0, 0, 4], [0, 5, 0]])), none, none, none, none, none, none] = .ok .nx [some bag, some (rowD [2, 4, 5]), some (coin [2, 4, 5]), some (rowD [0, 5, 4]), some (.int 20), some (rowD [0, 5, 0]), some (rowD [0, 0, 4]), some (.mls (rowsD [[0, 0, 4], [0, 5, 0]])), none, some (.int 1), none, none, none, none] := by rw [hC]; kernel_rfl
  have g1 := part_in (C := C) (x0 := some bag) (x3 := some (rowD [0, 5, 4])) (x4 := some (.int 20)) (x5 := some (rowD [0, 5, 0])) (x6 := some (rowD [0, 0, 4])) (x7 := some (.lst (rowsD [[0, 0, 4], [0, 5, 0]]))) (vs := [2, 4, 5]) (l := [0, 0, 4]) (at_ := 1) hm rfl rfl c1 c2 q1 q2
  have g2 := part_in (C := C) (x0 := some bag) (x3 := some (rowD [0, 5, 4])) (x4 := some (.int 20)) (x5 := some (rowD [0, 5, 0])) (x6 := some (rowD [0, 0, 4])) (x7 := some (.lst (rowsD [[0, 0, 4], [0, 5, 0]]))) (vs := [2, 4, 5]) (l := [0, 5, 0]) (at_ := 1) hm rfl rfl c3 c4 q3 q4
  have hi : evI C (.seq (.var 7)) [some bag, some (rowD [2, 4, 5]), some (coin [2, 4, 5]), some (rowD [0, 5, 4]), some (.int 20), some (rowD [0, 5, 0]), some (rowD [0, 0, 4]), some (.mls (rowsD [[0, 0, 4], [0, 5, 0]])), none, some (.int 1), none, none, none, none] = .ok ([([0, 0, 4], true), ([0, 5, 0], false)].map fun p => rowD p.1) [some bag, some (rowD [2, 4, 5]), some (coin [2, 4, 5]), some (rowD [0, 5, 4]), some (.int 20), some (rowD [0, 5, 0]), some (rowD [0, 0, 4]), some (.lst (rowsD [[0, 0, 4], [0, 5, 0]])), none, some (.int 1), none, none, none, none] := by rw [hC]; kernel_rfl
  have hpr : C.pr 11 = false := by rw [hC]; rfl
  have e11 : evS C (.set 11 (.comp [13] (.name 13) (.seq (.var 7)) .none partIn)) [some bag, some (rowD [2, 4, 5]), some (coin [2, 4, 5]), some (rowD [0, 5, 4]), some (.int 20), some (rowD [0, 5, 0]), some (rowD [0, 0, 4]), some (.mls (rowsD [[0, 0, 4], [0, 5, 0]])), none, some (.int 1), none, none, none, none] = .ok .nx [some bag, some (rowD [2, 4, 5]), some (coin [2, 4, 5]), some (rowD [0, 5, 4]), some (.int 20), some (rowD [0, 5, 0]), some (rowD [0, 0, 4]), some (.lst (rowsD [[0, 0, 4], [0, 5, 0]])), none, some (.int 1), none, some (.mls [.lst [.bl true, .bl false], .lst [.bl false, .bl true]]), none, none] := by
    refine ev_set (x := .val (.mls [.lst [.bl true, .bl false], .lst [.bl false, .bl true]])) (G1 := [some bag, some (rowD [2, 4, 5]), some (coin [2, 4, 5]), some (rowD [0, 5, 4]), some (.int 20), some (rowD [0, 5, 0]), some (rowD [0, 0, 4]), some (.lst (rowsD [[0, 0, 4], [0, 5, 0]])), none, some (.int 1), none, none, none, none]) (G2 := [some bag, some (rowD [2, 4, 5]), some (coin [2, 4, 5]), some (rowD [0, 5, 4]), some (.int 20), some (rowD [0, 5, 0]), some (rowD [0, 0, 4]), some (.lst (rowsD [[0, 0, 4], [0, 5, 0]])), none, some (.int 1), none, none, none, none]) hpr ?_ rfl (show 11 < 14 by decide)
    rw [ev_comp0 (f := fun p : List Int × Bool => .lst [.bl p.2, .bl (!p.2)]) hi (fun p hp => ?_) (show 2 ≤ sizeLine by decide)]
    · rfl
    · simp only [List.mem_cons, List.not_mem_nil, or_false] at hp
      rcases hp with rfl | rfl
      · exact Eq.trans (compB_ok rfl g1 rfl) rfl
      · exact Eq.trans (compB_ok rfl g2 rfl) rfl
  have er : evSs C (.cons (.ret (.cmp .eq (.var 11) (.lst (.cons (.lst (.cons (.bl true) (.cons (.bl false) .nil))) (.cons (.lst (.cons (.bl false) (.cons (.bl true) .nil))) .nil))))) .nil) [some bag, some (rowD [2, 4, 5]), some (coin [2, 4, 5]), some (rowD [0, 5, 4]), some (.int 20), some (rowD [0, 5, 0]), some (rowD [0, 0, 4]), some (.lst (rowsD [[0, 0, 4], [0, 5, 0]])), none, some (.int 1), none, some (.mls [.lst [.bl true, .bl false], .lst [.bl false, .bl true]]), none, none] = .ok (.rt (.bl true)) [some bag, some (rowD [2, 4, 5]), some (coin [2, 4, 5]), some (rowD [0, 5, 4]), some (.int 20), some (rowD [0, 5, 0]), some (rowD [0, 0, 4]), some (.lst (rowsD [[0, 0, 4], [0, 5, 0]])), none, some (.int 1), none, some (.mls [.lst [.bl true, .bl false], .lst [.bl false, .bl true]]), none, none] := by rw [hC]; kernel_rfl
  refine ⟨_, (seq_nx e2).trans ((seq_nx e3).trans ((seq_nx e4).trans ((seq_nx e7).trans ((seq_nx e9).trans ((seq_nx e11).trans er)))))⟩
end Dv
end
section
set_option Elab.async false
set_option linter.all false
set_option maxRecDepth 100000
set_option maxHeartbeats 4000000
/-! Q11 (k98): what is drawn: sales, chains; parted_right. -/
namespace Dv
open PySem L2
structure TakeC (C : Ctx) : Prop where
  md : C.md "_law_take" = [true, false]
  go : ∀ bag, BagOk bag → ∀ m : Int, 0 < m → m < 1073741824 → ∃ v bag', C.cal "_law_take" [bag, .int m] = .ret (.int v) [bag', .int m] ∧ BagOk bag' ∧ 0 ≤ v ∧ v < m
theorem take_c (n : Nat) : ∀ bag, BagOk bag → ∀ m : Int, 0 < m → m < 1073741824 → ∃ v bag', evF L98.pg (n + 1) "_law_take" [bag, .int m] = .ret (.int v) [bag', .int m] ∧ BagOk bag' ∧ 0 ≤ v ∧ v < m :=
  fun bag hb m h1 h2 => take_spec (PR := L98.pg) (n := n) lk_law_take hb h1 h2
theorem compL_inv {b : D → GEnv → R (Option D)} {I : GEnv → Prop} {P : D → Prop} : ∀ {ds : List D} {G : GEnv}, I G → (∀ d ∈ ds, ∀ G, I G → ∃ y G', b d G = .ok (some y) G' ∧ I G' ∧ P y) → ∃ ys G', compL b ds G = .ok ys G' ∧ I G' ∧ ys.length = ds.length ∧ ∀ y ∈ ys, P y
  | [], G, h, _ => ⟨[], G, rfl, h, rfl, fun _ h => by cases h⟩
  | d :: ds, G, h, hs => by
    obtain ⟨y, G1, e1, i1, p1⟩ := hs d List.mem_cons_self G h
    obtain ⟨ys, G2, e2, i2, l2, p2⟩ := compL_inv (ds := ds) i1 fun x hx => hs x (List.mem_cons_of_mem _ hx)
    refine ⟨y :: ys, G2, ?_, i2, by rw [List.length_cons, List.length_cons, l2], fun z hz => ?_⟩
    · show (noEx (b d G)).bind _ = _
      rw [e1]
      show (compL b ds G1).bind _ = _
      rw [e2]
      rfl
    · rcases List.mem_cons.mp hz with rfl | hz
      · exact p1
      · exact p2 z hz
theorem ev_compI {C : Ctx} {own : List Nat} {tg : Tgt} {it : Ite} {el : Exp} {xs ys : List D} {G G1 G2 : GEnv} (hi : evI C it G = .ok xs G1) (hc : compL (compB own tg none (evE C el)) xs (wipeG own G1) = .ok ys G2) (hk : ys.length ≤ sizeLine) : evE C (.comp own tg it .none el) G = .ok (.val (.mls ys)) (restG own G1 G2) := by
  have e : evE C (.comp own tg it .none el) G = (evI C it G).bind fun xs G1 => (compL (compB own tg none (evE C el)) xs (wipeG own G1)).bind fun ys G2 => if lenOk ys then .ok (.val (.mls ys)) (restG own G1 G2) else .no := rfl
  rw [e, hi, bind_ok, hc, bind_ok, if_pos (by unfold lenOk; rw [decide_eq_true_eq]; exact hk)]
theorem ys_map {α : Type} {f : α → D} {P : α → Prop} : ∀ {ys : List D}, (∀ y ∈ ys, ∃ a, y = f a ∧ P a) → ∃ l : List α, ys = l.map f ∧ ∀ a ∈ l, P a
  | [], _ => ⟨[], rfl, fun _ h => by cases h⟩
  | y :: ys, h => by
    obtain ⟨a, e, p⟩ := h y List.mem_cons_self
    obtain ⟨l, e2, p2⟩ := ys_map (ys := ys) fun z hz => h z (List.mem_cons_of_mem _ hz)
    refine ⟨a :: l, by rw [e, e2]; rfl, fun z hz => ?_⟩
    rcases List.mem_cons.mp hz with rfl | hz
    · exact p
    · exact p2 z hz
theorem atI_nat {xs : List D} {k : Nat} (h : k < xs.length) : L2.atI xs (k : Nat) = some xs[k] := by
  unfold L2.atI L2.ixN
  rw [if_pos (by omega), if_pos (by omega)]
  show xs[(k : Int).toNat]? = _
  rw [Int.toNat_natCast, List.getElem?_eq_getElem h]
theorem ixN_nat {n k : Nat} (h : k < n) : L2.ixN n (k : Nat) = some k := by
  unfold L2.ixN
  rw [if_pos (by omega), if_pos (by omega), Int.toNat_natCast]
theorem sum_set : ∀ {l : List Int} {j : Nat} (h : j < l.length), (l.set j (l[j] + 1)).sum = l.sum + 1
  | x :: l, 0, h => by simp; omega
  | x :: l, j + 1, h => by
    have := sum_set (l := l) (j := j) (by simpa using h)
    simp only [List.set_cons_succ, List.sum_cons, List.getElem_cons_succ]
    rw [this]
    omega
theorem le_sum : ∀ {l : List Int}, (∀ x ∈ l, 0 ≤ x) → (∀ x ∈ l, x ≤ l.sum) ∧ 0 ≤ l.sum
  | [], _ => ⟨fun _ h => (by cases h), Int.le_refl _⟩
  | y :: l, h => by
    obtain ⟨h1, h2⟩ := le_sum (l := l) fun x hx => h x (List.mem_cons_of_mem _ hx)
    have hy := h y List.mem_cons_self
    rw [List.sum_cons]
    refine ⟨fun x hx => ?_, by omega⟩
    rcases List.mem_cons.mp hx with rfl | hx
    · omega
    · have := h1 x hx; omega
theorem worth_of_sum : ∀ vs ∈ chains, ∀ paid : List Int, paid.length = vs.length → (∀ x ∈ paid, 0 ≤ x) → 1 ≤ paid.sum → paid.sum ≤ 3 → 1 ≤ worthR vs paid ∧ worthR vs paid ≤ 150 := by
  refine by_chain ?_ ?_ ?_ ?_ ?_ ?_ <;> intro W h1
  · obtain ⟨x, y, rfl⟩ := len2 h1; simp [worthR]; omega
  · obtain ⟨x, y, z, rfl⟩ := len3 h1; simp [worthR]; omega
  · obtain ⟨x, y, z, rfl⟩ := len3 h1; simp [worthR]; omega
  · obtain ⟨x, y, rfl⟩ := len2 h1; simp [worthR]; omega
  · obtain ⟨x, y, z, rfl⟩ := len3 h1; simp [worthR]; omega
  · obtain ⟨x, y, z, rfl⟩ := len3 h1; simp [worthR]; omega
theorem ev_bin {C : Ctx} {G G1 G2 : GEnv} {a b : Exp} {x y : RV} {d e r : D} {o : BOp} (h1 : evE C a G = R.ok x G1) (h2 : evE C b G1 = R.ok y G2) (d1 : deref x G2 = some d) (d2 : deref y G2 = some e) (h3 : binD o d e = some r) : evE C (.bin o a b) G = R.ok (.val r) G2 := by
  have q : evE C (.bin o a b) G = (evE C a G).bind fun x G1 => (evE C b G1).bind fun y G2 => match deref x G2, deref y G2 with
    | some d, some e => lft (binD o d e) G2
    | _, _ => .no := rfl
  rw [q, h1, bind_ok, h2, bind_ok, d1, d2]
  show lft (binD o d e) G2 = _
  rw [h3]
  rfl
/-! ### a sale -/
theorem sale_key {C : Ctx} {vs : List Int} (hv : vs ∈ chains) (T : TakeC C) (hp : C.pr = (fun i => [true, false, false].getD i false)) (m1 : C.md "_law_worth" = [false, false]) (c1 : ∀ r : List Int, r.length = vs.length → C.cal "_law_worth" [coin vs, rowD r] = .ret (.int (worthR vs r)) [coin vs, rowD r]) {bag : D} (hb : BagOk bag) :
    ∃ q bag' G, SaleOk vs q ∧ BagOk bag' ∧ evSs C L98.b__law_sale [some bag, some (coin vs), some (.int 3), none, none, none] = .ok (.rt (saleQ q)) (some bag' :: some (coin vs) :: some (.int 3) :: G) := by
  have hsz : sizeLine = 16777216 := rfl
  have hcl := chain_len vs hv
  have ix0 : ixD (coin vs) (.int 0) = some (rowD vs) := rfl
  have hlenv : biD .len [rowD vs] = some (.int vs.length) := by
    show some (D.int ((vs.map D.int).length : Nat)) = _
    rw [List.length_map]
  have hmul : binD .mul (.mls [.int 0]) (.int vs.length) = some (.mls ((List.replicate vs.length (0 : Int)).map .int)) := by
    rcases hcl with h | h <;> rw [h] <;> rfl
  have e1 : evS C (.set 3 (.bin .mul (.lst (.cons (.int 0) .nil)) (.bi .len (.cons (.ix (.var 1) (.int 0)) .nil)))) [some bag, some (coin vs), some (.int 3), none, none, none] = .ok .nx [some bag, some (coin vs), some (.int 3), some (.mls ((List.replicate vs.length (0 : Int)).map .int)), none, none] := by
    have h1 : evE C (.lst (.cons (.int 0) .nil)) [some bag, some (coin vs), some (.int 3), none, none, none] = .ok (.val (.mls [.int 0])) [some bag, some (coin vs), some (.int 3), none, none, none] := by kernel_rfl
    have h2 : evE C (.bi .len (.cons (.ix (.var 1) (.int 0)) .nil)) [some bag, some (coin vs), some (.int 3), none, none, none] = .ok (.val (.int vs.length)) [some bag, some (coin vs), some (.int 3), none, none, none] := ev_bi1 (d := rowD vs) (x := .val (rowD vs)) (by kernel_rfl) rfl hlenv
    exact ev_set (by rw [hp]; rfl) (ev_bin h1 h2 rfl rfl hmul) rfl (show 3 < 6 by decide)
  obtain ⟨v, bag1, t1, hb1, v0, v1⟩ := T.go bag hb 3 (by decide) (by decide)
  have hrg : rangeD [.int (1 + v)] = some ((List.range (1 + v).toNat).map fun i : Nat => .int (i : Int)) := rangeD_int (by omega) (by omega)
  have hi : evI C (.range (.cons (.bin .add (.int 1) (.call "_law_take" (.cons (.var 0) (.cons (.var 2) .nil)))) .nil)) [some bag, some (coin vs), some (.int 3), some (.mls ((List.replicate vs.length (0 : Int)).map .int)), none, none] = .ok ((List.range (1 + v).toNat).map fun i : Nat => .int (i : Int)) [some bag1, some (coin vs), some (.int 3), some (.mls ((List.replicate vs.length (0 : Int)).map .int)), none, none] := by
    generalize (List.replicate vs.length (0 : Int)).map D.int = z
    simp [evSs, evS, evE, evEs, evT, evI, evO, bind_ok, lft_some, deref_val, deref_slot, getS_0, getS_s, derefs, takes, take, D.fz, own_val, own, retV, callE, passA, lentS, backA, asgG, asgsG, protT, protTs, List.tail_cons, T.md, t1, binD_add, hrg]
  obtain ⟨G', e2, bag2, paid, x4, rfl, hb2, pl, pn, ps⟩ := forL_inv (b := fun d G => match asgG (.name 4) d G with
      | none => .no
      | some G => evSs C (.cons (.augIx (.var 3) (.call "_law_take" (.cons (.var 0) (.cons (.bi .len (.cons (.var 3) .nil)) .nil))) .add (.int 1)) .nil) G) (ds := (List.range (1 + v).toNat).map fun i : Nat => .int (i : Int))
    (I := fun i G => ∃ (bag : D) (paid : List Int) (x4 : Option D), G = [some bag, some (coin vs), some (.int 3), some (.mls (paid.map .int)), x4, none] ∧ BagOk bag ∧ paid.length = vs.length ∧ (∀ x ∈ paid, 0 ≤ x) ∧ paid.sum = i)
    ⟨bag1, List.replicate vs.length 0, none, rfl, hb1, by simp, by intro x hx; rw [List.eq_of_mem_replicate hx]; exact Int.le_refl _, by rcases hcl with h | h <;> rw [h] <;> rfl⟩
    (fun i d G hd hI => by
      obtain ⟨bag, paid, x4, rfl, hb, pl, pn, ps⟩ := hI
      have hlp : biD .len [.mls (paid.map .int)] = some (.int paid.length) := by
        show some (D.int ((paid.map D.int).length : Nat)) = _
        rw [List.length_map]
      obtain ⟨j, bag', tj, hb', j0, j1⟩ := T.go bag hb paid.length (by omega) (by omega)
      obtain ⟨k, hk⟩ : ∃ k : Nat, j = k := ⟨j.toNat, by omega⟩
      subst hk
      have hkl : k < paid.length := by omega
      have hix : ixL (.mls (paid.map .int)) (.int (k : Nat)) = some (.int paid[k]) := by
        show L2.atI _ _ = _
        rw [atI_nat (by rw [List.length_map]; exact hkl), List.getElem_map]
      have hst : ∀ z : Int, setIxD (.mls (paid.map .int)) (.int (k : Nat)) (.int z) = some (.mls ((paid.set k z).map .int)) := by
        intro z
        show (match L2.ixN (paid.map D.int).length (k : Nat) with
          | some j => some (D.mls ((paid.map D.int).set j (.int z)))
          | none => none) = _
        rw [List.length_map, ixN_nat hkl, List.map_set]
      refine ⟨[some bag', some (coin vs), some (.int 3), some (.mls ((paid.set k (paid[k] + 1)).map .int)), some d, none], ?_, bag', paid.set k (paid[k] + 1), some d, rfl, hb', by rw [List.length_set]; exact pl, ?_, ?_⟩
      · have hst' := hst (paid[k] + 1)
        generalize paid[k] = pk at hix hst' ⊢
        generalize (paid.set k (pk + 1)).map D.int = zz at hst' ⊢
        generalize hpm : paid.map D.int = pm at hlp hix hst' ⊢
        simp [evSs, evS, evE, evEs, evT, evI, evO, bind_ok, lft_some, deref_val, deref_slot, getS_0, getS_s, derefs, takes, take, D.fz, own_val, own, retV, callE, passA, lentS, backA, asgG, asgsG, protT, protTs, List.tail_cons, hlp, tj, T.md, hix, hst', augI]
      · intro x hx
        rcases List.mem_or_eq_of_mem_set hx with h | h
        · exact pn x h
        · rw [h]
          have := pn _ (List.getElem_mem hkl)
          omega
      · rw [sum_set hkl, ps]
        omega)
  have hrl : ((List.range (1 + v).toNat).map fun i : Nat => D.int (i : Int)).length = (1 + v).toNat := by rw [List.length_map, List.length_range]
  rw [hrl] at ps
  obtain ⟨w0, w1⟩ := worth_of_sum vs hv paid pl pn (by omega) (by omega)
  obtain ⟨ls, _⟩ := le_sum pn
  have hbox : inBox 4 paid := fun x hx => ⟨pn x hx, by have := ls x hx; omega⟩
  have hc := c1 paid pl
  have hz : D.fzs (paid.map .int) = paid.map .int := fzs_map (fun _ => rfl) _
  have hct : colD .tuple (.lst (paid.map .int)) = some (rowD paid) := colT_mls (by rw [List.length_map, pl]; omega)
  obtain ⟨u, bag3, t3, hb3, u0, u1⟩ := T.go bag2 hb2 (worthR vs paid + 1) (by omega) (by omega)
  obtain ⟨p, hpd⟩ : ∃ p, p = (if worthR vs paid - u > 1 then worthR vs paid - u else 1) := ⟨_, rfl⟩
  have hmax : biD .max [.int 1, .int (worthR vs paid - u)] = some (.int p) := by rw [hpd]; rfl
  have hp5 : p < 5000 := by rw [hpd]; split <;> omega
  have hmin : biD .min [.int 5000, .int p] = some (.int p) := by
    show some (D.int (if p < 5000 then p else 5000)) = _
    rw [if_pos hp5]
  have hdue : 0 ≤ dueR vs p paid := by
    show 0 ≤ worthR vs paid - p
    rw [hpd]
    split <;> omega
  refine ⟨(p, paid), bag3, [some (.lst (paid.map .int)), x4, some (.int (worthR vs paid))], ⟨pl, hbox, hdue⟩, hb3, ?_⟩
  rw [L98.b__law_sale, seq_nx e1, seq_nx ((ev_for (by simp [protT, hp]) hi).trans e2)]
  generalize worthR vs paid = w at *
  rw [seq_nx (G1 := [some bag2, some (coin vs), some (.int 3), some (.lst (paid.map .int)), x4, some (.int w)]) (by
    simp [evSs, evS, evE, evEs, evT, evI, evO, bind_ok, lft_some, deref_val, deref_slot, getS_0, getS_s, derefs, takes, take, D.fz, own_val, own, retV, callE, passA, lentS, backA, asgG, asgsG, protT, protTs, List.tail_cons, hz, hct, hc, m1, hp])]
  have hsq : saleQ (p, paid) = .tup [.int p, rowD paid] := rfl
  rw [hsq]
  simp [evSs, evS, evE, evEs, evT, evI, evO, bind_ok, lft_some, deref_val, deref_slot, getS_0, getS_s, derefs, takes, take, D.fz, own_val, own, retV, callE, passA, lentS, backA, asgG, asgsG, protT, protTs, List.tail_cons, binD_add, binD_sub, t3, T.md, hmax, hmin, hct, lenOk, hsz]
theorem e_sale {n : Nat} : ∀ vs ∈ chains, ∀ {bag : D}, BagOk bag → ∃ q bag', SaleOk vs q ∧ BagOk bag' ∧ evF L98.pg (n + 2) "_law_sale" [bag, coin vs, .int 3] = .ret (saleQ q) [bag', coin vs, .int 3] := by
  intro vs hv bag hb
  have h1 := take_c n
  have h2 : ∀ r : List Int, r.length = vs.length → evF L98.pg (n + 1) "_law_worth" [coin vs, rowD r] = .ret (.int (worthR vs r)) [coin vs, rowD r] := e_lworth (n := n) vs hv
  obtain ⟨q, bag', G, a, b, e⟩ := sale_key (C := ⟨evF L98.pg (n + 1), modes L98.pg, fun i => [true, false, false].getD i false, 3⟩) hv ⟨md_law_take, by with_reducible exact h1⟩ rfl md_law_worth (by with_reducible exact h2) hb
  exact ⟨q, bag', a, b, ev_run (fd := gd_law_sale) lk_law_sale rfl (by decide) e rfl⟩
/-! ### chains -/
theorem some_c (n : Nat) {bag : D} {things : List D} (hb : BagOk bag) (h0 : things ≠ []) (hm : things.length < 1073741824) : ∃ x ∈ things, ∃ bag', evF L98.pg (n + 2) "_law_some" [bag, .lst things] = .ret x [bag', .lst things] ∧ BagOk bag' :=
  some_spec (PR := L98.pg) (n := n) lk_law_some lk_law_take hb h0 hm
theorem e_chain {n : Nat} {bag : D} (hb : BagOk bag) : ∃ vs ∈ chains, ∃ bag', evF L98.pg (n + 3) "_law_chain" [bag] = .ret (coin vs) [bag'] ∧ BagOk bag' := by
  obtain ⟨x, hx, bag', e, hb'⟩ := some_c n hb (things := chains.map rowD) (by decide) (by decide)
  obtain ⟨vs, hv, rfl⟩ := List.mem_map.mp hx
  refine ⟨vs, hv, bag', ?_, hb'⟩
  have key : ∀ C : Ctx, C.pr = (fun i => [true].getD i false) → C.md "_law_some" = [true, false] → C.cal "_law_some" [bag, .lst (chains.map rowD)] = .ret (rowD vs) [bag', .lst (chains.map rowD)] → evSs C L98.b__law_chain [some bag, none] = .ok (.rt (coin vs)) [some bag', some (rowD vs)] := by
    intro C hp m1 c1
    have hsz : sizeLine = 16777216 := rfl
    have hl : evE C (.lst (.cons (.tup (.cons (.int 1) (.cons (.int 2) .nil))) (.cons (.tup (.cons (.int 1) (.cons (.int 2) (.cons (.int 4) .nil)))) (.cons (.tup (.cons (.int 1) (.cons (.int 5) (.cons (.int 10) .nil)))) (.cons (.tup (.cons (.int 2) (.cons (.int 6) .nil))) (.cons (.tup (.cons (.int 1) (.cons (.int 3) (.cons (.int 6) .nil)))) (.cons (.tup (.cons (.int 5) (.cons (.int 10) (.cons (.int 50) .nil)))) .nil))))))) [some bag, none] = .ok (.val (.mls (chains.map rowD))) [some bag, none] := by
      kernel_rfl
    have hz : D.fzs (chains.map rowD) = chains.map rowD := fzs_map (fun _ => rfl) _
    have hcall : evE C (.call "_law_some" (.cons (.var 0) (.cons (.lst (.cons (.tup (.cons (.int 1) (.cons (.int 2) .nil))) (.cons (.tup (.cons (.int 1) (.cons (.int 2) (.cons (.int 4) .nil)))) (.cons (.tup (.cons (.int 1) (.cons (.int 5) (.cons (.int 10) .nil)))) (.cons (.tup (.cons (.int 2) (.cons (.int 6) .nil))) (.cons (.tup (.cons (.int 1) (.cons (.int 3) (.cons (.int 6) .nil)))) (.cons (.tup (.cons (.int 5) (.cons (.int 10) (.cons (.int 50) .nil)))) .nil))))))) .nil))) [some bag, none] = .ok (.val (rowD vs)) [some bag', none] := by
      refine ev_callR (evs_cons (x := .slot 0) (by simp [evE, getS_0]) (evs_cons hl evs_nil)) ?_
      generalize hch : chains.map rowD = ch at *
      simp [callE, m1, passA, take, D.fz, hz, getS_0, lentS, c1, backA]
    have e1 : evS C (.set 1 (.call "_law_some" (.cons (.var 0) (.cons (.lst (.cons (.tup (.cons (.int 1) (.cons (.int 2) .nil))) (.cons (.tup (.cons (.int 1) (.cons (.int 2) (.cons (.int 4) .nil)))) (.cons (.tup (.cons (.int 1) (.cons (.int 5) (.cons (.int 10) .nil)))) (.cons (.tup (.cons (.int 2) (.cons (.int 6) .nil))) (.cons (.tup (.cons (.int 1) (.cons (.int 3) (.cons (.int 6) .nil)))) (.cons (.tup (.cons (.int 5) (.cons (.int 10) (.cons (.int 50) .nil)))) .nil))))))) .nil)))) [some bag, none] = .ok .nx [some bag', some (rowD vs)] := ev_set (by rw [hp]; rfl) hcall rfl (show 1 < 2 by decide)
    rw [L98.b__law_chain, seq_nx e1]
    have hlenv : biD .len [rowD vs] = some (.int vs.length) := by
      show some (D.int ((vs.map D.int).length : Nat)) = _
      rw [List.length_map]
    have hmul : binD .mul (.tup [.int 40]) (.int vs.length) = some (rowD (capsR vs)) := by
      have all : ∀ vs ∈ chains, binD .mul (.tup [.int 40]) (.int vs.length) = some (rowD (capsR vs)) := by
        refine by_chain ?_ ?_ ?_ ?_ ?_ ?_ <;> kernel_rfl
      exact all vs hv
    have hcoin : coin vs = .tup [rowD vs, rowD (capsR vs)] := rfl
    rw [hcoin]
    generalize hcr : rowD (capsR vs) = cr at *
    have hcrf : cr.fz = cr := by rw [← hcr]; rfl
    simp [evSs, evS, evE, evEs, evT, evI, evO, bind_ok, lft_some, deref_val, deref_slot, getS_0, getS_s, derefs, takes, take, D.fz, own_val, own, retV, callE, passA, lentS, backA, asgG, asgsG, protT, protTs, List.tail_cons, hlenv, hmul, lenOk, hsz, hcrf]
  have hk := key ⟨evF L98.pg (n + 2), modes L98.pg, fun i => [true].getD i false, 1⟩ rfl md_law_some (by with_reducible exact e)
  exact ev_run (fd := gd_law_chain) lk_law_chain rfl (by decide) hk rfl
end Dv
end
section
set_option Elab.async false
set_option linter.all false
set_option maxRecDepth 100000
set_option maxHeartbeats 4000000
/-! Q12 (k98): the law. -/
namespace Dv
open PySem L2
theorem e_parted {n : Nat} {bag : D} (hb : BagOk bag) : ∃ bag', evF L98.pg (n + 4) "_law_parted_right" [bag] = .ret (.bl true) [bag'] := by
  obtain ⟨x, hx, bag', e, hb'⟩ := some_c (n + 1) hb (things := parts.map rowD) (by decide) (by decide)
  obtain ⟨vs, hv, rfl⟩ := List.mem_map.mp hx
  refine ⟨bag', ?_⟩
  have key : ∀ C : Ctx, C.pr = (fun i => [true].getD i false) → C.md "_law_some" = [true, false] → C.cal "_law_some" [bag, .lst (parts.map rowD)] = .ret (rowD vs) [bag', .lst (parts.map rowD)] →
      evSs C L98.b__law_parted_right [some bag, none, none, none, none, none, none, none, none, none, none, none, none, none] = evSs C (tlS L98.b__law_parted_right) [some bag', some (rowD vs), none, none, none, none, none, none, none, none, none, none, none, none] := by
    intro C hp m1 c1
    have hl : evE C (.lst (.cons (.tup (.cons (.int 2) (.cons (.int 3) .nil))) (.cons (.tup (.cons (.int 2) (.cons (.int 5) .nil))) (.cons (.tup (.cons (.int 3) (.cons (.int 4) .nil))) (.cons (.tup (.cons (.int 1) (.cons (.int 4) (.cons (.int 6) .nil)))) (.cons (.tup (.cons (.int 2) (.cons (.int 4) (.cons (.int 5) .nil)))) .nil)))))) [some bag, none, none, none, none, none, none, none, none, none, none, none, none, none] = .ok (.val (.mls (parts.map rowD))) [some bag, none, none, none, none, none, none, none, none, none, none, none, none, none] := by
      kernel_rfl
    have hz : D.fzs (parts.map rowD) = parts.map rowD := fzs_map (fun _ => rfl) _
    have hcall : evE C (.call "_law_some" (.cons (.var 0) (.cons (.lst (.cons (.tup (.cons (.int 2) (.cons (.int 3) .nil))) (.cons (.tup (.cons (.int 2) (.cons (.int 5) .nil))) (.cons (.tup (.cons (.int 3) (.cons (.int 4) .nil))) (.cons (.tup (.cons (.int 1) (.cons (.int 4) (.cons (.int 6) .nil)))) (.cons (.tup (.cons (.int 2) (.cons (.int 4) (.cons (.int 5) .nil)))) .nil)))))) .nil))) [some bag, none, none, none, none, none, none, none, none, none, none, none, none, none] = .ok (.val (rowD vs)) [some bag', none, none, none, none, none, none, none, none, none, none, none, none, none] := by
      refine ev_callR (evs_cons (x := .slot 0) (by simp [evE, getS_0]) (evs_cons hl evs_nil)) ?_
      generalize hch : parts.map rowD = ch at *
      simp [callE, m1, passA, take, D.fz, hz, getS_0, lentS, c1, backA]
    exact seq_nx (ev_set (by rw [hp]; rfl) hcall rfl (show 1 < 14 by decide))
  have hk := key ⟨evF L98.pg (n + 3), modes L98.pg, fun i => [true].getD i false, 1⟩ rfl md_law_some (by with_reducible exact e)
  have hvs : vs = [2, 3] ∨ vs = [2, 5] ∨ vs = [3, 4] ∨ vs = [1, 4, 6] ∨ vs = [2, 4, 5] := by simpa [parts] using hv
  obtain ⟨G, hG⟩ : ∃ G, evSs ⟨evF L98.pg (n + 3), modes L98.pg, fun i => [true].getD i false, 1⟩ (tlS L98.b__law_parted_right) [some bag', some (rowD vs), none, none, none, none, none, none, none, none, none, none, none, none] = .ok (.rt (.bl true)) (some bag' :: G) := by
    rcases hvs with rfl | rfl | rfl | rfl | rfl
    · exact part_0 bag'
    · exact part_1 bag'
    · exact part_2 bag'
    · exact part_3 bag'
    · exact part_4 bag'
  exact ev_run (fd := gd_law_parted_right) lk_law_parted_right rfl (by decide) (hk.trans hG) rfl
structure LawC (C : Ctx) : Prop where
  pr : C.pr = (fun i => [false].getD i false)
  T : TakeC C
  m1 : C.md "_law_chain" = [true]
  c1 : ∀ bag, BagOk bag → ∃ vs ∈ chains, ∃ bag', C.cal "_law_chain" [bag] = .ret (coin vs) [bag'] ∧ BagOk bag'
  m2 : C.md "_law_sale" = [true, false, false]
  c2 : ∀ vs ∈ chains, ∀ bag, BagOk bag → ∃ q bag', SaleOk vs q ∧ BagOk bag' ∧ C.cal "_law_sale" [bag, coin vs, .int 3] = .ret (saleQ q) [bag', coin vs, .int 3]
  m3 : C.md "_law_change_right" = [false, false, false]
  c3 : ∀ vs ∈ chains, ∀ (t : List Int) (q : Int × List Int), RowOk vs 5 t → SaleOk vs q → C.cal "_law_change_right" [coin vs, rowD t, saleQ q] = .ret (.bl true) [coin vs, rowD t, saleQ q]
  m4 : C.md "_law_greedy" = [false, false, false]
  c4 : ∀ vs ∈ chains, ∀ (t : List Int) (l : List (Int × List Int)), RowOk vs 5 t → l.length ≤ 4 → (∀ q ∈ l, SaleOk vs q) → ∃ a, C.cal "_law_greedy" [coin vs, rowD t, .lst (l.map saleQ)] = .ret (.int (gN vs t l : Nat)) [coin vs, a, .lst (l.map saleQ)]
  m5 : C.md "_law_served" = [false, false, false]
  c5 : ∀ vs ∈ chains, ∀ (t : List Int) (l : List (Int × List Int)), RowOk vs 5 t → l.length ≤ 4 → (∀ q ∈ l, SaleOk vs q) → C.cal "_law_served" [coin vs, rowD t, .lst (l.map saleQ)] = .ret (.int (gN vs t l : Nat)) [coin vs, rowD t, .lst (l.map saleQ)]
  m6 : C.md "_law_alike" = [false, false]
  c6 : ∀ d, alk d = true → szD d ≤ sizeLine → C.cal "_law_alike" [d, d] = .ret (.bl true) [d, d]
  m7 : C.md "_law_is_finer" = [false, false, false]
  c7 : ∀ vs ∈ chains, ∀ a b : List Int, a.length = vs.length → b.length = vs.length → C.cal "_law_is_finer" [coin vs, rowD a, rowD b] = .ret (.bl (finR vs a b)) [coin vs, rowD a, rowD b]
  m8 : C.md "is_finer" = [false, false, false]
  c8 : ∀ vs ∈ chains, ∀ a b : List Int, a.length = vs.length → b.length = vs.length → C.cal "is_finer" [coin vs, rowD a, rowD b] = .ret (.bl (finR vs a b)) [coin vs, rowD a, rowD b]
  m9 : C.md "small_worths" = [false, false]
  c9 : ∀ vs ∈ chains, ∀ a : List Int, a.length = vs.length → C.cal "small_worths" [coin vs, rowD a] = .ret (rowD (smallR vs a)) [coin vs, rowD a]
  m10 : C.md "_law_worths" = [false, false]
  c10 : ∀ vs ∈ chains, ∀ a : List Int, a.length = vs.length → C.cal "_law_worths" [coin vs, rowD a] = .ret (rowD (worthsR vs a)) [coin vs, rowD a]
  m11 : C.md "dealt" = [false, false, false]
  c11 : ∀ vs ∈ chains, ∀ W l : List Int, W.length = vs.length → nonneg W = true → (∀ a ∈ l, 0 ≤ a) → l.length ≤ 100 → ∃ a, C.cal "dealt" [coin vs, rowD W, rowD l] = .ret (dealD vs W l) [coin vs, a, rowD l]
section
variable {C : Ctx} {vs : List Int} {scr bag : D} {x2 x3 x4 x6 x8 x9 x10 : Option D}
/-- a row drawn -/
theorem draw_row (L : LawC C) (hv : vs ∈ chains) (hb : BagOk bag) : ∃ t bag', RowOk vs 5 t ∧ BagOk bag' ∧ evE C (.col .tuple (.comp [5] (.name 5) (.seq (.ix (.var 3) (.int 0))) .none (.call "_law_take" (.cons (.var 1) (.cons (.int 5) .nil))))) [some scr, some bag, x2, some (coin vs), x4, none, x6, none, x8, x9, x10, none] = .ok (.val (rowD t)) [some scr, some bag', x2, some (coin vs), x4, none, x6, none, x8, x9, x10, none] := by
  have hsz : sizeLine = 16777216 := rfl
  have hcl := chain_len vs hv
  have ix0 : ixD (coin vs) (.int 0) = some (rowD vs) := rfl
  have hi : evI C (.seq (.ix (.var 3) (.int 0))) [some scr, some bag, x2, some (coin vs), x4, none, x6, none, x8, x9, x10, none] = .ok (vs.map .int) [some scr, some bag, x2, some (coin vs), x4, none, x6, none, x8, x9, x10, none] := by
    simp [evSs, evS, evE, evEs, evT, evI, evO, bind_ok, lft_some, deref_val, deref_slot, getS_0, getS_s, derefs, takes, take, D.fz, own_val, own, retV, callE, passA, lentS, backA, asgG, asgsG, protT, protTs, List.tail_cons, ix0, seqOf]
  obtain ⟨ys, G', e, ⟨bag', rfl, hb'⟩, hl, hP⟩ := compL_inv (b := compB [5] (.name 5) none (evE C (.call "_law_take" (.cons (.var 1) (.cons (.int 5) .nil))))) (ds := vs.map .int) (I := fun G => ∃ bag, G = [some scr, some bag, x2, some (coin vs), x4, none, x6, none, x8, x9, x10, none] ∧ BagOk bag) (P := fun y => ∃ v : Int, y = .int v ∧ (0 ≤ v ∧ v < 5))
    ⟨bag, rfl, hb⟩ (fun d _ G hI => by
      obtain ⟨bag, rfl, hb⟩ := hI
      obtain ⟨v, bag', t, hb', v0, v1⟩ := L.T.go bag hb 5 (by decide) (by decide)
      refine ⟨.int v, [some scr, some bag', x2, some (coin vs), x4, none, x6, none, x8, x9, x10, none], ?_, ⟨bag', rfl, hb'⟩, v, rfl, v0, v1⟩
      simp [compB, evSs, evS, evE, evEs, evT, evI, evO, bind_ok, lft_some, deref_val, deref_slot, getS_0, getS_s, derefs, takes, take, D.fz, own_val, own, retV, callE, passA, lentS, backA, asgG, asgsG, protT, protTs, List.tail_cons, L.T.md, t, wipeG])
  obtain ⟨t, rfl, ht⟩ := ys_map hP
  rw [List.length_map, List.length_map] at hl
  refine ⟨t, bag', ⟨hl, ht⟩, hb', ?_⟩
  have hz : D.fzs (t.map .int) = t.map .int := fzs_map (fun _ => rfl) _
  exact ev_col (d := .lst (t.map .int)) (ev_compI hi e (by rw [List.length_map, hl]; omega)) (show some (D.lst (D.fzs _), _) = _ by rw [hz]; rfl) (colT_mls (by rw [List.length_map, hl]; omega))
/-- sales drawn -/
theorem draw_sales (L : LawC C) (hv : vs ∈ chains) (hb : BagOk bag) : ∃ (l : List (Int × List Int)) (bag' : D), l.length ≤ 4 ∧ (∀ q ∈ l, SaleOk vs q) ∧ BagOk bag' ∧ evE C (.comp [7] (.name 7) (.range (.cons (.bin .add (.int 1) (.call "_law_take" (.cons (.var 1) (.cons (.int 4) .nil)))) .nil)) .none (.call "_law_sale" (.cons (.var 1) (.cons (.var 3) (.cons (.int 3) .nil))))) [some scr, some bag, x2, some (coin vs), x4, none, x6, none, x8, x9, x10, none] = .ok (.val (.mls (l.map saleQ))) [some scr, some bag', x2, some (coin vs), x4, none, x6, none, x8, x9, x10, none] := by
  have hsz : sizeLine = 16777216 := rfl
  obtain ⟨v, bag1, t, hb1, v0, v1⟩ := L.T.go bag hb 4 (by decide) (by decide)
  have hrg : rangeD [.int (1 + v)] = some ((List.range (1 + v).toNat).map fun i : Nat => .int (i : Int)) := rangeD_int (by omega) (by omega)
  have hi : evI C (.range (.cons (.bin .add (.int 1) (.call "_law_take" (.cons (.var 1) (.cons (.int 4) .nil)))) .nil)) [some scr, some bag, x2, some (coin vs), x4, none, x6, none, x8, x9, x10, none] = .ok ((List.range (1 + v).toNat).map fun i : Nat => .int (i : Int)) [some scr, some bag1, x2, some (coin vs), x4, none, x6, none, x8, x9, x10, none] := by
    simp [evSs, evS, evE, evEs, evT, evI, evO, bind_ok, lft_some, deref_val, deref_slot, getS_0, getS_s, derefs, takes, take, D.fz, own_val, own, retV, callE, passA, lentS, backA, asgG, asgsG, protT, protTs, List.tail_cons, L.T.md, t, binD_add, hrg]
  obtain ⟨ys, G', e, ⟨bag', rfl, hb'⟩, hl, hP⟩ := compL_inv (b := compB [7] (.name 7) none (evE C (.call "_law_sale" (.cons (.var 1) (.cons (.var 3) (.cons (.int 3) .nil)))))) (ds := (List.range (1 + v).toNat).map fun i : Nat => .int (i : Int)) (I := fun G => ∃ bag, G = [some scr, some bag, x2, some (coin vs), x4, none, x6, none, x8, x9, x10, none] ∧ BagOk bag) (P := fun y => ∃ q : Int × List Int, y = saleQ q ∧ SaleOk vs q)
    ⟨bag1, rfl, hb1⟩ (fun d _ G hI => by
      obtain ⟨bag, rfl, hb⟩ := hI
      obtain ⟨q, bag', hq, hb', t⟩ := L.c2 vs hv bag hb
      refine ⟨saleQ q, [some scr, some bag', x2, some (coin vs), x4, none, x6, none, x8, x9, x10, none], ?_, ⟨bag', rfl, hb'⟩, q, rfl, hq⟩
      have hsf : (saleQ q).fz = saleQ q := rfl
      simp [compB, evSs, evS, evE, evEs, evT, evI, evO, bind_ok, lft_some, deref_val, deref_slot, getS_0, getS_s, derefs, takes, take, D.fz, own_val, own, retV, callE, passA, lentS, backA, asgG, asgsG, protT, protTs, List.tail_cons, L.m2, t, wipeG, hsf])
  obtain ⟨l, rfl, hl2⟩ := ys_map hP
  rw [List.length_map, List.length_map, List.length_range] at hl
  refine ⟨l, bag', by omega, hl2, hb', ?_⟩
  rw [ev_compI hi e (by rw [List.length_map, hl]; omega)]
  rfl
/-- amounts drawn -/
theorem draw_amounts (L : LawC C) (hv : vs ∈ chains) (hb : BagOk bag) : ∃ (l : List Int) (bag' : D), l.length ≤ 3 ∧ (∀ a ∈ l, 0 ≤ a) ∧ BagOk bag' ∧ evE C (.col .tuple (.comp [11] (.name 11) (.range (.cons (.bin .add (.int 1) (.call "_law_take" (.cons (.var 1) (.cons (.int 3) .nil)))) .nil)) .none (.bin .mul (.ix (.ix (.var 3) (.int 0)) (.int 0)) (.bin .add (.int 1) (.call "_law_take" (.cons (.var 1) (.cons (.int 8) .nil))))))) [some scr, some bag, x2, some (coin vs), x4, none, x6, none, x8, x9, x10, none] = .ok (.val (rowD l)) [some scr, some bag', x2, some (coin vs), x4, none, x6, none, x8, x9, x10, none] := by
  have hsz : sizeLine = 16777216 := rfl
  have ix0 : ixD (coin vs) (.int 0) = some (rowD vs) := rfl
  obtain ⟨v0', hv0, hv1, ixv⟩ : ∃ z : Int, 0 ≤ z ∧ z < 100 ∧ ixD (rowD vs) (.int 0) = some (.int z) := by
    have all : ∀ vs ∈ chains, ∃ z : Int, 0 ≤ z ∧ z < 100 ∧ ixD (rowD vs) (.int 0) = some (.int z) :=
      by_chain ⟨1, by decide, by decide, rfl⟩ ⟨1, by decide, by decide, rfl⟩ ⟨1, by decide, by decide, rfl⟩ ⟨2, by decide, by decide, rfl⟩ ⟨1, by decide, by decide, rfl⟩ ⟨5, by decide, by decide, rfl⟩
    exact all vs hv
  obtain ⟨v, bag1, t, hb1, v0, v1⟩ := L.T.go bag hb 3 (by decide) (by decide)
  have hrg : rangeD [.int (1 + v)] = some ((List.range (1 + v).toNat).map fun i : Nat => .int (i : Int)) := rangeD_int (by omega) (by omega)
  have hi : evI C (.range (.cons (.bin .add (.int 1) (.call "_law_take" (.cons (.var 1) (.cons (.int 3) .nil)))) .nil)) [some scr, some bag, x2, some (coin vs), x4, none, x6, none, x8, x9, x10, none] = .ok ((List.range (1 + v).toNat).map fun i : Nat => .int (i : Int)) [some scr, some bag1, x2, some (coin vs), x4, none, x6, none, x8, x9, x10, none] := by
    simp [evSs, evS, evE, evEs, evT, evI, evO, bind_ok, lft_some, deref_val, deref_slot, getS_0, getS_s, derefs, takes, take, D.fz, own_val, own, retV, callE, passA, lentS, backA, asgG, asgsG, protT, protTs, List.tail_cons, L.T.md, t, binD_add, hrg]
  obtain ⟨ys, G', e, ⟨bag', rfl, hb'⟩, hl, hP⟩ := compL_inv (b := compB [11] (.name 11) none (evE C (.bin .mul (.ix (.ix (.var 3) (.int 0)) (.int 0)) (.bin .add (.int 1) (.call "_law_take" (.cons (.var 1) (.cons (.int 8) .nil))))))) (ds := (List.range (1 + v).toNat).map fun i : Nat => .int (i : Int)) (I := fun G => ∃ bag, G = [some scr, some bag, x2, some (coin vs), x4, none, x6, none, x8, x9, x10, none] ∧ BagOk bag) (P := fun y => ∃ a : Int, y = .int a ∧ 0 ≤ a)
    ⟨bag1, rfl, hb1⟩ (fun d _ G hI => by
      obtain ⟨bag, rfl, hb⟩ := hI
      obtain ⟨u, bag', t, hb', u0, u1⟩ := L.T.go bag hb 8 (by decide) (by decide)
      have hmul : binD .mul (.int v0') (.int (1 + u)) = some (.int (v0' * (1 + u))) := binD_mul (.inl (by omega))
      refine ⟨.int (v0' * (1 + u)), [some scr, some bag', x2, some (coin vs), x4, none, x6, none, x8, x9, x10, none], ?_, ⟨bag', rfl, hb'⟩, _, rfl, Int.mul_nonneg hv0 (by omega)⟩
      simp [compB, evSs, evS, evE, evEs, evT, evI, evO, bind_ok, lft_some, deref_val, deref_slot, getS_0, getS_s, derefs, takes, take, D.fz, own_val, own, retV, callE, passA, lentS, backA, asgG, asgsG, protT, protTs, List.tail_cons, L.T.md, t, wipeG, ix0, ixv, binD_add, hmul])
  obtain ⟨l, rfl, hl2⟩ := ys_map hP
  rw [List.length_map, List.length_map, List.length_range] at hl
  refine ⟨l, bag', by omega, hl2, hb', ?_⟩
  have hz : D.fzs (l.map .int) = l.map .int := fzs_map (fun _ => rfl) _
  exact ev_col (d := .lst (l.map .int)) (ev_compI hi e (by rw [List.length_map, hl]; omega)) (show some (D.lst (D.fzs _), _) = _ by rw [hz]; rfl) (colT_mls (by rw [List.length_map, hl]; omega))
end
theorem alks_ints : ∀ l : List Int, alks (l.map D.int) = true
  | [] => rfl
  | _ :: l => by
    show (true && alks (l.map D.int)) = true
    rw [alks_ints l]; rfl
theorem szDs_ints : ∀ l : List Int, szDs (l.map D.int) = l.length
  | [] => rfl
  | _ :: l => by
    show 1 + szDs (l.map D.int) = _
    rw [szDs_ints l, List.length_cons]; omega
end Dv
end
section
set_option Elab.async false
set_option linter.all false
set_option maxRecDepth 100000
set_option maxHeartbeats 8000000
/-! Q13 (k98): one turn of the law; the law. -/
namespace Dv
open PySem L2
section
variable {C : Ctx} {vs : List Int} {scr bag : D} {x2 x3 x4 x6 x8 x9 x10 : Option D}
theorem if_right (L : LawC C) (hv : vs ∈ chains) {t : List Int} {l : List (Int × List Int)} (ht : RowOk vs 5 t) (hl4 : l.length ≤ 4) (hl : ∀ q ∈ l, SaleOk vs q) : evS C (.ife (.cmp .ne (.comp [7] (.name 7) (.seq (.var 6)) (.some (.not (.val (.call "_law_change_right" (.cons (.var 3) (.cons (.var 4) (.cons (.var 7) .nil))))))) (.int 1)) (.lst .nil)) (.cons (.ret (.bl false)) .nil) .nil) [some scr, some bag, x2, some (coin vs), some (rowD t), none, some (.mls (l.map saleQ)), none, x8, x9, x10, none] = .ok .nx [some scr, some bag, x2, some (coin vs), some (rowD t), none, some (.lst (l.map saleQ)), none, x8, x9, x10, none] := by
  have hsz : sizeLine = 16777216 := rfl
  have hz : D.fzs (l.map saleQ) = l.map saleQ := fzs_map (fun _ => rfl) _
  have hi : evI C (.seq (.var 6)) [some scr, some bag, x2, some (coin vs), some (rowD t), none, some (.mls (l.map saleQ)), none, x8, x9, x10, none] = .ok (l.map saleQ) [some scr, some bag, x2, some (coin vs), some (rowD t), none, some (.lst (l.map saleQ)), none, x8, x9, x10, none] := by
    simp [evSs, evS, evE, evEs, evT, evI, evO, bind_ok, lft_some, deref_val, deref_slot, getS_0, getS_s, derefs, takes, take, D.fz, own_val, own, retV, callE, passA, lentS, backA, asgG, asgsG, protT, protTs, List.tail_cons, seqOf, hz]
  have hc : evE C (.comp [7] (.name 7) (.seq (.var 6)) (.some (.not (.val (.call "_law_change_right" (.cons (.var 3) (.cons (.var 4) (.cons (.var 7) .nil))))))) (.int 1)) [some scr, some bag, x2, some (coin vs), some (rowD t), none, some (.mls (l.map saleQ)), none, x8, x9, x10, none] = .ok (.val (.mls [])) [some scr, some bag, x2, some (coin vs), some (rowD t), none, some (.lst (l.map saleQ)), none, x8, x9, x10, none] := by
    rw [ev_comp1 (p := fun _ => false) (f := fun _ => .int 1) hi (fun q hq => ?_) (by omega)]
    · have : (l.filter fun _ => false) = [] := by simp
      rw [this]
      rfl
    · have c := L.c3 vs hv t q ht (hl q hq)
      have hsf : (saleQ q).fz = saleQ q := rfl
      simp [compB, evSs, evS, evE, evEs, evT, evI, evO, bind_ok, lft_some, deref_val, deref_slot, getS_0, getS_s, derefs, takes, take, D.fz, own_val, own, retV, callE, passA, lentS, backA, asgG, asgsG, protT, protTs, List.tail_cons, c, L.m3, truthD, wipeG, hsf]
  rw [ife_f (ev_tcmp hc ev_lnil rfl rfl (by rfl))]
  simp [evSs]
theorem if_served (L : LawC C) (hv : vs ∈ chains) {t : List Int} {l : List (Int × List Int)} (ht : RowOk vs 5 t) (hl4 : l.length ≤ 4) (hl : ∀ q ∈ l, SaleOk vs q) : evS C (.ife (.not (.val (.call "_law_alike" (.cons (.call "_law_greedy" (.cons (.var 3) (.cons (.var 4) (.cons (.var 6) .nil)))) (.cons (.call "_law_served" (.cons (.var 3) (.cons (.var 4) (.cons (.var 6) .nil)))) .nil))))) (.cons (.ret (.bl false)) .nil) .nil) [some scr, some bag, x2, some (coin vs), some (rowD t), none, some (.lst (l.map saleQ)), none, x8, x9, x10, none] = .ok .nx [some scr, some bag, x2, some (coin vs), some (rowD t), none, some (.lst (l.map saleQ)), none, x8, x9, x10, none] := by
  obtain ⟨a, c4⟩ := L.c4 vs hv t l ht hl4 hl
  have c5 := L.c5 vs hv t l ht hl4 hl
  have c6 := L.c6 (.int (gN vs t l : Nat)) rfl (show 1 ≤ sizeLine by decide)
  generalize l.map saleQ = ls at *
  generalize ((gN vs t l : Nat) : Int) = g at *
  rw [ife_f (G1 := [some scr, some bag, x2, some (coin vs), some (rowD t), none, some (.lst ls), none, x8, x9, x10, none])]
  · simp [evSs]
  · simp [evSs, evS, evE, evEs, evT, evI, evO, bind_ok, lft_some, deref_val, deref_slot, getS_0, getS_s, derefs, takes, take, D.fz, own_val, own, retV, callE, passA, lentS, backA, asgG, asgsG, protT, protTs, List.tail_cons, c4, c5, c6, L.m4, L.m5, L.m6, truthD]
theorem if_finer (L : LawC C) (hv : vs ∈ chains) {t o : List Int} (ht : t.length = vs.length) (ho : o.length = vs.length) : evS C (.ife (.not (.val (.call "_law_alike" (.cons (.lst (.cons (.call "is_finer" (.cons (.var 3) (.cons (.var 4) (.cons (.var 8) .nil)))) (.cons (.call "small_worths" (.cons (.var 3) (.cons (.var 4) .nil))) .nil))) (.cons (.lst (.cons (.var 9) (.cons (.call "_law_worths" (.cons (.var 3) (.cons (.var 4) .nil))) .nil))) .nil))))) (.cons (.ret (.bl false)) .nil) .nil) [some scr, some bag, x2, some (coin vs), some (rowD t), none, x6, none, some (rowD o), some (.bl (finR vs t o)), x10, none] = .ok .nx [some scr, some bag, x2, some (coin vs), some (rowD t), none, x6, none, some (rowD o), some (.bl (finR vs t o)), x10, none] := by
  have hsz : sizeLine = 16777216 := rfl
  have hcl := chain_len vs hv
  have c8 := L.c8 vs hv t o ht ho
  have c9 := L.c9 vs hv t ht
  have c10 := L.c10 vs hv t ht
  rw [small_worths_eq vs hv t ht] at c9
  have c6 := L.c6 (.lst [.bl (finR vs t o), rowD (worthsR vs t)]) (by
    show (true && (alks ((worthsR vs t).map D.int) && true)) = true
    rw [alks_ints]; rfl) (by
    show 1 + (1 + ((1 + szDs ((worthsR vs t).map D.int)) + 0)) ≤ _
    rw [szDs_ints, len_worths]; omega)
  generalize worthsR vs t = w at *
  generalize finR vs t o = f at *
  rw [ife_f (G1 := [some scr, some bag, x2, some (coin vs), some (rowD t), none, x6, none, some (rowD o), some (.bl f), x10, none])]
  · simp [evSs]
  · simp [evSs, evS, evE, evEs, evT, evI, evO, bind_ok, lft_some, deref_val, deref_slot, getS_0, getS_s, derefs, takes, take, D.fz, own_val, own, retV, callE, passA, lentS, backA, asgG, asgsG, protT, protTs, List.tail_cons, D.fzs, c8, c9, c10, c6, L.m8, L.m9, L.m10, L.m6, truthD, lenOk, hsz]
theorem cmpD_is_non (d : D) : cmpD .is_ d .non = some d.isNon := by cases d <;> rfl
theorem cmpD_isnt_non (d : D) : cmpD .isnt d .non = some (!d.isNon) := by cases d <;> rfl
theorem deal_non {vs W l : List Int} : (dealD vs W l).isNon = (dealR vs W l).isNone := by
  unfold dealD
  cases dealR vs W l <;> rfl
theorem if_dealt (L : LawC C) (hv : vs ∈ chains) {t o l : List Int} (ht : RowOk vs 5 t) (ho : RowOk vs 5 o) (hl3 : l.length ≤ 3) (hl : ∀ a ∈ l, 0 ≤ a) : evS C (.ife (.and (.val (.var 9)) (.and (.cmp .isnt (.call "dealt" (.cons (.var 3) (.cons (.var 8) (.cons (.var 10) .nil)))) .non) (.cmp .is_ (.call "dealt" (.cons (.var 3) (.cons (.var 4) (.cons (.var 10) .nil)))) .non))) (.cons (.ret (.bl false)) .nil) .nil) [some scr, some bag, x2, some (coin vs), some (rowD t), none, x6, none, some (rowD o), some (.bl (finR vs t o)), some (rowD l), none] = .ok .nx [some scr, some bag, x2, some (coin vs), some (rowD t), none, x6, none, some (rowD o), some (.bl (finR vs t o)), some (rowD l), none] := by
  obtain ⟨a1, c1⟩ := L.c11 vs hv o l ho.len ho.box.nonneg hl (by omega)
  obtain ⟨a2, c2⟩ := L.c11 vs hv t l ht.len ht.box.nonneg hl (by omega)
  have i1 := cmpD_isnt_non (dealD vs o l)
  have i2 := cmpD_is_non (dealD vs t l)
  rw [deal_non] at i1 i2
  rw [ife_f (G1 := [some scr, some bag, x2, some (coin vs), some (rowD t), none, x6, none, some (rowD o), some (.bl (finR vs t o)), some (rowD l), none])]
  · simp [evSs]
  · by_cases hf : finR vs t o = true
    · by_cases hn : dealR vs o l = none
      · rw [hn] at i1
        generalize dealD vs o l = d1 at c1 i1
        rw [hf]
        simp [evSs, evS, evE, evEs, evT, evI, evO, bind_ok, lft_some, deref_val, deref_slot, getS_0, getS_s, derefs, takes, take, D.fz, own_val, own, retV, callE, passA, lentS, backA, asgG, asgsG, protT, protTs, List.tail_cons, c1, L.m11, truthD, i1]
      · have hn2 := deal_finer hv l t o ht.len ho.len ht.box.nonneg ho.box.nonneg hl hf hn
        have q1 : (dealR vs o l).isNone = false := by cases h : dealR vs o l with | none => exact absurd h hn | some _ => rfl
        have q2 : (dealR vs t l).isNone = false := by cases h : dealR vs t l with | none => exact absurd h hn2 | some _ => rfl
        rw [q1] at i1
        rw [q2] at i2
        generalize dealD vs o l = d1 at c1 i1
        generalize dealD vs t l = d2 at c2 i2
        rw [hf]
        simp [evSs, evS, evE, evEs, evT, evI, evO, bind_ok, lft_some, deref_val, deref_slot, getS_0, getS_s, derefs, takes, take, D.fz, own_val, own, retV, callE, passA, lentS, backA, asgG, asgsG, protT, protTs, List.tail_cons, c1, c2, L.m11, truthD, i1, i2]
    · rw [Bool.eq_false_iff.mpr hf]
      simp [evSs, evS, evE, evEs, evT, evI, evO, bind_ok, lft_some, deref_val, deref_slot, getS_0, getS_s, derefs, takes, take, D.fz, own_val, own, retV, callE, passA, lentS, backA, asgG, asgsG, protT, protTs, List.tail_cons, truthD]
end
def lawB : Stas := match L98.b_law with
  | .cons _ (.cons (.for_ _ _ b) _) => b
  | _ => .nil
/-- one turn -/
theorem turn {C : Ctx} (L : LawC C) {scr bag : D} {x2 x3 x4 x6 x8 x9 x10 : Option D} (hb : BagOk bag) : ∃ bag' y3 y4 y6 y8 y9 y10, BagOk bag' ∧ evSs C lawB [some scr, some bag, x2, x3, x4, none, x6, none, x8, x9, x10, none] = .ok .nx [some scr, some bag', x2, y3, y4, none, y6, none, y8, y9, y10, none] := by
  obtain ⟨vs, hv, bag1, c1, hb1⟩ := L.c1 bag hb
  obtain ⟨t, bag2, ht, hb2, e2⟩ := draw_row L hv hb1 (scr := scr) (x2 := x2) (x4 := x4) (x6 := x6) (x8 := x8) (x9 := x9) (x10 := x10)
  obtain ⟨l, bag3, hl4, hl, hb3, e3⟩ := draw_sales L hv hb2 (scr := scr) (x2 := x2) (x4 := some (rowD t)) (x6 := x6) (x8 := x8) (x9 := x9) (x10 := x10)
  obtain ⟨o, bag4, ho, hb4, e4⟩ := draw_row L hv hb3 (scr := scr) (x2 := x2) (x4 := some (rowD t)) (x6 := some (.lst (l.map saleQ))) (x8 := x8) (x9 := x9) (x10 := x10)
  obtain ⟨am, bag5, ha3, ha, hb5, e5⟩ := draw_amounts L hv hb4 (scr := scr) (x2 := x2) (x4 := some (rowD t)) (x6 := some (.lst (l.map saleQ))) (x8 := some (rowD o)) (x9 := some (.bl (finR vs t o))) (x10 := x10)
  have c7 := L.c7 vs hv t o ht.len ho.len
  refine ⟨bag5, some (coin vs), some (rowD t), some (.lst (l.map saleQ)), some (rowD o), some (.bl (finR vs t o)), some (rowD am), hb5, ?_⟩
  have pr : ∀ i, 0 < i → C.pr i = false := fun i h => by
    rw [L.pr]
    cases i with
    | zero => omega
    | succ i => rfl
  show evSs C (.cons _ (.cons _ (.cons _ (.cons _ (.cons _ (.cons _ (.cons _ (.cons _ (.cons _ (.cons _ _)))))))))) _ = _
  rw [seq_nx (G1 := [some scr, some bag1, x2, some (coin vs), x4, none, x6, none, x8, x9, x10, none]) (by simp [evSs, evS, evE, evEs, evT, evI, evO, bind_ok, lft_some, deref_val, deref_slot, getS_0, getS_s, derefs, takes, take, D.fz, own_val, own, retV, callE, passA, lentS, backA, asgG, asgsG, protT, protTs, List.tail_cons, c1, L.m1, pr])]
  rw [seq_nx (G1 := [some scr, some bag2, x2, some (coin vs), some (rowD t), none, x6, none, x8, x9, x10, none]) (ev_set (pr 4 (by decide)) e2 rfl (show 4 < 12 by decide))]
  rw [seq_nx (G1 := [some scr, some bag3, x2, some (coin vs), some (rowD t), none, some (.mls (l.map saleQ)), none, x8, x9, x10, none]) (ev_set (pr 6 (by decide)) e3 rfl (show 6 < 12 by decide))]
  rw [seq_nx (if_right L hv ht hl4 hl), seq_nx (if_served L hv ht hl4 hl)]
  rw [seq_nx (G1 := [some scr, some bag4, x2, some (coin vs), some (rowD t), none, some (.lst (l.map saleQ)), none, some (rowD o), x9, x10, none]) (ev_set (pr 8 (by decide)) e4 rfl (show 8 < 12 by decide))]
  rw [seq_nx (G1 := [some scr, some bag4, x2, some (coin vs), some (rowD t), none, some (.lst (l.map saleQ)), none, some (rowD o), some (.bl (finR vs t o)), x10, none]) (by
    generalize l.map saleQ = ls
    generalize finR vs t o = f at *
    simp [evSs, evS, evE, evEs, evT, evI, evO, bind_ok, lft_some, deref_val, deref_slot, getS_0, getS_s, derefs, takes, take, D.fz, own_val, own, retV, callE, passA, lentS, backA, asgG, asgsG, protT, protTs, List.tail_cons, c7, L.m7, pr])]
  rw [seq_nx (if_finer L hv ht.len ho.len)]
  rw [seq_nx (G1 := [some scr, some bag5, x2, some (coin vs), some (rowD t), none, some (.lst (l.map saleQ)), none, some (rowD o), some (.bl (finR vs t o)), some (rowD am), none]) (ev_set (pr 10 (by decide)) e5 rfl (show 10 < 12 by decide))]
  rw [seq_nx (if_dealt L hv ht ho ha3 ha)]
  simp [evSs]
theorem law_true {n : Nat} {ns : List Int} (hk : ns.length ≤ 63) : ∃ as, evF L98.pg (n + 7) "law" [.scr ns] = .ret (.bl true) as := by
  obtain ⟨bag, e0, hb⟩ := ev_bag (PR := L98.pg) (n := n + 5) (ns := ns) lk_law_bag hk
  have L : LawC ⟨evF L98.pg (n + 6), modes L98.pg, fun i => [false].getD i false, 1⟩ := by
    have d0 := take_c (n + 5)
    have d1 : ∀ bag, BagOk bag → ∃ vs ∈ chains, ∃ bag', evF L98.pg (n + 6) "_law_chain" [bag] = .ret (coin vs) [bag'] ∧ BagOk bag' := fun bag hb => e_chain (n := n + 3) hb
    have d2 : ∀ vs ∈ chains, ∀ bag, BagOk bag → ∃ q bag', SaleOk vs q ∧ BagOk bag' ∧ evF L98.pg (n + 6) "_law_sale" [bag, coin vs, .int 3] = .ret (saleQ q) [bag', coin vs, .int 3] := fun vs hv bag hb => e_sale (n := n + 4) vs hv hb
    have d3 : ∀ vs ∈ chains, ∀ (t : List Int) (q : Int × List Int), RowOk vs 5 t → SaleOk vs q → evF L98.pg (n + 6) "_law_change_right" [coin vs, rowD t, saleQ q] = .ret (.bl true) [coin vs, rowD t, saleQ q] := fun vs hv t q ht hq => e_cright (n := n) vs hv ht (by decide) hq
    have d4 : ∀ vs ∈ chains, ∀ (t : List Int) (l : List (Int × List Int)), RowOk vs 5 t → l.length ≤ 4 → (∀ q ∈ l, SaleOk vs q) → ∃ a, evF L98.pg (n + 6) "_law_greedy" [coin vs, rowD t, .lst (l.map saleQ)] = .ret (.int (gN vs t l : Nat)) [coin vs, a, .lst (l.map saleQ)] := fun vs hv t l ht hl h => e_greedy (n := n + 2) vs hv ht (by omega) h
    have d5 : ∀ vs ∈ chains, ∀ (t : List Int) (l : List (Int × List Int)), RowOk vs 5 t → l.length ≤ 4 → (∀ q ∈ l, SaleOk vs q) → evF L98.pg (n + 6) "_law_served" [coin vs, rowD t, .lst (l.map saleQ)] = .ret (.int (gN vs t l : Nat)) [coin vs, rowD t, .lst (l.map saleQ)] := fun vs hv t l ht hl h => e_served (n := n + 2) vs hv ht (by omega) h
    have d6 : ∀ d, alk d = true → szD d ≤ sizeLine → evF L98.pg (n + 6) "_law_alike" [d, d] = .ret (.bl true) [d, d] := fun d h1 h2 => e_alike (n := n + 5) h1 h2
    have d7 : ∀ vs ∈ chains, ∀ a b : List Int, a.length = vs.length → b.length = vs.length → evF L98.pg (n + 6) "_law_is_finer" [coin vs, rowD a, rowD b] = .ret (.bl (finR vs a b)) [coin vs, rowD a, rowD b] := fun vs hv a b ha hb => e_lfiner (n := n + 2) vs hv a b ha hb
    have d8 : ∀ vs ∈ chains, ∀ a b : List Int, a.length = vs.length → b.length = vs.length → evF L98.pg (n + 6) "is_finer" [coin vs, rowD a, rowD b] = .ret (.bl (finR vs a b)) [coin vs, rowD a, rowD b] := fun vs hv a b ha hb => e_finer (n := n + 1) vs hv a b ha hb
    have d9 : ∀ vs ∈ chains, ∀ a : List Int, a.length = vs.length → evF L98.pg (n + 6) "small_worths" [coin vs, rowD a] = .ret (rowD (smallR vs a)) [coin vs, rowD a] := fun vs hv a ha => e_small (n := n + 2) vs hv a ha
    have d10 : ∀ vs ∈ chains, ∀ a : List Int, a.length = vs.length → evF L98.pg (n + 6) "_law_worths" [coin vs, rowD a] = .ret (rowD (worthsR vs a)) [coin vs, rowD a] := fun vs hv a ha => e_worths (n := n + 3) vs hv a ha
    have d11 : ∀ vs ∈ chains, ∀ W l : List Int, W.length = vs.length → nonneg W = true → (∀ a ∈ l, 0 ≤ a) → l.length ≤ 100 → ∃ a, evF L98.pg (n + 6) "dealt" [coin vs, rowD W, rowD l] = .ret (dealD vs W l) [coin vs, a, rowD l] := fun vs hv W l h1 h2 h3 h4 => e_dealt (n := n + 3) vs hv h1 h2 h3 h4
    exact ⟨rfl, ⟨md_law_take, by with_reducible exact d0⟩, md_law_chain, by with_reducible exact d1, md_law_sale, by with_reducible exact d2, md_law_change_right, by with_reducible exact d3, md_law_greedy, by with_reducible exact d4, md_law_served, by with_reducible exact d5, md_law_alike, by with_reducible exact d6, md_law_is_finer, by with_reducible exact d7, md_is_finer, by with_reducible exact d8, md_small_worths, by with_reducible exact d9, md_law_worths, by with_reducible exact d10, md_dealt, by with_reducible exact d11⟩
  have p0 : ∀ bag, BagOk bag → ∃ bag', evF L98.pg (n + 6) "_law_parted_right" [bag] = .ret (.bl true) [bag'] := fun bag hb => e_parted (n := n + 2) hb
  have key : ∀ C : Ctx, LawC C → C.np = 1 → C.md "_law_bag" = [false] → C.cal "_law_bag" [.scr ns] = .ret bag [.scr ns] → C.md "_law_parted_right" = [true] → (∀ bag, BagOk bag → ∃ bag', C.cal "_law_parted_right" [bag] = .ret (.bl true) [bag']) →
      ∃ G, evSs C L98.b_law [some (.scr ns), none, none, none, none, none, none, none, none, none, none, none] = .ok (.rt (.bl true)) (some (.scr ns) :: G) := by
    intro C L hnp mb cb mp cp
    have pr : ∀ i, 0 < i → C.pr i = false := fun i h => by
      rw [L.pr]
      cases i with
      | zero => omega
      | succ i => rfl
    have e1 : evS C (.set 1 (.call "_law_bag" (.cons (.var 0) .nil))) [some (.scr ns), none, none, none, none, none, none, none, none, none, none, none] = .ok .nx [some (.scr ns), some bag, none, none, none, none, none, none, none, none, none, none] := by
      simp [evSs, evS, evE, evEs, evT, evI, evO, bind_ok, lft_some, deref_val, deref_slot, getS_0, getS_s, derefs, takes, take, D.fz, own_val, own, retV, callE, passA, lentS, backA, asgG, asgsG, protT, protTs, List.tail_cons, cb, mb, pr]
    have hi : evI C (.range (.cons (.int 5) .nil)) [some (.scr ns), some bag, none, none, none, none, none, none, none, none, none, none] = .ok ((List.range 5).map fun i : Nat => .int (i : Int)) [some (.scr ns), some bag, none, none, none, none, none, none, none, none, none, none] := by
      have hrg : rangeD [.int 5] = some ((List.range 5).map fun i : Nat => .int (i : Int)) := rangeD_int (by decide) (by decide)
      generalize (List.range 5).map (fun i : Nat => D.int (i : Int)) = z at *
      simp [evSs, evS, evE, evEs, evT, evI, evO, bind_ok, lft_some, deref_val, deref_slot, getS_0, getS_s, derefs, takes, take, D.fz, own_val, own, retV, callE, passA, lentS, backA, asgG, asgsG, protT, protTs, List.tail_cons, hrg]
    obtain ⟨G', e2, bag', x2, x3, x4, x6, x8, x9, x10, rfl, hb'⟩ := forL_inv (b := fun d G => match asgG (.name 2) d G with
        | none => .no
        | some G => evSs C lawB G) (ds := (List.range 5).map fun i : Nat => .int (i : Int))
      (I := fun _ G => ∃ (bag : D) (x2 x3 x4 x6 x8 x9 x10 : Option D), G = [some (.scr ns), some bag, x2, x3, x4, none, x6, none, x8, x9, x10, none] ∧ BagOk bag)
      ⟨bag, none, none, none, none, none, none, none, rfl, hb⟩
      (fun i d G _ hI => by
        obtain ⟨bag, x2, x3, x4, x6, x8, x9, x10, rfl, hb⟩ := hI
        obtain ⟨bag', y3, y4, y6, y8, y9, y10, hb', e⟩ := turn L (scr := .scr ns) (x2 := some d) (x3 := x3) (x4 := x4) (x6 := x6) (x8 := x8) (x9 := x9) (x10 := x10) hb
        have ea : asgG (.name 2) d [some (.scr ns), some bag, x2, x3, x4, none, x6, none, x8, x9, x10, none] = some [some (.scr ns), some bag, some d, x3, x4, none, x6, none, x8, x9, x10, none] := by simp [asgG]
        refine ⟨_, ?_, bag', some d, y3, y4, y6, y8, y9, y10, rfl, hb'⟩
        rw [ea]
        exact e)
    obtain ⟨bag2, cpp⟩ := cp bag' hb'
    refine ⟨[some bag2, x2, x3, x4, none, x6, none, x8, x9, x10, none], ?_⟩
    have e3 := (ev_for (C := C) (b := lawB) (tg := .name 2) (by simp [protT, pr]) hi).trans e2
    rw [L98.b_law, seq_nx e1]
    refine (seq_nx e3).trans ?_
    simp [evSs, evS, evE, evEs, evT, evI, evO, bind_ok, lft_some, deref_val, deref_slot, getS_0, getS_s, derefs, takes, take, D.fz, own_val, own, retV, callE, passA, lentS, backA, asgG, asgsG, protT, protTs, List.tail_cons, cpp, mp]
  obtain ⟨G, hG⟩ := key _ L rfl md_law_bag (by with_reducible exact e0) md_law_parted_right (by with_reducible exact p0)
  exact ⟨_, ev_run (fd := gd_law) lk_law rfl (by decide) hG rfl⟩
end Dv
end
section
set_option Elab.async false
set_option linter.all false
set_option maxRecDepth 100000
set_option maxHeartbeats 2000000
namespace L98
open PySem PySem.Spec PyProof.Rows L2 Dv
def d_is_integer : He.DefD := ⟨("is_integer", none), "is_integer", "is_integer", defArgs (top 5), defBody (top 5), defScope (top 5), [], []⟩
def d_are_all : He.DefD := ⟨("are_all", none), "are_all", "are_all", defArgs (top 6), defBody (top 6), defScope (top 6), [], []⟩
def d_are_integers : He.DefD := ⟨("are_integers", none), "are_integers", "are_integers", defArgs (top 7), defBody (top 7), defScope (top 7), [], []⟩
def d_is_above : He.DefD := ⟨("is_above", none), "is_above", "is_above", defArgs (top 9), defBody (top 9), defScope (top 9), [], []⟩
def d_added : He.DefD := ⟨("added", none), "added", "added", defArgs (top 10), defBody (top 10), defScope (top 10), [], []⟩
def d_less : He.DefD := ⟨("less", none), "less", "less", defArgs (top 11), defBody (top 11), defScope (top 11), [], []⟩
def d_worth : He.DefD := ⟨("worth", none), "worth", "worth", defArgs (top 12), defBody (top 12), defScope (top 12), [], []⟩
def d_is_chain_here : He.DefD := ⟨("is_chain_here", none), "is_chain_here", "is_chain_here", defArgs (top 14), defBody (top 14), defScope (top 14), [], []⟩
def d_need_chain : He.DefD := ⟨("need_chain", none), "need_chain", "need_chain", defArgs (top 15), defBody (top 15), defScope (top 15), [], []⟩
def d_small_worths : He.DefD := ⟨("small_worths", none), "small_worths", "small_worths", defArgs (top 16), defBody (top 16), defScope (top 16), [], []⟩
def d_is_finer : He.DefD := ⟨("is_finer", none), "is_finer", "is_finer", defArgs (top 17), defBody (top 17), defScope (top 17), [], []⟩
def d_greatest_first : He.DefD := ⟨("greatest_first", none), "greatest_first", "greatest_first", defArgs (top 18), defBody (top 18), defScope (top 18), [], []⟩
def d_dealt : He.DefD := ⟨("dealt", none), "dealt", "dealt", defArgs (top 19), defBody (top 19), defScope (top 19), [], []⟩
def d_finest_change : He.DefD := ⟨("finest_change", none), "finest_change", "finest_change", defArgs (top 21), defBody (top 21), defScope (top 21), [], []⟩
def d_is_finest : He.DefD := ⟨("is_finest", none), "is_finest", "is_finest", defArgs (top 22), defBody (top 22), defScope (top 22), [], []⟩
def d_finest_behind : He.DefD := ⟨("finest_behind", none), "finest_behind", "finest_behind", defArgs (top 23), defBody (top 23), defScope (top 23), [], []⟩
def d_parting_rows : He.DefD := ⟨("parting_rows", none), "parting_rows", "parting_rows", defArgs (top 24), defBody (top 24), defScope (top 24), [], []⟩
def d__law_bag : He.DefD := ⟨("_law_bag", none), "_law_bag", "_law_bag", defArgs (top 26), defBody (top 26), defScope (top 26), [], []⟩
def d__law_take : He.DefD := ⟨("_law_take", none), "_law_take", "_law_take", defArgs (top 27), defBody (top 27), defScope (top 27), [], []⟩
def d__law_some : He.DefD := ⟨("_law_some", none), "_law_some", "_law_some", defArgs (top 28), defBody (top 28), defScope (top 28), [], []⟩
def d__law_alike : He.DefD := ⟨("_law_alike", none), "_law_alike", "_law_alike", defArgs (top 29), defBody (top 29), defScope (top 29), [], []⟩
def d__law_plus : He.DefD := ⟨("_law_plus", none), "_law_plus", "_law_plus", defArgs (top 30), defBody (top 30), defScope (top 30), [], []⟩
def d__law_less : He.DefD := ⟨("_law_less", none), "_law_less", "_law_less", defArgs (top 31), defBody (top 31), defScope (top 31), [], []⟩
def d__law_worth : He.DefD := ⟨("_law_worth", none), "_law_worth", "_law_worth", defArgs (top 32), defBody (top 32), defScope (top 32), [], []⟩
def d__law_rows_worth : He.DefD := ⟨("_law_rows_worth", none), "_law_rows_worth", "_law_rows_worth", defArgs (top 33), defBody (top 33), defScope (top 33), [], []⟩
def d__law_due : He.DefD := ⟨("_law_due", none), "_law_due", "_law_due", defArgs (top 34), defBody (top 34), defScope (top 34), [], []⟩
def d__law_changes : He.DefD := ⟨("_law_changes", none), "_law_changes", "_law_changes", defArgs (top 35), defBody (top 35), defScope (top 35), [], []⟩
def d__law_sale : He.DefD := ⟨("_law_sale", none), "_law_sale", "_law_sale", defArgs (top 36), defBody (top 36), defScope (top 36), [], []⟩
def d__law_chain : He.DefD := ⟨("_law_chain", none), "_law_chain", "_law_chain", defArgs (top 37), defBody (top 37), defScope (top 37), [], []⟩
def d__law_worths : He.DefD := ⟨("_law_worths", none), "_law_worths", "_law_worths", defArgs (top 38), defBody (top 38), defScope (top 38), [], []⟩
def d__law_is_finer : He.DefD := ⟨("_law_is_finer", none), "_law_is_finer", "_law_is_finer", defArgs (top 39), defBody (top 39), defScope (top 39), [], []⟩
def d__law_served : He.DefD := ⟨("_law_served", none), "_law_served", "_law_served", defArgs (top 40), defBody (top 40), defScope (top 40), [], []⟩
def d__law_greedy : He.DefD := ⟨("_law_greedy", none), "_law_greedy", "_law_greedy", defArgs (top 41), defBody (top 41), defScope (top 41), [], []⟩
def d__law_change_right : He.DefD := ⟨("_law_change_right", none), "_law_change_right", "_law_change_right", defArgs (top 42), defBody (top 42), defScope (top 42), [], []⟩
def d__law_parted_right : He.DefD := ⟨("_law_parted_right", none), "_law_parted_right", "_law_parted_right", defArgs (top 43), defBody (top 43), defScope (top 43), [], []⟩
def d_law : He.DefD := ⟨("law", none), "law", "law", defArgs (top 44), defBody (top 44), defScope (top 44), [], []⟩
def fn : List He.DefD := ((d_is_integer : He.DefD) :: (d_are_all : He.DefD) :: (d_are_integers : He.DefD) :: (d_is_above : He.DefD) :: (d_added : He.DefD) :: (d_less : He.DefD) :: (d_worth : He.DefD) :: (d_is_chain_here : He.DefD) :: (d_need_chain : He.DefD) :: (d_small_worths : He.DefD) :: (d_is_finer : He.DefD) :: (d_greatest_first : He.DefD) :: (d_dealt : He.DefD) :: (d_finest_change : He.DefD) :: (d_is_finest : He.DefD) :: (d_finest_behind : He.DefD) :: (d_parting_rows : He.DefD) :: (d__law_bag : He.DefD) :: (d__law_take : He.DefD) :: (d__law_some : He.DefD) :: (d__law_alike : He.DefD) :: (d__law_plus : He.DefD) :: (d__law_less : He.DefD) :: (d__law_worth : He.DefD) :: (d__law_rows_worth : He.DefD) :: (d__law_due : He.DefD) :: (d__law_changes : He.DefD) :: (d__law_sale : He.DefD) :: (d__law_chain : He.DefD) :: (d__law_worths : He.DefD) :: (d__law_is_finer : He.DefD) :: (d__law_served : He.DefD) :: (d__law_greedy : He.DefD) :: (d__law_change_right : He.DefD) :: (d__law_parted_right : He.DefD) :: (d_law : He.DefD) :: [])
def fa : List He.Fa := ((.glo "is_integer" : He.Fa) :: (.glo "are_all" : He.Fa) :: (.glo "are_integers" : He.Fa) :: (.glo "is_above" : He.Fa) :: (.glo "added" : He.Fa) :: (.glo "less" : He.Fa) :: (.glo "worth" : He.Fa) :: (.glo "is_chain_here" : He.Fa) :: (.glo "need_chain" : He.Fa) :: (.glo "small_worths" : He.Fa) :: (.glo "is_finer" : He.Fa) :: (.glo "greatest_first" : He.Fa) :: (.glo "dealt" : He.Fa) :: (.glo "finest_change" : He.Fa) :: (.glo "is_finest" : He.Fa) :: (.glo "finest_behind" : He.Fa) :: (.glo "parting_rows" : He.Fa) :: (.glo "_law_bag" : He.Fa) :: (.glo "_law_take" : He.Fa) :: (.glo "_law_some" : He.Fa) :: (.glo "_law_alike" : He.Fa) :: (.glo "_law_plus" : He.Fa) :: (.glo "_law_less" : He.Fa) :: (.glo "_law_worth" : He.Fa) :: (.glo "_law_rows_worth" : He.Fa) :: (.glo "_law_due" : He.Fa) :: (.glo "_law_changes" : He.Fa) :: (.glo "_law_sale" : He.Fa) :: (.glo "_law_chain" : He.Fa) :: (.glo "_law_worths" : He.Fa) :: (.glo "_law_is_finer" : He.Fa) :: (.glo "_law_served" : He.Fa) :: (.glo "_law_greedy" : He.Fa) :: (.glo "_law_change_right" : He.Fa) :: (.glo "_law_parted_right" : He.Fa) :: (.glo "law" : He.Fa) :: (.free "abs" : He.Fa) :: (.free "all" : He.Fa) :: (.free "bool" : He.Fa) :: (.free "dict" : He.Fa) :: (.free "enumerate" : He.Fa) :: (.free "int" : He.Fa) :: (.free "isinstance" : He.Fa) :: (.free "len" : He.Fa) :: (.free "list" : He.Fa) :: (.free "max" : He.Fa) :: (.free "min" : He.Fa) :: (.free "range" : He.Fa) :: (.free "sorted" : He.Fa) :: (.free "str" : He.Fa) :: (.free "sum" : He.Fa) :: (.free "tuple" : He.Fa) :: (.free "zip" : He.Fa) :: [])
def loose0 : List Str := ["_wall", "__name__", "CoinError", "Refused", "is_integer", "are_all", "are_integers", "is_above", "added", "less", "worth", "is_chain_here", "need_chain", "small_worths", "is_finer", "greatest_first", "dealt", "finest_change", "is_finest", "finest_behind", "parting_rows", "_law_bag", "_law_take", "_law_some", "_law_alike", "_law_plus", "_law_less", "_law_worth", "_law_rows_worth", "_law_due"]
def loose1 : List Str := ["_law_changes", "_law_sale", "_law_chain", "_law_worths", "_law_is_finer", "_law_served", "_law_greedy", "_law_change_right", "_law_parted_right"]
def loose : List Str := loose0 ++ loose1
abbrev Rw : PySem.W.OpenRow := PySem.W.OpenLaw.row PySem.Challenge.rw_coinready_k98_whole_greatest_first_in_ch
abbrev hk : PySem.W.Hook := He.hookD 4 fa fn
def ob (s : PySem.W.SharedT) : He.AlD := He.obsDG 4 fa fn (HandSHeadRun.getT s)
theorem ob_eq (s : PySem.W.SharedT) : ob s = hk.obs s.abs := He.obsDG_eq (HandSHeadRun.getT_eq s)
theorem run (w : World) : HandSHeadRun.RunEq Rw (PySem.W.view Rw.prog [44]) hk ob 4000 loose w := by
  intro os
  kernel_rfl
section
variable {P : Program} {w : World} {K : PySem.W.Frag} {mg : Str → Option Value} {base : Heap} {xf : Str → List Str} {h : Heap}
theorem f_is_integer (X : K.In h) (G : h.Ns mainGlobals mg) (c : He.SaysD fa fn K) : Df P w K mg base xf pg sg fr "is_integer" 1 := by
  obtain ⟨fdat, FD⟩ := c.def_ 0 (d := d_is_integer) rfl
  exact ⟨_, fdat, "is_integer", defArgs (top 5), defBody (top 5), defScope (top 5), _, _, ⟨1, 1, [false], b_is_integer⟩, FD, s_is_integer, rfl, rfl, rfl, rfl, He.glo_ok X G (c.fact 0 (f := .glo "is_integer") rfl),
    FunD.bindsN FD fun _ _ _ _ _ _ us hl => match us, hl with | [_], _ => rfl, fun n cdv A outer s H E O pw => t_is_integer O pw⟩
theorem f_are_all (X : K.In h) (G : h.Ns mainGlobals mg) (c : He.SaysD fa fn K) : Df P w K mg base xf pg sg fr "are_all" 2 := by
  obtain ⟨fdat, FD⟩ := c.def_ 1 (d := d_are_all) rfl
  exact ⟨_, fdat, "are_all", defArgs (top 6), defBody (top 6), defScope (top 6), _, _, ⟨2, 3, [false, false], b_are_all⟩, FD, s_are_all, rfl, rfl, rfl, rfl, He.glo_ok X G (c.fact 1 (f := .glo "are_all") rfl),
    FunD.bindsN FD fun _ _ _ _ _ _ us hl => match us, hl with | [_, _], _ => rfl, fun n cdv A outer s H E O pw => t_are_all O pw⟩
theorem f_are_integers (X : K.In h) (G : h.Ns mainGlobals mg) (c : He.SaysD fa fn K) : Df P w K mg base xf pg sg fr "are_integers" 1 := by
  obtain ⟨fdat, FD⟩ := c.def_ 2 (d := d_are_integers) rfl
  exact ⟨_, fdat, "are_integers", defArgs (top 7), defBody (top 7), defScope (top 7), _, _, ⟨1, 1, [false], b_are_integers⟩, FD, s_are_integers, rfl, rfl, rfl, rfl, He.glo_ok X G (c.fact 2 (f := .glo "are_integers") rfl),
    FunD.bindsN FD fun _ _ _ _ _ _ us hl => match us, hl with | [_], _ => rfl, fun n cdv A outer s H E O pw => t_are_integers O pw⟩
theorem f_is_above (X : K.In h) (G : h.Ns mainGlobals mg) (c : He.SaysD fa fn K) : Df P w K mg base xf pg sg fr "is_above" 2 := by
  obtain ⟨fdat, FD⟩ := c.def_ 3 (d := d_is_above) rfl
  exact ⟨_, fdat, "is_above", defArgs (top 9), defBody (top 9), defScope (top 9), _, _, ⟨2, 4, [false, false], b_is_above⟩, FD, s_is_above, rfl, rfl, rfl, rfl, He.glo_ok X G (c.fact 3 (f := .glo "is_above") rfl),
    FunD.bindsN FD fun _ _ _ _ _ _ us hl => match us, hl with | [_, _], _ => rfl, fun n cdv A outer s H E O pw => t_is_above O pw⟩
theorem f_added (X : K.In h) (G : h.Ns mainGlobals mg) (c : He.SaysD fa fn K) : Df P w K mg base xf pg sg fr "added" 2 := by
  obtain ⟨fdat, FD⟩ := c.def_ 4 (d := d_added) rfl
  exact ⟨_, fdat, "added", defArgs (top 10), defBody (top 10), defScope (top 10), _, _, ⟨2, 4, [false, false], b_added⟩, FD, s_added, rfl, rfl, rfl, rfl, He.glo_ok X G (c.fact 4 (f := .glo "added") rfl),
    FunD.bindsN FD fun _ _ _ _ _ _ us hl => match us, hl with | [_, _], _ => rfl, fun n cdv A outer s H E O pw => t_added O pw⟩
theorem f_less (X : K.In h) (G : h.Ns mainGlobals mg) (c : He.SaysD fa fn K) : Df P w K mg base xf pg sg fr "less" 2 := by
  obtain ⟨fdat, FD⟩ := c.def_ 5 (d := d_less) rfl
  exact ⟨_, fdat, "less", defArgs (top 11), defBody (top 11), defScope (top 11), _, _, ⟨2, 4, [false, false], b_less⟩, FD, s_less, rfl, rfl, rfl, rfl, He.glo_ok X G (c.fact 5 (f := .glo "less") rfl),
    FunD.bindsN FD fun _ _ _ _ _ _ us hl => match us, hl with | [_, _], _ => rfl, fun n cdv A outer s H E O pw => t_less O pw⟩
theorem f_worth (X : K.In h) (G : h.Ns mainGlobals mg) (c : He.SaysD fa fn K) : Df P w K mg base xf pg sg fr "worth" 2 := by
  obtain ⟨fdat, FD⟩ := c.def_ 6 (d := d_worth) rfl
  exact ⟨_, fdat, "worth", defArgs (top 12), defBody (top 12), defScope (top 12), _, _, ⟨2, 4, [false, false], b_worth⟩, FD, s_worth, rfl, rfl, rfl, rfl, He.glo_ok X G (c.fact 6 (f := .glo "worth") rfl),
    FunD.bindsN FD fun _ _ _ _ _ _ us hl => match us, hl with | [_, _], _ => rfl, fun n cdv A outer s H E O pw => t_worth O pw⟩
theorem f_is_chain_here (X : K.In h) (G : h.Ns mainGlobals mg) (c : He.SaysD fa fn K) : Df P w K mg base xf pg sg fr "is_chain_here" 1 := by
  obtain ⟨fdat, FD⟩ := c.def_ 7 (d := d_is_chain_here) rfl
  exact ⟨_, fdat, "is_chain_here", defArgs (top 14), defBody (top 14), defScope (top 14), _, _, ⟨1, 3, [false], b_is_chain_here⟩, FD, s_is_chain_here, rfl, rfl, rfl, rfl, He.glo_ok X G (c.fact 7 (f := .glo "is_chain_here") rfl),
    FunD.bindsN FD fun _ _ _ _ _ _ us hl => match us, hl with | [_], _ => rfl, fun n cdv A outer s H E O pw => t_is_chain_here O pw⟩
theorem f_need_chain (X : K.In h) (G : h.Ns mainGlobals mg) (c : He.SaysD fa fn K) : Df P w K mg base xf pg sg fr "need_chain" 1 := by
  obtain ⟨fdat, FD⟩ := c.def_ 8 (d := d_need_chain) rfl
  exact ⟨_, fdat, "need_chain", defArgs (top 15), defBody (top 15), defScope (top 15), _, _, ⟨1, 1, [false], b_need_chain⟩, FD, s_need_chain, rfl, rfl, rfl, rfl, He.glo_ok X G (c.fact 8 (f := .glo "need_chain") rfl),
    FunD.bindsN FD fun _ _ _ _ _ _ us hl => match us, hl with | [_], _ => rfl, fun n cdv A outer s H E O pw => t_need_chain O pw⟩
theorem f_small_worths (X : K.In h) (G : h.Ns mainGlobals mg) (c : He.SaysD fa fn K) : Df P w K mg base xf pg sg fr "small_worths" 2 := by
  obtain ⟨fdat, FD⟩ := c.def_ 9 (d := d_small_worths) rfl
  exact ⟨_, fdat, "small_worths", defArgs (top 16), defBody (top 16), defScope (top 16), _, _, ⟨2, 5, [false, false], b_small_worths⟩, FD, s_small_worths, rfl, rfl, rfl, rfl, He.glo_ok X G (c.fact 9 (f := .glo "small_worths") rfl),
    FunD.bindsN FD fun _ _ _ _ _ _ us hl => match us, hl with | [_, _], _ => rfl, fun n cdv A outer s H E O pw => t_small_worths O pw⟩
theorem f_is_finer (X : K.In h) (G : h.Ns mainGlobals mg) (c : He.SaysD fa fn K) : Df P w K mg base xf pg sg fr "is_finer" 3 := by
  obtain ⟨fdat, FD⟩ := c.def_ 10 (d := d_is_finer) rfl
  exact ⟨_, fdat, "is_finer", defArgs (top 17), defBody (top 17), defScope (top 17), _, _, ⟨3, 6, [false, false, false], b_is_finer⟩, FD, s_is_finer, rfl, rfl, rfl, rfl, He.glo_ok X G (c.fact 10 (f := .glo "is_finer") rfl),
    FunD.bindsN FD fun _ _ _ _ _ _ us hl => match us, hl with | [_, _, _], _ => rfl, fun n cdv A outer s H E O pw => t_is_finer O pw⟩
theorem f_greatest_first (X : K.In h) (G : h.Ns mainGlobals mg) (c : He.SaysD fa fn K) : Df P w K mg base xf pg sg fr "greatest_first" 3 := by
  obtain ⟨fdat, FD⟩ := c.def_ 11 (d := d_greatest_first) rfl
  exact ⟨_, fdat, "greatest_first", defArgs (top 18), defBody (top 18), defScope (top 18), _, _, ⟨3, 7, [false, false, false], b_greatest_first⟩, FD, s_greatest_first, rfl, rfl, rfl, rfl, He.glo_ok X G (c.fact 11 (f := .glo "greatest_first") rfl),
    FunD.bindsN FD fun _ _ _ _ _ _ us hl => match us, hl with | [_, _, _], _ => rfl, fun n cdv A outer s H E O pw => t_greatest_first O pw⟩
theorem f_dealt (X : K.In h) (G : h.Ns mainGlobals mg) (c : He.SaysD fa fn K) : Df P w K mg base xf pg sg fr "dealt" 3 := by
  obtain ⟨fdat, FD⟩ := c.def_ 12 (d := d_dealt) rfl
  exact ⟨_, fdat, "dealt", defArgs (top 19), defBody (top 19), defScope (top 19), _, _, ⟨3, 6, [false, false, false], b_dealt⟩, FD, s_dealt, rfl, rfl, rfl, rfl, He.glo_ok X G (c.fact 12 (f := .glo "dealt") rfl),
    FunD.bindsN FD fun _ _ _ _ _ _ us hl => match us, hl with | [_, _, _], _ => rfl, fun n cdv A outer s H E O pw => t_dealt O pw⟩
theorem f_finest_change (X : K.In h) (G : h.Ns mainGlobals mg) (c : He.SaysD fa fn K) : Df P w K mg base xf pg sg fr "finest_change" 3 := by
  obtain ⟨fdat, FD⟩ := c.def_ 13 (d := d_finest_change) rfl
  exact ⟨_, fdat, "finest_change", defArgs (top 21), defBody (top 21), defScope (top 21), _, _, ⟨3, 3, [false, false, false], b_finest_change⟩, FD, s_finest_change, rfl, rfl, rfl, rfl, He.glo_ok X G (c.fact 13 (f := .glo "finest_change") rfl),
    FunD.bindsN FD fun _ _ _ _ _ _ us hl => match us, hl with | [_, _, _], _ => rfl, fun n cdv A outer s H E O pw => t_finest_change O pw⟩
theorem f_is_finest (X : K.In h) (G : h.Ns mainGlobals mg) (c : He.SaysD fa fn K) : Df P w K mg base xf pg sg fr "is_finest" 4 := by
  obtain ⟨fdat, FD⟩ := c.def_ 14 (d := d_is_finest) rfl
  exact ⟨_, fdat, "is_finest", defArgs (top 22), defBody (top 22), defScope (top 22), _, _, ⟨4, 4, [false, false, false, false], b_is_finest⟩, FD, s_is_finest, rfl, rfl, rfl, rfl, He.glo_ok X G (c.fact 14 (f := .glo "is_finest") rfl),
    FunD.bindsN FD fun _ _ _ _ _ _ us hl => match us, hl with | [_, _, _, _], _ => rfl, fun n cdv A outer s H E O pw => t_is_finest O pw⟩
theorem f_finest_behind (X : K.In h) (G : h.Ns mainGlobals mg) (c : He.SaysD fa fn K) : Df P w K mg base xf pg sg fr "finest_behind" 3 := by
  obtain ⟨fdat, FD⟩ := c.def_ 15 (d := d_finest_behind) rfl
  exact ⟨_, fdat, "finest_behind", defArgs (top 23), defBody (top 23), defScope (top 23), _, _, ⟨3, 5, [false, false, false], b_finest_behind⟩, FD, s_finest_behind, rfl, rfl, rfl, rfl, He.glo_ok X G (c.fact 15 (f := .glo "finest_behind") rfl),
    FunD.bindsN FD fun _ _ _ _ _ _ us hl => match us, hl with | [_, _, _], _ => rfl, fun n cdv A outer s H E O pw => t_finest_behind O pw⟩
theorem f_parting_rows (X : K.In h) (G : h.Ns mainGlobals mg) (c : He.SaysD fa fn K) : Df P w K mg base xf pg sg fr "parting_rows" 1 := by
  obtain ⟨fdat, FD⟩ := c.def_ 16 (d := d_parting_rows) rfl
  exact ⟨_, fdat, "parting_rows", defArgs (top 24), defBody (top 24), defScope (top 24), _, _, ⟨1, 11, [false], b_parting_rows⟩, FD, s_parting_rows, rfl, rfl, rfl, rfl, He.glo_ok X G (c.fact 16 (f := .glo "parting_rows") rfl),
    FunD.bindsN FD fun _ _ _ _ _ _ us hl => match us, hl with | [_], _ => rfl, fun n cdv A outer s H E O pw => t_parting_rows O pw⟩
theorem f__law_bag (X : K.In h) (G : h.Ns mainGlobals mg) (c : He.SaysD fa fn K) : Df P w K mg base xf pg sg fr "_law_bag" 1 := by
  obtain ⟨fdat, FD⟩ := c.def_ 17 (d := d__law_bag) rfl
  exact ⟨_, fdat, "_law_bag", defArgs (top 26), defBody (top 26), defScope (top 26), _, _, ⟨1, 2, [false], b__law_bag⟩, FD, s__law_bag, rfl, rfl, rfl, rfl, He.glo_ok X G (c.fact 17 (f := .glo "_law_bag") rfl),
    FunD.bindsN FD fun _ _ _ _ _ _ us hl => match us, hl with | [_], _ => rfl, fun n cdv A outer s H E O pw => t__law_bag O pw⟩
theorem f__law_take (X : K.In h) (G : h.Ns mainGlobals mg) (c : He.SaysD fa fn K) : Df P w K mg base xf pg sg fr "_law_take" 2 := by
  obtain ⟨fdat, FD⟩ := c.def_ 18 (d := d__law_take) rfl
  exact ⟨_, fdat, "_law_take", defArgs (top 27), defBody (top 27), defScope (top 27), _, _, ⟨2, 7, [true, false], b__law_take⟩, FD, s__law_take, rfl, rfl, rfl, rfl, He.glo_ok X G (c.fact 18 (f := .glo "_law_take") rfl),
    FunD.bindsN FD fun _ _ _ _ _ _ us hl => match us, hl with | [_, _], _ => rfl, fun n cdv A outer s H E O pw => t__law_take O pw⟩
theorem f__law_some (X : K.In h) (G : h.Ns mainGlobals mg) (c : He.SaysD fa fn K) : Df P w K mg base xf pg sg fr "_law_some" 2 := by
  obtain ⟨fdat, FD⟩ := c.def_ 19 (d := d__law_some) rfl
  exact ⟨_, fdat, "_law_some", defArgs (top 28), defBody (top 28), defScope (top 28), _, _, ⟨2, 2, [true, false], b__law_some⟩, FD, s__law_some, rfl, rfl, rfl, rfl, He.glo_ok X G (c.fact 19 (f := .glo "_law_some") rfl),
    FunD.bindsN FD fun _ _ _ _ _ _ us hl => match us, hl with | [_, _], _ => rfl, fun n cdv A outer s H E O pw => t__law_some O pw⟩
theorem f__law_alike (X : K.In h) (G : h.Ns mainGlobals mg) (c : He.SaysD fa fn K) : Df P w K mg base xf pg sg fr "_law_alike" 2 := by
  obtain ⟨fdat, FD⟩ := c.def_ 20 (d := d__law_alike) rfl
  exact ⟨_, fdat, "_law_alike", defArgs (top 29), defBody (top 29), defScope (top 29), _, _, ⟨2, 6, [false, false], b__law_alike⟩, FD, s__law_alike, rfl, rfl, rfl, rfl, He.glo_ok X G (c.fact 20 (f := .glo "_law_alike") rfl),
    FunD.bindsN FD fun _ _ _ _ _ _ us hl => match us, hl with | [_, _], _ => rfl, fun n cdv A outer s H E O pw => t__law_alike O pw⟩
theorem f__law_plus (X : K.In h) (G : h.Ns mainGlobals mg) (c : He.SaysD fa fn K) : Df P w K mg base xf pg sg fr "_law_plus" 2 := by
  obtain ⟨fdat, FD⟩ := c.def_ 21 (d := d__law_plus) rfl
  exact ⟨_, fdat, "_law_plus", defArgs (top 30), defBody (top 30), defScope (top 30), _, _, ⟨2, 4, [false, false], b__law_plus⟩, FD, s__law_plus, rfl, rfl, rfl, rfl, He.glo_ok X G (c.fact 21 (f := .glo "_law_plus") rfl),
    FunD.bindsN FD fun _ _ _ _ _ _ us hl => match us, hl with | [_, _], _ => rfl, fun n cdv A outer s H E O pw => t__law_plus O pw⟩
theorem f__law_less (X : K.In h) (G : h.Ns mainGlobals mg) (c : He.SaysD fa fn K) : Df P w K mg base xf pg sg fr "_law_less" 2 := by
  obtain ⟨fdat, FD⟩ := c.def_ 22 (d := d__law_less) rfl
  exact ⟨_, fdat, "_law_less", defArgs (top 31), defBody (top 31), defScope (top 31), _, _, ⟨2, 4, [false, false], b__law_less⟩, FD, s__law_less, rfl, rfl, rfl, rfl, He.glo_ok X G (c.fact 22 (f := .glo "_law_less") rfl),
    FunD.bindsN FD fun _ _ _ _ _ _ us hl => match us, hl with | [_, _], _ => rfl, fun n cdv A outer s H E O pw => t__law_less O pw⟩
theorem f__law_worth (X : K.In h) (G : h.Ns mainGlobals mg) (c : He.SaysD fa fn K) : Df P w K mg base xf pg sg fr "_law_worth" 2 := by
  obtain ⟨fdat, FD⟩ := c.def_ 23 (d := d__law_worth) rfl
  exact ⟨_, fdat, "_law_worth", defArgs (top 32), defBody (top 32), defScope (top 32), _, _, ⟨2, 4, [false, false], b__law_worth⟩, FD, s__law_worth, rfl, rfl, rfl, rfl, He.glo_ok X G (c.fact 23 (f := .glo "_law_worth") rfl),
    FunD.bindsN FD fun _ _ _ _ _ _ us hl => match us, hl with | [_, _], _ => rfl, fun n cdv A outer s H E O pw => t__law_worth O pw⟩
theorem f__law_rows_worth (X : K.In h) (G : h.Ns mainGlobals mg) (c : He.SaysD fa fn K) : Df P w K mg base xf pg sg fr "_law_rows_worth" 3 := by
  obtain ⟨fdat, FD⟩ := c.def_ 24 (d := d__law_rows_worth) rfl
  exact ⟨_, fdat, "_law_rows_worth", defArgs (top 33), defBody (top 33), defScope (top 33), _, _, ⟨3, 10, [false, false, false], b__law_rows_worth⟩, FD, s__law_rows_worth, rfl, rfl, rfl, rfl, He.glo_ok X G (c.fact 24 (f := .glo "_law_rows_worth") rfl),
    FunD.bindsN FD fun _ _ _ _ _ _ us hl => match us, hl with | [_, _, _], _ => rfl, fun n cdv A outer s H E O pw => t__law_rows_worth O pw⟩
theorem f__law_due (X : K.In h) (G : h.Ns mainGlobals mg) (c : He.SaysD fa fn K) : Df P w K mg base xf pg sg fr "_law_due" 2 := by
  obtain ⟨fdat, FD⟩ := c.def_ 25 (d := d__law_due) rfl
  exact ⟨_, fdat, "_law_due", defArgs (top 34), defBody (top 34), defScope (top 34), _, _, ⟨2, 2, [false, false], b__law_due⟩, FD, s__law_due, rfl, rfl, rfl, rfl, He.glo_ok X G (c.fact 25 (f := .glo "_law_due") rfl),
    FunD.bindsN FD fun _ _ _ _ _ _ us hl => match us, hl with | [_, _], _ => rfl, fun n cdv A outer s H E O pw => t__law_due O pw⟩
theorem f__law_changes (X : K.In h) (G : h.Ns mainGlobals mg) (c : He.SaysD fa fn K) : Df P w K mg base xf pg sg fr "_law_changes" 3 := by
  obtain ⟨fdat, FD⟩ := c.def_ 26 (d := d__law_changes) rfl
  exact ⟨_, fdat, "_law_changes", defArgs (top 35), defBody (top 35), defScope (top 35), _, _, ⟨3, 3, [false, false, false], b__law_changes⟩, FD, s__law_changes, rfl, rfl, rfl, rfl, He.glo_ok X G (c.fact 26 (f := .glo "_law_changes") rfl),
    FunD.bindsN FD fun _ _ _ _ _ _ us hl => match us, hl with | [_, _, _], _ => rfl, fun n cdv A outer s H E O pw => t__law_changes O pw⟩
theorem f__law_sale (X : K.In h) (G : h.Ns mainGlobals mg) (c : He.SaysD fa fn K) : Df P w K mg base xf pg sg fr "_law_sale" 3 := by
  obtain ⟨fdat, FD⟩ := c.def_ 27 (d := d__law_sale) rfl
  exact ⟨_, fdat, "_law_sale", defArgs (top 36), defBody (top 36), defScope (top 36), _, _, ⟨3, 6, [true, false, false], b__law_sale⟩, FD, s__law_sale, rfl, rfl, rfl, rfl, He.glo_ok X G (c.fact 27 (f := .glo "_law_sale") rfl),
    FunD.bindsN FD fun _ _ _ _ _ _ us hl => match us, hl with | [_, _, _], _ => rfl, fun n cdv A outer s H E O pw => t__law_sale O pw⟩
theorem f__law_chain (X : K.In h) (G : h.Ns mainGlobals mg) (c : He.SaysD fa fn K) : Df P w K mg base xf pg sg fr "_law_chain" 1 := by
  obtain ⟨fdat, FD⟩ := c.def_ 28 (d := d__law_chain) rfl
  exact ⟨_, fdat, "_law_chain", defArgs (top 37), defBody (top 37), defScope (top 37), _, _, ⟨1, 2, [true], b__law_chain⟩, FD, s__law_chain, rfl, rfl, rfl, rfl, He.glo_ok X G (c.fact 28 (f := .glo "_law_chain") rfl),
    FunD.bindsN FD fun _ _ _ _ _ _ us hl => match us, hl with | [_], _ => rfl, fun n cdv A outer s H E O pw => t__law_chain O pw⟩
theorem f__law_worths (X : K.In h) (G : h.Ns mainGlobals mg) (c : He.SaysD fa fn K) : Df P w K mg base xf pg sg fr "_law_worths" 2 := by
  obtain ⟨fdat, FD⟩ := c.def_ 29 (d := d__law_worths) rfl
  exact ⟨_, fdat, "_law_worths", defArgs (top 38), defBody (top 38), defScope (top 38), _, _, ⟨2, 5, [false, false], b__law_worths⟩, FD, s__law_worths, rfl, rfl, rfl, rfl, He.glo_ok X G (c.fact 29 (f := .glo "_law_worths") rfl),
    FunD.bindsN FD fun _ _ _ _ _ _ us hl => match us, hl with | [_, _], _ => rfl, fun n cdv A outer s H E O pw => t__law_worths O pw⟩
theorem f__law_is_finer (X : K.In h) (G : h.Ns mainGlobals mg) (c : He.SaysD fa fn K) : Df P w K mg base xf pg sg fr "_law_is_finer" 3 := by
  obtain ⟨fdat, FD⟩ := c.def_ 30 (d := d__law_is_finer) rfl
  exact ⟨_, fdat, "_law_is_finer", defArgs (top 39), defBody (top 39), defScope (top 39), _, _, ⟨3, 5, [false, false, false], b__law_is_finer⟩, FD, s__law_is_finer, rfl, rfl, rfl, rfl, He.glo_ok X G (c.fact 30 (f := .glo "_law_is_finer") rfl),
    FunD.bindsN FD fun _ _ _ _ _ _ us hl => match us, hl with | [_, _, _], _ => rfl, fun n cdv A outer s H E O pw => t__law_is_finer O pw⟩
theorem f__law_served (X : K.In h) (G : h.Ns mainGlobals mg) (c : He.SaysD fa fn K) : Df P w K mg base xf pg sg fr "_law_served" 3 := by
  obtain ⟨fdat, FD⟩ := c.def_ 31 (d := d__law_served) rfl
  exact ⟨_, fdat, "_law_served", defArgs (top 40), defBody (top 40), defScope (top 40), _, _, ⟨3, 10, [false, false, false], b__law_served⟩, FD, s__law_served, rfl, rfl, rfl, rfl, He.glo_ok X G (c.fact 31 (f := .glo "_law_served") rfl),
    FunD.bindsN FD fun _ _ _ _ _ _ us hl => match us, hl with | [_, _, _], _ => rfl, fun n cdv A outer s H E O pw => t__law_served O pw⟩
theorem f__law_greedy (X : K.In h) (G : h.Ns mainGlobals mg) (c : He.SaysD fa fn K) : Df P w K mg base xf pg sg fr "_law_greedy" 3 := by
  obtain ⟨fdat, FD⟩ := c.def_ 32 (d := d__law_greedy) rfl
  exact ⟨_, fdat, "_law_greedy", defArgs (top 41), defBody (top 41), defScope (top 41), _, _, ⟨3, 6, [false, false, false], b__law_greedy⟩, FD, s__law_greedy, rfl, rfl, rfl, rfl, He.glo_ok X G (c.fact 32 (f := .glo "_law_greedy") rfl),
    FunD.bindsN FD fun _ _ _ _ _ _ us hl => match us, hl with | [_, _, _], _ => rfl, fun n cdv A outer s H E O pw => t__law_greedy O pw⟩
theorem f__law_change_right (X : K.In h) (G : h.Ns mainGlobals mg) (c : He.SaysD fa fn K) : Df P w K mg base xf pg sg fr "_law_change_right" 3 := by
  obtain ⟨fdat, FD⟩ := c.def_ 33 (d := d__law_change_right) rfl
  exact ⟨_, fdat, "_law_change_right", defArgs (top 42), defBody (top 42), defScope (top 42), _, _, ⟨3, 9, [false, false, false], b__law_change_right⟩, FD, s__law_change_right, rfl, rfl, rfl, rfl, He.glo_ok X G (c.fact 33 (f := .glo "_law_change_right") rfl),
    FunD.bindsN FD fun _ _ _ _ _ _ us hl => match us, hl with | [_, _, _], _ => rfl, fun n cdv A outer s H E O pw => t__law_change_right O pw⟩
theorem f__law_parted_right (X : K.In h) (G : h.Ns mainGlobals mg) (c : He.SaysD fa fn K) : Df P w K mg base xf pg sg fr "_law_parted_right" 1 := by
  obtain ⟨fdat, FD⟩ := c.def_ 34 (d := d__law_parted_right) rfl
  exact ⟨_, fdat, "_law_parted_right", defArgs (top 43), defBody (top 43), defScope (top 43), _, _, ⟨1, 14, [true], b__law_parted_right⟩, FD, s__law_parted_right, rfl, rfl, rfl, rfl, He.glo_ok X G (c.fact 34 (f := .glo "_law_parted_right") rfl),
    FunD.bindsN FD fun _ _ _ _ _ _ us hl => match us, hl with | [_], _ => rfl, fun n cdv A outer s H E O pw => t__law_parted_right O pw⟩
theorem f_law (X : K.In h) (G : h.Ns mainGlobals mg) (c : He.SaysD fa fn K) : Df P w K mg base xf pg sg fr "law" 1 := by
  obtain ⟨fdat, FD⟩ := c.def_ 35 (d := d_law) rfl
  exact ⟨_, fdat, "law", defArgs (top 44), defBody (top 44), defScope (top 44), _, _, ⟨1, 12, [false], b_law⟩, FD, s_law, rfl, rfl, rfl, rfl, He.glo_ok X G (c.fact 35 (f := .glo "law") rfl),
    FunD.bindsN FD fun _ _ _ _ _ _ us hl => match us, hl with | [_], _ => rfl, fun n cdv A outer s H E O pw => t_law O pw⟩
theorem all_free (X : K.In h) (G : h.Ns mainGlobals mg) (c : He.SaysD fa fn K) : ∀ x, fr.contains x = true → mg x = none := by
  intro x hx
  have hx2 : x ∈ fr := by simpa using hx
  have all : ∀ y ∈ fr, mg y = none := by
    unfold fr
    exact List.forall_mem_cons.mpr ⟨He.free_ok X G (c.fact 36 (f := .free "abs") rfl), List.forall_mem_cons.mpr ⟨He.free_ok X G (c.fact 37 (f := .free "all") rfl), List.forall_mem_cons.mpr ⟨He.free_ok X G (c.fact 38 (f := .free "bool") rfl), List.forall_mem_cons.mpr ⟨He.free_ok X G (c.fact 39 (f := .free "dict") rfl), List.forall_mem_cons.mpr ⟨He.free_ok X G (c.fact 40 (f := .free "enumerate") rfl), List.forall_mem_cons.mpr ⟨He.free_ok X G (c.fact 41 (f := .free "int") rfl), List.forall_mem_cons.mpr ⟨He.free_ok X G (c.fact 42 (f := .free "isinstance") rfl), List.forall_mem_cons.mpr ⟨He.free_ok X G (c.fact 43 (f := .free "len") rfl), List.forall_mem_cons.mpr ⟨He.free_ok X G (c.fact 44 (f := .free "list") rfl), List.forall_mem_cons.mpr ⟨He.free_ok X G (c.fact 45 (f := .free "max") rfl), List.forall_mem_cons.mpr ⟨He.free_ok X G (c.fact 46 (f := .free "min") rfl), List.forall_mem_cons.mpr ⟨He.free_ok X G (c.fact 47 (f := .free "range") rfl), List.forall_mem_cons.mpr ⟨He.free_ok X G (c.fact 48 (f := .free "sorted") rfl), List.forall_mem_cons.mpr ⟨He.free_ok X G (c.fact 49 (f := .free "str") rfl), List.forall_mem_cons.mpr ⟨He.free_ok X G (c.fact 50 (f := .free "sum") rfl), List.forall_mem_cons.mpr ⟨He.free_ok X G (c.fact 51 (f := .free "tuple") rfl), List.forall_mem_cons.mpr ⟨He.free_ok X G (c.fact 52 (f := .free "zip") rfl), List.forall_mem_nil _⟩⟩⟩⟩⟩⟩⟩⟩⟩⟩⟩⟩⟩⟩⟩⟩⟩
  exact all x hx2
theorem all_defs (X : K.In h) (G : h.Ns mainGlobals mg) (c : He.SaysD fa fn K) : ∀ f np, sg.lookup f = some np → Df P w K mg base xf pg sg fr f np := by
  have all : ∀ p ∈ sg, Df P w K mg base xf pg sg fr p.1 p.2 := by
    unfold sg
    exact List.forall_mem_cons.mpr ⟨f_is_integer X G c, List.forall_mem_cons.mpr ⟨f_are_all X G c, List.forall_mem_cons.mpr ⟨f_are_integers X G c, List.forall_mem_cons.mpr ⟨f_is_above X G c, List.forall_mem_cons.mpr ⟨f_added X G c, List.forall_mem_cons.mpr ⟨f_less X G c, List.forall_mem_cons.mpr ⟨f_worth X G c, List.forall_mem_cons.mpr ⟨f_is_chain_here X G c, List.forall_mem_cons.mpr ⟨f_need_chain X G c, List.forall_mem_cons.mpr ⟨f_small_worths X G c, List.forall_mem_cons.mpr ⟨f_is_finer X G c, List.forall_mem_cons.mpr ⟨f_greatest_first X G c, List.forall_mem_cons.mpr ⟨f_dealt X G c, List.forall_mem_cons.mpr ⟨f_finest_change X G c, List.forall_mem_cons.mpr ⟨f_is_finest X G c, List.forall_mem_cons.mpr ⟨f_finest_behind X G c, List.forall_mem_cons.mpr ⟨f_parting_rows X G c, List.forall_mem_cons.mpr ⟨f__law_bag X G c, List.forall_mem_cons.mpr ⟨f__law_take X G c, List.forall_mem_cons.mpr ⟨f__law_some X G c, List.forall_mem_cons.mpr ⟨f__law_alike X G c, List.forall_mem_cons.mpr ⟨f__law_plus X G c, List.forall_mem_cons.mpr ⟨f__law_less X G c, List.forall_mem_cons.mpr ⟨f__law_worth X G c, List.forall_mem_cons.mpr ⟨f__law_rows_worth X G c, List.forall_mem_cons.mpr ⟨f__law_due X G c, List.forall_mem_cons.mpr ⟨f__law_changes X G c, List.forall_mem_cons.mpr ⟨f__law_sale X G c, List.forall_mem_cons.mpr ⟨f__law_chain X G c, List.forall_mem_cons.mpr ⟨f__law_worths X G c, List.forall_mem_cons.mpr ⟨f__law_is_finer X G c, List.forall_mem_cons.mpr ⟨f__law_served X G c, List.forall_mem_cons.mpr ⟨f__law_greedy X G c, List.forall_mem_cons.mpr ⟨f__law_change_right X G c, List.forall_mem_cons.mpr ⟨f__law_parted_right X G c, List.forall_mem_cons.mpr ⟨f_law X G c, List.forall_mem_nil _⟩⟩⟩⟩⟩⟩⟩⟩⟩⟩⟩⟩⟩⟩⟩⟩⟩⟩⟩⟩⟩⟩⟩⟩⟩⟩⟩⟩⟩⟩⟩⟩⟩⟩⟩⟩
  exact fun f np hl => all (f, np) (lookup_mem hl)
end
end L98
open PySem PySem.W PySem.Calls PyProof.Rows
theorem L98.holds {k : Nat} (hr : L2.Room (k + 1) callerA) (hlaw : ∀ ns : List Int, ns.length ≤ 63 → ∃ as, Dv.evF L98.pg (k + 1) "law" [.scr ns] = .ret (.bl true) as) : PySem.Challenge.rw_coinready_k98_whole_greatest_first_in_ch.Holds := by
  w_on; o_law
  refine HandSHeadRun.head_any (r := OpenLaw.row PySem.Challenge.rw_coinready_k98_whole_greatest_first_in_ch) (q := view (OpenLaw.row PySem.Challenge.rw_coinready_k98_whole_greatest_first_in_ch).prog [44]) (H := L98.hk) (ob := L98.ob) (M := 4000) (loose := L98.loose) (d := HandSHeadRun.topDef (OpenLaw.row PySem.Challenge.rw_coinready_k98_whole_greatest_first_in_ch).prog 44) (kwd := []) L98.ob_eq
    (by kernel_rfl) (fun s => by kernel_rfl) L98.run (by kernel_rfl) (by kernel_rfl) (by kernel_rfl) (by rfl) (by first | assumption | decide +kernel) (by decide +kernel) ⟨rfl, rfl, rfl, rfl, rfl, by decide +kernel⟩ ?hw ?hc
  case hw => w_witness2
  case hc =>
    refine L2.walk_ofE (l := PySem.Challenge.rw_coinready_k98_whole_greatest_first_in_ch) (n := 63) (k := k + 1) (x := "script") (CX := Dv.CXw PySem.Challenge.rw_coinready_k98_whole_greatest_first_in_ch.prog) rfl (by decide) (by kernel_rfl) hr ?F Dv.cxw_none
    intro w mg fa h Y G hmg0
    obtain ⟨K, KX, c⟩ := Y
    have hmg : mg ("law" : PySem.Str) = some (.ref fa) := by
      have e : (HandSHeadRun.topDef (OpenLaw.row PySem.Challenge.rw_coinready_k98_whole_greatest_first_in_ch).prog 44).name = ("law" : PySem.Str) := by kernel_rfl
      rw [← e]
      exact hmg0
    obtain ⟨fd, FD⟩ := He.SaysD.def_ c 35 (d := L98.d_law) rfl
    have e := hmg.symm.trans (He.glo_ok KX G (He.SaysD.fact c 35 (f := .glo "law") rfl))
    cases e
    have b := L2.FunD.bindsA (ps := ["script"]) FD fun _ _ _ _ _ _ us hl => match us, hl with | [_], _ => rfl
    have fre := L98.all_free KX G c
    refine ⟨K, fd, Dv.spF K mg (fun _ => []) 1 (Dv.modes L98.pg "law") (Dv.evF L98.pg (k + 1) "law"), KX, fun s v => b s [v] rfl, fun H a ns hl _ hS => Dv.sp_law (Dv.calOk_ev (fd := ⟨1, 12, [false], L98.b_law⟩) rfl) hS (hlaw ns hl), fun base _ _ => ?_⟩
    refine Dv.fnOk_cx (Dv.def_ok (sg := L98.sg) (fr := L98.fr) fre (Dv.all_ok fre (L98.all_defs KX G c) k) FD L98.s_law rfl rfl rfl rfl fun n cdv A outer s H E O pw => L98.t_law O pw) fun outer H s E u s2 z => ⟨w, z⟩
end
set_option Elab.async false
set_option linter.all false
open PySem PySem.W PySem.Calls PyProof.Rows in
theorem Dv.room7 : L2.Room (6 + 1) callerA := ⟨rfl, by decide, by decide⟩
theorem PySem.Challenge.cw_coinready_k98_whole_greatest_first_in_ch_holds : PySem.Challenge.rw_coinready_k98_whole_greatest_first_in_ch.Holds :=
  L98.holds (k := 6) Dv.room7 (fun ns h => Dv.law_true (n := 0) h)

